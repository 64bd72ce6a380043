/- This text proves what functions of this seat's program answer, run by the evaluator; no condition. -/
import Derived.Test.YtiakbjhnpchbhaaGreatTx3
set_option maxHeartbeats 8000000
set_option linter.unusedVariables false
set_option linter.unusedSimpArgs false
set_option linter.unusedSectionVars false
set_option maxRecDepth 10000
namespace Go.TrRun
open Go Go.Eng
theorem z2C{l:List Int}(h:l≠[]):zu l≠[]:=by simpa [zu]using h
theorem copy0:R L Cs z2u [.a [I 0,.jc (Zbn []),.jc []]] []=some (.w (.a [I 0,.jd,.jd]),[]):=by
 rw[zUa z2D rfl];simp[z2v,snC,agC,zg,Zbn,z2H];rw[ZfM z7C.eq_1];simp[zX,zg,agC,zH]
theorem copy1(a:AgV)(ha:a.jf≠[]/\a.jf.length<=8):R L Cs z2u [.a [I 0,.jc (Zbn [a]),.jc []]] []=some (.w (.a [I 0,.slice 0 1 7 0 1 none,.jd]),[some { box:=false,esz:=7,rows:=Zbn [a],gen:=1,fz:=false,ver:=1 }]):=by
 have a1:=z2C ha.1;have a2:a.jf.length*8<=140737488355328:=by omega
 have w1:IntKind.i64.wrap 1=1:=rfl;rw[zUa z2D rfl];simp[z2v,snC,agC,zg,Zbn,z2H];rw[ZfM z7C.eq_1];simp[zX,zg,agC,a1,a2,w1,zH];rw[ZfM z7C.eq_1];simp[zX,zg,agC,a1,a2,w1,zH]
theorem copy2(a b:AgV)(ha:a.jf≠[]/\a.jf.length<=8)(hb:b.jf≠[]/\b.jf.length<=8):R L Cs z2u [.a [I 0,.jc (Zbn [a,b]),.jc []]] []=some (.w (.a [I 0,.slice 0 2 7 0 2 none,.jd]),[some { box:=false,esz:=7,rows:=Zbn [a,b],gen:=2,fz:=false,ver:=2 }]):=by
 have a1:=z2C ha.1;have a2:a.jf.length*8<=140737488355328:=by omega
 have b1:=z2C hb.1;have b2:b.jf.length*8<=140737488355328:=by omega
 have w1:IntKind.i64.wrap 1=1:=rfl;have w2:IntKind.i64.wrap 2=2:=rfl;rw[zUa z2D rfl];simp[z2v,snC,agC,zg,Zbn,z2H];rw[ZfM z7C.eq_1];simp[zX,zg,agC,a1,a2,b1,b2,w1,w2,zH];rw[ZfM z7C.eq_1];simp[zX,zg,agC,a1,a2,b1,b2,w1,w2,zH];rw[ZfM z7C.eq_1];simp[zX,zg,agC,a1,a2,b1,b2,w1,w2,zH]
theorem copy3(a b c:AgV)(ha:a.jf≠[]/\a.jf.length<=8)(hb:b.jf≠[]/\b.jf.length<=8)(hc:c.jf≠[]/\c.jf.length<=8):R L Cs z2u [.a [I 0,.jc (Zbn [a,b,c]),.jc []]] []=some (.w (.a [I 0,.slice 0 3 7 0 3 none,.jd]),[some { box:=false,esz:=7,rows:=Zbn [a,b,c],gen:=3,fz:=false,ver:=3 }]):=by
 have a1:=z2C ha.1;have a2:a.jf.length*8<=140737488355328:=by omega
 have b1:=z2C hb.1;have b2:b.jf.length*8<=140737488355328:=by omega
 have c1:=z2C hc.1;have c2:c.jf.length*8<=140737488355328:=by omega
 have w1:IntKind.i64.wrap 1=1:=rfl;have w2:IntKind.i64.wrap 2=2:=rfl;have w3:IntKind.i64.wrap 3=3:=rfl;rw[zUa z2D rfl];simp[z2v,snC,agC,zg,Zbn,z2H];rw[ZfM z7C.eq_1];simp[zX,zg,agC,a1,a2,b1,b2,c1,c2,w1,w2,w3,zH];rw[ZfM z7C.eq_1];simp[zX,zg,agC,a1,a2,b1,b2,c1,c2,w1,w2,w3,zH];rw[ZfM z7C.eq_1];simp[zX,zg,agC,a1,a2,b1,b2,c1,c2,w1,w2,w3,zH];rw[ZfM z7C.eq_1];simp[zX,zg,agC,a1,a2,b1,b2,c1,c2,w1,w2,w3,zH]
theorem copy4(a b c d:AgV)(ha:a.jf≠[]/\a.jf.length<=8)(hb:b.jf≠[]/\b.jf.length<=8)(hc:c.jf≠[]/\c.jf.length<=8)(hd:d.jf≠[]/\d.jf.length<=8):R L Cs z2u [.a [I 0,.jc (Zbn [a,b,c,d]),.jc []]] []=some (.w (.a [I 0,.slice 0 4 7 0 4 none,.jd]),[some { box:=false,esz:=7,rows:=Zbn [a,b,c,d],gen:=4,fz:=false,ver:=4 }]):=by
 have a1:=z2C ha.1;have a2:a.jf.length*8<=140737488355328:=by omega
 have b1:=z2C hb.1;have b2:b.jf.length*8<=140737488355328:=by omega
 have c1:=z2C hc.1;have c2:c.jf.length*8<=140737488355328:=by omega
 have d1:=z2C hd.1;have d2:d.jf.length*8<=140737488355328:=by omega
 have w1:IntKind.i64.wrap 1=1:=rfl;have w2:IntKind.i64.wrap 2=2:=rfl;have w3:IntKind.i64.wrap 3=3:=rfl;have w4:IntKind.i64.wrap 4=4:=rfl;rw[zUa z2D rfl];simp[z2v,snC,agC,zg,Zbn,z2H];rw[ZfM z7C.eq_1];simp[zX,zg,agC,a1,a2,b1,b2,c1,c2,d1,d2,w1,w2,w3,w4,zH];rw[ZfM z7C.eq_1];simp[zX,zg,agC,a1,a2,b1,b2,c1,c2,d1,d2,w1,w2,w3,w4,zH];rw[ZfM z7C.eq_1];simp[zX,zg,agC,a1,a2,b1,b2,c1,c2,d1,d2,w1,w2,w3,w4,zH];rw[ZfM z7C.eq_1];simp[zX,zg,agC,a1,a2,b1,b2,c1,c2,d1,d2,w1,w2,w3,w4,zH];rw[ZfM z7C.eq_1];simp[zX,zg,agC,a1,a2,b1,b2,c1,c2,d1,d2,w1,w2,w3,w4,zH]
theorem copy5(a b c d e:AgV)(ha:a.jf≠[]/\a.jf.length<=8)(hb:b.jf≠[]/\b.jf.length<=8)(hc:c.jf≠[]/\c.jf.length<=8)(hd:d.jf≠[]/\d.jf.length<=8)(he:e.jf≠[]/\e.jf.length<=8):R L Cs z2u [.a [I 0,.jc (Zbn [a,b,c,d,e]),.jc []]] []=some (.w (.a [I 0,.slice 0 5 7 0 5 none,.jd]),[some { box:=false,esz:=7,rows:=Zbn [a,b,c,d,e],gen:=5,fz:=false,ver:=5 }]):=by
 have a1:=z2C ha.1;have a2:a.jf.length*8<=140737488355328:=by omega
 have b1:=z2C hb.1;have b2:b.jf.length*8<=140737488355328:=by omega
 have c1:=z2C hc.1;have c2:c.jf.length*8<=140737488355328:=by omega
 have d1:=z2C hd.1;have d2:d.jf.length*8<=140737488355328:=by omega
 have e1:=z2C he.1;have e2:e.jf.length*8<=140737488355328:=by omega
 have w1:IntKind.i64.wrap 1=1:=rfl;have w2:IntKind.i64.wrap 2=2:=rfl;have w3:IntKind.i64.wrap 3=3:=rfl;have w4:IntKind.i64.wrap 4=4:=rfl;have w5:IntKind.i64.wrap 5=5:=rfl;rw[zUa z2D rfl];simp[z2v,snC,agC,zg,Zbn,z2H];rw[ZfM z7C.eq_1];simp[zX,zg,agC,a1,a2,b1,b2,c1,c2,d1,d2,e1,e2,w1,w2,w3,w4,w5,zH];rw[ZfM z7C.eq_1];simp[zX,zg,agC,a1,a2,b1,b2,c1,c2,d1,d2,e1,e2,w1,w2,w3,w4,w5,zH];rw[ZfM z7C.eq_1];simp[zX,zg,agC,a1,a2,b1,b2,c1,c2,d1,d2,e1,e2,w1,w2,w3,w4,w5,zH];rw[ZfM z7C.eq_1];simp[zX,zg,agC,a1,a2,b1,b2,c1,c2,d1,d2,e1,e2,w1,w2,w3,w4,w5,zH];rw[ZfM z7C.eq_1];simp[zX,zg,agC,a1,a2,b1,b2,c1,c2,d1,d2,e1,e2,w1,w2,w3,w4,w5,zH];rw[ZfM z7C.eq_1];simp[zX,zg,agC,a1,a2,b1,b2,c1,c2,d1,d2,e1,e2,w1,w2,w3,w4,w5,zH]
theorem copy6(a b c d e f:AgV)(ha:a.jf≠[]/\a.jf.length<=8)(hb:b.jf≠[]/\b.jf.length<=8)(hc:c.jf≠[]/\c.jf.length<=8)(hd:d.jf≠[]/\d.jf.length<=8)(he:e.jf≠[]/\e.jf.length<=8)(hf:f.jf≠[]/\f.jf.length<=8):R L Cs z2u [.a [I 0,.jc (Zbn [a,b,c,d,e,f]),.jc []]] []=some (.w (.a [I 0,.slice 0 6 7 0 6 none,.jd]),[some { box:=false,esz:=7,rows:=Zbn [a,b,c,d,e,f],gen:=6,fz:=false,ver:=6 }]):=by
 have a1:=z2C ha.1;have a2:a.jf.length*8<=140737488355328:=by omega
 have b1:=z2C hb.1;have b2:b.jf.length*8<=140737488355328:=by omega
 have c1:=z2C hc.1;have c2:c.jf.length*8<=140737488355328:=by omega
 have d1:=z2C hd.1;have d2:d.jf.length*8<=140737488355328:=by omega
 have e1:=z2C he.1;have e2:e.jf.length*8<=140737488355328:=by omega
 have f1:=z2C hf.1;have f2:f.jf.length*8<=140737488355328:=by omega
 have w1:IntKind.i64.wrap 1=1:=rfl;have w2:IntKind.i64.wrap 2=2:=rfl;have w3:IntKind.i64.wrap 3=3:=rfl;have w4:IntKind.i64.wrap 4=4:=rfl;have w5:IntKind.i64.wrap 5=5:=rfl;have w6:IntKind.i64.wrap 6=6:=rfl;rw[zUa z2D rfl];simp[z2v,snC,agC,zg,Zbn,z2H];rw[ZfM z7C.eq_1];simp[zX,zg,agC,a1,a2,b1,b2,c1,c2,d1,d2,e1,e2,f1,f2,w1,w2,w3,w4,w5,w6,zH];rw[ZfM z7C.eq_1];simp[zX,zg,agC,a1,a2,b1,b2,c1,c2,d1,d2,e1,e2,f1,f2,w1,w2,w3,w4,w5,w6,zH];rw[ZfM z7C.eq_1];simp[zX,zg,agC,a1,a2,b1,b2,c1,c2,d1,d2,e1,e2,f1,f2,w1,w2,w3,w4,w5,w6,zH];rw[ZfM z7C.eq_1];simp[zX,zg,agC,a1,a2,b1,b2,c1,c2,d1,d2,e1,e2,f1,f2,w1,w2,w3,w4,w5,w6,zH];rw[ZfM z7C.eq_1];simp[zX,zg,agC,a1,a2,b1,b2,c1,c2,d1,d2,e1,e2,f1,f2,w1,w2,w3,w4,w5,w6,zH];rw[ZfM z7C.eq_1];simp[zX,zg,agC,a1,a2,b1,b2,c1,c2,d1,d2,e1,e2,f1,f2,w1,w2,w3,w4,w5,w6,zH];rw[ZfM z7C.eq_1];simp[zX,zg,agC,a1,a2,b1,b2,c1,c2,d1,d2,e1,e2,f1,f2,w1,w2,w3,w4,w5,w6,zH]
theorem copy7(a b c d e f g:AgV)(ha:a.jf≠[]/\a.jf.length<=8)(hb:b.jf≠[]/\b.jf.length<=8)(hc:c.jf≠[]/\c.jf.length<=8)(hd:d.jf≠[]/\d.jf.length<=8)(he:e.jf≠[]/\e.jf.length<=8)(hf:f.jf≠[]/\f.jf.length<=8)(hg:g.jf≠[]/\g.jf.length<=8):R L Cs z2u [.a [I 0,.jc (Zbn [a,b,c,d,e,f,g]),.jc []]] []=some (.w (.a [I 0,.slice 0 7 7 0 7 none,.jd]),[some { box:=false,esz:=7,rows:=Zbn [a,b,c,d,e,f,g],gen:=7,fz:=false,ver:=7 }]):=by
 have a1:=z2C ha.1;have a2:a.jf.length*8<=140737488355328:=by omega
 have b1:=z2C hb.1;have b2:b.jf.length*8<=140737488355328:=by omega
 have c1:=z2C hc.1;have c2:c.jf.length*8<=140737488355328:=by omega
 have d1:=z2C hd.1;have d2:d.jf.length*8<=140737488355328:=by omega
 have e1:=z2C he.1;have e2:e.jf.length*8<=140737488355328:=by omega
 have f1:=z2C hf.1;have f2:f.jf.length*8<=140737488355328:=by omega
 have g1:=z2C hg.1;have g2:g.jf.length*8<=140737488355328:=by omega
 have w1:IntKind.i64.wrap 1=1:=rfl;have w2:IntKind.i64.wrap 2=2:=rfl;have w3:IntKind.i64.wrap 3=3:=rfl;have w4:IntKind.i64.wrap 4=4:=rfl;have w5:IntKind.i64.wrap 5=5:=rfl;have w6:IntKind.i64.wrap 6=6:=rfl;have w7:IntKind.i64.wrap 7=7:=rfl;rw[zUa z2D rfl];simp[z2v,snC,agC,zg,Zbn,z2H];rw[ZfM z7C.eq_1];simp[zX,zg,agC,a1,a2,b1,b2,c1,c2,d1,d2,e1,e2,f1,f2,g1,g2,w1,w2,w3,w4,w5,w6,w7,zH];rw[ZfM z7C.eq_1];simp[zX,zg,agC,a1,a2,b1,b2,c1,c2,d1,d2,e1,e2,f1,f2,g1,g2,w1,w2,w3,w4,w5,w6,w7,zH];rw[ZfM z7C.eq_1];simp[zX,zg,agC,a1,a2,b1,b2,c1,c2,d1,d2,e1,e2,f1,f2,g1,g2,w1,w2,w3,w4,w5,w6,w7,zH];rw[ZfM z7C.eq_1];simp[zX,zg,agC,a1,a2,b1,b2,c1,c2,d1,d2,e1,e2,f1,f2,g1,g2,w1,w2,w3,w4,w5,w6,w7,zH];rw[ZfM z7C.eq_1];simp[zX,zg,agC,a1,a2,b1,b2,c1,c2,d1,d2,e1,e2,f1,f2,g1,g2,w1,w2,w3,w4,w5,w6,w7,zH];rw[ZfM z7C.eq_1];simp[zX,zg,agC,a1,a2,b1,b2,c1,c2,d1,d2,e1,e2,f1,f2,g1,g2,w1,w2,w3,w4,w5,w6,w7,zH];rw[ZfM z7C.eq_1];simp[zX,zg,agC,a1,a2,b1,b2,c1,c2,d1,d2,e1,e2,f1,f2,g1,g2,w1,w2,w3,w4,w5,w6,w7,zH];rw[ZfM z7C.eq_1];simp[zX,zg,agC,a1,a2,b1,b2,c1,c2,d1,d2,e1,e2,f1,f2,g1,g2,w1,w2,w3,w4,w5,w6,w7,zH]
def z32(l:List z45):List (List Cl):=l.map z3N
@[simp] theorem z7n(l:List z45):(z32 l).length=l.length:=by simp[z32]
@[simp] theorem z6D{l:List z45}{i:Nat}(h:i<(z32 l).length):(z32 l)[i]=z3N (l[i]'(by simpa using h)):=by simp[z32]
@[simp] theorem z7t(a:z45):(z3N a).length=6:=rfl
@[simp] theorem z66(l:List AgV):(∀x,x∈Zbn l->x.length=7)<->True:=by simp[Zbn]
def z3C:List Cl:=[I 0,.jc [],.jc []]
def Zgp(m:zD)(zs:List Zon)(a b:AgV):Prop:=ZbU m a b=false/\∀z,z<zs.length->ZcH m zs a b a b z=false
def Zeq(m:zD)(zs:List Zon)(l:List AgV):Prop:=∀(i j:Nat) (hi:i<l.length) (hj:j<l.length),i<j->(l[i]'hi).start<=0->(l[j]'hj).start<=0->Zgp m zs (l[i]'hi) (l[j]'hj)
structure ZeX(m:zD)(zs:List Zon)(sg:Bool)(l:List AgV):Prop where
 own:∀h:0<l.length,l[0].start=0
 free:∀h:0<l.length,l[0].uZ=false
 all:sg=true->∀(j:Nat) (hj:j<l.length),0<j->l[j].uZ=true
 apart:Zeq m zs l
def z6t(m:zD)(zs:List Zon):Prop:=∀l:List AgV,0<l.length->l.length<=7->(∀a∈l,KAg m a)->(∀h:0<l.length,l[0].start=0)->∃(e:Int) (ins:List z2T),ins.length<=1000/\((z31 m ⟨0,l,[]⟩=0->l.length=1->e=0)/\(e=0->Zeq m zs l))/\R L Cs z3v [.a (zf m),.c (.jc (Zbn l))] []=some (.t [.a (if e=0 then snC ⟨0,l,ins⟩ else z3C),W e],[])
def agW(l:List AgV):Cl:=if l=[] then .slice 2 0 7 0 0 none else .jc (Zbn l)
abbrev scM(m:zD)(v:Nat)(st:List Cl):Mem:=[bx 5 (zf m),bx 3 [I 0,.jd,.jd],gb 7,bxv v 3 st]
abbrev scE(q:List z45)(l:List AgV)(i:Nat):Env:=[(5,.w (.c (agW l))),(8,.w (W i)),(4,.w (Pt 1)),(1,.w (.c (.jc (z32 q)))),(2,.w (Pt 0)),(6,.w (Pt 3))]
def z6u(m:zD)(zs:List Zon)(sg:Bool)(l:List AgV)(st:List Cl):Prop:=(∃A B:List (List Cl),st=[I 0,.jc A,.jc B])/\(∀a∈l,KAg m a)/\ZeX m zs sg l/\(l≠[]->∃ins:List z2T,ins.length<=1000/\st=snC ⟨0,l,ins⟩)
theorem z6A{m:zD}{zs:List Zon}{ss:List Sgn}(hF:z7y m zs ss)(hN:z6t m zs)(sg:Bool)(q:List z45)(hsg:sg=true->∀x∈q,x.dis=false)(hq:q.length<=7)(v:Nat)(st:List Cl)(hst:z6u m zs sg [] st)(i:Nat)(hi:i<q.length):∃(l:List AgV) (v':Nat) (st':List Cl),l.length<=i+1/\z6u m zs sg l st'/\Y L Cs z2s (some [5,8,4,1,2,6]) 4 (scE q [] i) (scM m v st)=Y L Cs z2s (some [5,8,4,1,2,6]) 4 (scE q l (i+1)) (scM m v' st'):=by
 have hw:=zB (i:=i) (by omega);obtain⟨a,ha,h0,⟨_,ho⟩,hA⟩:=z5h hF q[i] true;obtain⟨e,ins,BC,⟨_,hnt⟩,hNw⟩:=hN [a] (by simp) (by simp) (by simpa using ha) (by intro _;exact h0 rfl);have hci:(i:Int)<q.length:=by omega
 obtain⟨A,B,rfl⟩:=hst.1;simp only[zf,z3N,agC,Zbn,kV,qi]at hA hNw;by_cases c:e=0
 ·refine⟨[a],v+1,snC ⟨0,[a],ins⟩,by simp,⟨⟨_,_,rfl⟩,by simpa using ha,⟨by intro _;exact h0 rfl,by intro _;simpa using ho,by intro _ j hj hp;simp at hj;omega,hnt c⟩,fun _=>⟨ins,BC,rfl⟩⟩,?_⟩;subst c;rw[if_pos rfl]at hNw;rw[ZfM z2s.eq_1];simp only[snC,Zbn,kV,qi,agC]at hNw;simp[scE,scM,agW,z3C,zf,z3N,agC,hi,hci,hw,hA,hNw,zg,zH,zX,snC,Zbn]
 ·refine⟨[],v,_,by simp,hst,?_⟩;have cb:(e==0)=false:=by simp[c]
  rw[if_neg c]at hNw;rw[ZfM z2s.eq_1];simp only[z3C]at hNw;simp[scE,scM,agW,z3C,zf,z3N,agC,hi,hci,hw,hA,hNw,c,cb,zg,zH,zX]
theorem z64{m:zD}{zs:List Zon}{ss:List Sgn}(hF:z7y m zs ss)(hN:z6t m zs)(sg:Bool)(q:List z45)(hsg:sg=true->∀x∈q,x.dis=false)(hq:q.length<=7)(v:Nat)(st:List Cl)(l:List AgV)(hl:l≠[])(hst:z6u m zs sg l st)(i:Nat)(hi:i<q.length)(hli:l.length<=i):∃(l':List AgV) (v':Nat) (st':List Cl),l'.length<=i+1/\z6u m zs sg l' st'/\Y L Cs z2s (some [5,8,4,1,2,6]) 4 (scE q l i) (scM m v st)=Y L Cs z2s (some [5,8,4,1,2,6]) 4 (scE q l' (i+1)) (scM m v' st'):=by
 have hw:=zB (i:=i) (by omega);have hp:0<l.length:=kj.2 hl;obtain⟨a,ha,h0,⟨_,ho⟩,hA⟩:=z5h hF q[i] false;have vo:∀x∈l++[a],KAg m x:=by
  intro x hx;rcases jt.1 hx with hx|hx
  ·exact hst.2.1 x hx
  ·simp at hx;rw[hx];exact ha
 have C6:∀h:0<(l++[a]).length,(l++[a])[0].start=0:=by
  intro h;rw[vq hp];exact hst.2.2.1.own hp
 have hfr:∀h:0<(l++[a]).length,(l++[a])[0].uZ=false:=by
  intro h;rw[vq hp];exact hst.2.2.1.free hp
 have hob:sg=true->∀(j:Nat) (hj:j<(l++[a]).length),0<j->(l++[a])[j].uZ=true:=by
  intro hs j hj hj0;by_cases c:j<l.length
  ·rw[vq c];exact hst.2.2.1.all hs j c hj0
  ·rw[yN (by omega)];simp[ho,hsg hs _ (ja hi)]
 obtain⟨e,ins,BC,⟨_,hnt⟩,hNw⟩:=hN (l++[a]) (by simp) (by simp;omega) vo C6;have hci:(i:Int)<q.length:=by omega
 obtain⟨A,B,rfl⟩:=hst.1;have l8:l.length<8:=by omega
 have l8':(l.length:Int)<8:=by omega
 have l0:((l.length:Int)==0)=false:=beq_false_of_ne (by omega);have lr:Zbn l≠[]:=by simpa [Zbn]using hl
 have room1:l.length*64<=140737488355328:=by omega
 have room2:(l.length+1)*64<=140737488355328:=by omega
 have tk:(Zbn l).take l.length=Zbn l:=jE (by simp);have tk2:∀r:List Cl,List.take (l.length+1) (Zbn l++[r])=Zbn l++[r]:=fun r=>jE (by simp)
 have ra:Zbn (l++[a])=Zbn l++[agC a]:=by simp[Zbn]
 have lne:l++[a]≠[]:=by simp
 simp only[zf,z3N]at hA hNw;by_cases c:e=0
 ·refine⟨l++[a],v+1,snC ⟨0,l++[a],ins⟩,by simp;omega,⟨⟨_,_,rfl⟩,vo,⟨C6,hfr,hob,hnt c⟩,fun _=>⟨ins,BC,rfl⟩⟩,?_⟩;subst c;rw[if_pos rfl]at hNw;rw[ZfM z2s.eq_1];simp only[snC,ra,agC]at hNw hA;simp[scE,scM,agW,hl,lr,z3C,zf,z3N,agC,hi,hci,hw,hA,hNw,l8,l8',l0,room1,room2,tk,tk2,zg,zH,zX,snC,ra]
 ·refine⟨l,v,_,by omega,hst,?_⟩;have cb:(e==0)=false:=by simp[c]
  rw[if_neg c]at hNw;rw[ZfM z2s.eq_1];simp only[z3C,ra,agC]at hNw hA;simp[scE,scM,agW,hl,lr,z3C,zf,z3N,agC,hi,hci,hw,hA,hNw,c,cb,l8,l8',l0,room1,room2,tk,tk2,zg,zH,zX]
theorem z65{m:zD}{zs:List Zon}{ss:List Sgn}(hF:z7y m zs ss)(hN:z6t m zs)(sg:Bool)(q:List z45)(hsg:sg=true->∀x∈q,x.dis=false)(hq:q.length<=7):∀(f i v:Nat) (st:List Cl) (l:List AgV),i+f=q.length->l.length<=i->z6u m zs sg l st->∃(l':List AgV) (v':Nat) (st':List Cl) (b:Bool),l'.length<=7/\z6u m zs sg l' st'/\Y L Cs z2s (some [5,8,4,1,2,6]) 4 (scE q l i) (scM m v st)=some (.exit 0,[(25,.w (Bo b)),(5,.w (.c (agW l'))),(8,.w (W q.length)),(4,.w (Pt 1)),(1,.w (.c (.jc (z32 q)))),(2,.w (Pt 0)),(6,.w (Pt 3))],scM m v' st'):=by
 intro f;induction f with
 |zero =>
  intro i v st l hi hl hst;obtain rfl:i=q.length:=by omega
  refine⟨l,v,st,false,by omega,hst,?_⟩;obtain⟨A,B,rfl⟩:=hst.1;rw[ZfM z2s.eq_1];by_cases c:l=[]<;>simp[scE,scM,agW,c,zf,z3C]
 |succ f ih =>
  intro i v st l hi hl hst;by_cases c:l=[]
  ·subst c;obtain⟨l2,v2,st2,h1,h2,h3⟩:=z6A hF hN sg q hsg hq v st hst i (by omega);rw[h3];exact ih (i+1) v2 st2 l2 (by omega) h1 h2
  ·obtain⟨l2,v2,st2,h1,h2,h3⟩:=z64 hF hN sg q hsg hq v st l c hst i (by omega) hl;rw[h3];exact ih (i+1) v2 st2 l2 (by omega) h1 h2
abbrev z7j:List Cl:=[I 0,.jd,.jd]
abbrev z4M(fz:Bool)(va:Nat)(l:List AgV):Option Blk:=some { box:=false,esz:=7,rows:=Zbn l,gen:=l.length,fz:=fz,ver:=va }
abbrev z4w(fz:Bool)(vb:Nat)(s:List z2T):Option Blk:=some { box:=false,esz:=4,rows:=z2H s,gen:=s.length,fz:=fz,ver:=vb }
abbrev z4k(y:z2T):Option Blk:=some { box:=false,esz:=4,rows:=[z29 y],gen:=1,fz:=false,ver:=1 }
def nwT(q:Nat)(fz:Bool)(vb:Nat)(x y:z2T)(s:List z2T):Mem:=if q=0 then [] else if q=1 then [z4k x,z4w fz vb s] else [z4k x,z4w fz vb s,z4k y]
def nwI(q:Nat)(s:List z2T):Cl:=if q=0 then .jd else .slice 5 s.length 4 0 s.length none
abbrev nwM(m:zD)(l:List AgV)(v q:Nat)(fz:Bool)(va vb:Nat)(x y:z2T)(s:List z2T):Mem:=bx 5 (zf m)::bx 3 z7j::bxv v 3 [I 0,.slice 3 l.length 7 0 l.length none,nwI q s]::z4M fz va l::nwT q fz vb x y s
abbrev z49(l:List AgV)(i z:Nat):Env:=[(10,.w (W z)),(4,.w (Pt 1)),(1,.w (.c (.jc (Zbn l)))),(9,.w (W i)),(2,.w (Pt 0)),(6,.w (Pt 2))]
theorem z63(l:List AgV):(Zbn l).take l.length=Zbn l:=jE (by simp)
theorem z62(l:List z2T):(z2H l).take l.length=z2H l:=jE (by simp)
theorem z5U(l:List z2T)(a:z2T):z2H (l++[a])=z2H l++[z29 a]:=by simp[z2H]
def z46:z2T:=⟨0,0,0,0⟩
structure NwC(m:zD)(zs:List Zon)(l:List AgV):Prop where
 there:∀(s:List z2T) (i:Nat) (hi:i<l.length),R L Cs z3I [.a [I 0,.jc (Zbn l),.jc (z2H s)],W i] []=some (.w (Bo (decide ((l[i]'hi).start<=0))),[])
 pres:∀(i:Nat) (hi:i<l.length) (z:Nat),z<m.kr.length->∃b,R L Cs z3B [.a (zf m),.a (agC (l[i]'hi)),.a (agC (l[i]'hi)),W z] []=some (.w (Bo b),[])
 ux:∀(i:Nat) (hi:i<l.length) (z:Nat),z<m.kr.length->∃r,R L Cs z3M [.a (zf m),.a (agC (l[i]'hi)),W z,W 0] []=some (.w (W r),[])
 touch:∀(i j:Nat) (hi:i<l.length) (hj:j<l.length),R L Cs z3y [.a (zf m),.a (agC (l[i]'hi)),.a (agC (l[j]'hj))] []=some (.w (Bo (ZbU m (l[i]'hi) (l[j]'hj))),[])
 kr:∀(s:List z2T) (i j:Nat) (hi:i<l.length) (hj:j<l.length),s.length<=1000->∃out:List Int,(out=[]->∀z,z<zs.length->ZcH m zs (l[i]'hi) (l[j]'hj) (l[i]'hi) (l[j]'hj) z=false)/\R L Cs z3H [.a (zf m),.a [I 0,.jc (Zbn l),.jc (z2H s)],.a [I 0,.jc (Zbn l),.jc (z2H s)],W i,W j] []=some (.w (.c (.jc (zu out))),[])
 gone:∀(i:Nat) (hi:i<l.length),(l[i]'hi).gone=false
 few:l.length<=7
 zn2:m.kr.length<=2
def NwI(q n0 z:Nat)(s:List z2T):Prop:=q=0/\n0=4/\s=[]\/q=1/\n0=4/\1<=z/\s≠[]\/q=2/\n0=4/\2<=z/\s≠[]\/q=1/\n0=6/\s≠[]\/q=2/\n0=7/\s≠[]
theorem z5X{m:zD}{zs:List Zon}{l:List AgV}(h:NwC m zs l)(i:Nat)(hi:i<l.length)(z v q n0 va vb:Nat)(x y:z2T)(s:List z2T)(hq:NwI q n0 z s)(hz:z=m.kr.length\/z<m.kr.length/\¬(l[i]'hi).start<=0):∃b,
  Y L Cs z7 (some [10,4,1,9,2,6]) n0 (z49 l i z) (nwM m l v q false va vb x y s)=some (.exit 4,[(50,.w (Bo b)),(10,.w (W z)),(4,.w (Pt 1)),(1,.w (.c (.jc (Zbn l)))),(9,.w (W i)),(2,.w (Pt 0)),(6,.w (Pt 2))],nwM m l v q false va vb x y s):=by
 have hT:=h.there s i hi;have tk:=z63 l;have tk2:=z62 s;refine⟨false,?_⟩;rcases hz with hz |⟨hz,hs⟩
 ·subst hz;rw[ZfM z7.eq_1];rcases hq with⟨rfl,rfl,rfl⟩ |⟨rfl,rfl,_,hs⟩ |⟨rfl,rfl,_,hs⟩ |⟨rfl,rfl,hs⟩ |⟨rfl,rfl,hs⟩<;>simp[zf,nwT,nwI]
 ·rw[decide_eq_false hs]at hT;have hcz:(z:Int)<m.kr.length:=by omega
  rw[ZfM z7.eq_1];rcases hq with⟨rfl,rfl,rfl⟩ |⟨rfl,rfl,_,hs⟩ |⟨rfl,rfl,_,hs⟩ |⟨rfl,rfl,hs⟩ |⟨rfl,rfl,hs⟩<;>first |(simp[zf,nwT,nwI,hz,hcz,hT,tk,tk2,zX,zg];done) |(simp[z2H]at hT;simp[zf,nwT,nwI,hz,hcz,hT,tk,tk2,zX,zg];done)|skip
theorem z6O{m:zD}{zs:List Zon}{l:List AgV}(h:NwC m zs l)(i:Nat)(hi:i<l.length)(z v q n0 va vb:Nat)(x y:z2T)(s:List z2T)(hl:s.length<=1000)(hb:q≠0->vb=s.length)(hq:NwI q n0 z s)(hz:z<m.kr.length)(hs:(l[i]'hi).start<=0):∃(v' q' vb':Nat) (x' y':z2T) (s':List z2T),s'.length<=s.length+1/\(q'≠0->vb'=s'.length)/\NwI q' n0 (z+1) s' /\
  Y L Cs z7 (some [10,4,1,9,2,6]) n0 (z49 l i z) (nwM m l v q false va vb x y s)=Y L Cs z7 (some [10,4,1,9,2,6]) n0 (z49 l i (z+1)) (nwM m l v' q' false va vb' x' y' s'):=by
 have hT:=h.there s i hi;rw[decide_eq_true hs]at hT;obtain⟨p,hP⟩:=h.pres i hi z hz;obtain⟨r,hR⟩:=h.ux i hi z hz;have htwo:=h.zn2;have yz:=h.few;have tk:=z63 l;have tk2:=z62 s;have hcz:(z:Int)<m.kr.length:=by omega
 have hci:(i:Int)<l.length:=by omega
 have hw:=zB (i:=z) (by omega);have hro:(s.length+1)*32<=140737488355328:=by omega
 have hsn:=z5U s ⟨i,z,0,r⟩;simp only[zf,agC]at hP hR;cases p with
 |false =>
  refine⟨v,q,vb,x,y,s,by omega,hb,?_,?_⟩
  ·rcases hq with⟨rfl,rfl,rfl⟩ |⟨rfl,rfl,_,hs⟩ |⟨rfl,rfl,_,hs⟩ |⟨rfl,rfl,hs⟩ |⟨rfl,rfl,hs⟩<;>simp[*,NwI]<;>omega
  rw[ZfM z7.eq_1];rcases hq with⟨rfl,rfl,rfl⟩ |⟨rfl,rfl,_,hs⟩ |⟨rfl,rfl,_,hs⟩ |⟨rfl,rfl,hs⟩ |⟨rfl,rfl,hs⟩<;>first |(simp[z49,nwM,zf,agC,nwT,nwI,hi,hci,hz,hcz,hw,hT,hP,tk,tk2,zX,zg,zH];done) |(simp[z2H]at hT;simp[z49,nwM,zf,agC,nwT,nwI,hi,hci,hz,hcz,hw,hT,hP,tk,tk2,zX,zg,zH];done)|skip
 |true =>
  rcases hq with⟨rfl,rfl,rfl⟩ |⟨rfl,rfl,hz1,hs⟩ |⟨rfl,rfl,hz2,hs⟩ |⟨rfl,rfl,hs⟩ |⟨rfl,rfl,hs⟩
  ·refine⟨v+1,1,1,⟨i,z,0,r⟩,y,[⟨i,z,0,r⟩],by simp,by simp,by simp[NwI],?_⟩;simp[z2H]at hT;rw[ZfM z7.eq_1];simp[z49,nwM,z4k,z4w,jr,zf,agC,z29,z2H,nwT,nwI,hi,hci,hz,hcz,hw,hT,hP,hR,tk,tk2,zX,zg,zH]
  ·obtain rfl:=hb (by omega);refine⟨v+1,2,s.length+1,x,⟨i,z,0,r⟩,s++[⟨i,z,0,r⟩],by simp,by simp,?_,?_⟩
   ·right;right;left;exact⟨rfl,rfl,by omega,by simp⟩
   rw[ZfM z7.eq_1];simp[z49,nwM,z4k,z4w,jr,zf,agC,z29,nwT,nwI,hi,hci,hz,hcz,hw,hT,hP,hR,hro,hsn,tk,tk2,zX,zg,zH]
  ·omega
  ·obtain rfl:=hb (by omega);refine⟨v+1,1,s.length+1,x,y,s++[⟨i,z,0,r⟩],by simp,by simp,?_,?_⟩
   ·right;right;right;left;exact⟨rfl,rfl,by simp⟩
   rw[ZfM z7.eq_1];simp[z49,nwM,z4k,z4w,jr,zf,agC,z29,nwT,nwI,hi,hci,hz,hcz,hw,hT,hP,hR,hro,hsn,tk,tk2,zX,zg,zH]
  ·obtain rfl:=hb (by omega);refine⟨v+1,2,s.length+1,x,y,s++[⟨i,z,0,r⟩],by simp,by simp,?_,?_⟩
   ·right;right;right;right;exact⟨rfl,rfl,by simp⟩
   rw[ZfM z7.eq_1];simp[z49,nwM,z4k,z4w,jr,zf,agC,z29,nwT,nwI,hi,hci,hz,hcz,hw,hT,hP,hR,hro,hsn,tk,tk2,zX,zg,zH]
theorem z6P{m:zD}{zs:List Zon}{l:List AgV}(h:NwC m zs l)(i:Nat)(hi:i<l.length)(n0 va:Nat):∀(f z v q vb:Nat) (x y:z2T) (s:List z2T),z+f=m.kr.length->s.length+f<=1000->(q≠0->vb=s.length)->NwI q n0 z s->∃(b:Bool) (z' v' q' vb':Nat) (x' y':z2T) (s':List z2T),s'.length<=s.length+f/\(q'≠0->vb'=s'.length)/\NwI q' n0 z' s' /\
  Y L Cs z7 (some [10,4,1,9,2,6]) n0 (z49 l i z) (nwM m l v q false va vb x y s)=some (.exit 4,[(50,.w (Bo b)),(10,.w (W z')),(4,.w (Pt 1)),(1,.w (.c (.jc (Zbn l)))),(9,.w (W i)),(2,.w (Pt 0)),(6,.w (Pt 2))],nwM m l v' q' false va vb' x' y' s'):=by
 intro f;induction f with
 |zero =>
  intro z v q vb x y s hz _ hb hq;obtain⟨b,e⟩:=z5X h i hi z v q n0 va vb x y s hq (.inl (by omega));exact⟨b,z,v,q,vb,x,y,s,by omega,hb,hq,e⟩
 |succ f ih =>
  intro z v q vb x y s hz hl hb hq;by_cases hs:(l[i]'hi).start<=0
  ·obtain⟨v1,q1,vb1,x1,y1,s1,h1,h2,h3,h4⟩:=z6O h i hi z v q n0 va vb x y s (by omega) hb hq (by omega) hs;obtain⟨b,z2,v2,q2,vb2,x2,y2,s2,g1,g2,g3,g4⟩:=ih (z+1) v1 q1 vb1 x1 y1 s1 (by omega) (by omega) h2 h3;exact⟨b,z2,v2,q2,vb2,x2,y2,s2,by omega,g2,g3,h4.trans g4⟩
  ·obtain⟨b,e⟩:=z5X h i hi z v q n0 va vb x y s hq (.inr ⟨by omega,hs⟩);exact⟨b,z,v,q,vb,x,y,s,by omega,hb,hq,e⟩
def NwJ(q:Nat)(s:List z2T):Prop:=q=0/\s=[]\/q=1/\s≠[]\/q=2/\s≠[]
theorem NwI.j{q n0 z:Nat}{s:List z2T}(h:NwI q n0 z s):NwJ q s:=by
 rcases h with⟨h1,_,h2⟩ |⟨h1,_,_,h2⟩ |⟨h1,_,_,h2⟩ |⟨h1,_,h2⟩ |⟨h1,_,h2⟩<;>simp[NwJ,h1,h2]
abbrev z5W(l:List AgV)(i:Nat):Env:=[(4,.w (Pt 1)),(1,.w (.c (.jc (Zbn l)))),(9,.w (W i)),(2,.w (Pt 0)),(6,.w (Pt 2))]
theorem z6M{m:zD}{zs:List Zon}{l:List AgV}(h:NwC m zs l)(i:Nat)(hi:i<l.length)(va v q vb:Nat)(x y:z2T)(s:List z2T)(hl:s.length+2<=1000)(hb:q≠0->vb=s.length)(hq:NwJ q s):∃(v' q' vb':Nat) (x' y':z2T) (s':List z2T),s'.length<=s.length+2/\(q'≠0->vb'=s'.length)/\NwJ q' s' /\
  Y L Cs z2M (some [4,1,9,2,6]) 4 (z5W l i) (nwM m l v q false va vb x y s)=Y L Cs z2M (some [4,1,9,2,6]) 4 (z5W l (i+1)) (nwM m l v' q' false va vb' x' y' s'):=by
 have htwo:=h.zn2;have yz:=h.few;have hci:(i:Int)<l.length:=by omega
 have hw:=zB (i:=i) (by omega);obtain⟨n0,hn0,hI⟩:∃n0,n0=(nwM m l v q false va vb x y s).length/\NwI q n0 0 s:=by
  rcases hq with⟨rfl,rfl⟩ |⟨rfl,hs⟩ |⟨rfl,hs⟩
  ·exact⟨4,by simp[nwT],by simp[NwI]⟩
  ·exact⟨6,by simp[nwT],by simp[NwI,hs]⟩
  ·exact⟨7,by simp[nwT],by simp[NwI,hs]⟩
 obtain⟨b,z2,v2,q2,vb2,x2,y2,s2,g1,g2,g3,g4⟩:=z6P h i hi n0 va m.kr.length 0 v q vb x y s (by omega) (by omega) hb hI;refine⟨v2,q2,vb2,x2,y2,s2,by omega,g2,g3.j,?_⟩;rw[ZfM z2M.eq_1];rcases hq with⟨rfl,rfl⟩ |⟨rfl,hs⟩ |⟨rfl,hs⟩<;>rcases g3.j with⟨rfl,rfl⟩ |⟨rfl,hs2⟩ |⟨rfl,hs2⟩<;>simp[z49,nwM,nwT,nwI]at hn0 g4<;>subst hn0<;>simp[z5W,nwM,nwT,nwI,hi,hci,hw,g4,zH]
theorem z6N{m:zD}{zs:List Zon}{l:List AgV}(h:NwC m zs l)(va:Nat):∀(f i v q vb:Nat) (x y:z2T) (s:List z2T),i+f=l.length->s.length+2*f<=1000->(q≠0->vb=s.length)->NwJ q s->∃(v' q' vb':Nat) (x' y':z2T) (s':List z2T),s'.length<=s.length+2*f/\(q'≠0->vb'=s'.length)/\NwJ q' s' /\
  Y L Cs z2M (some [4,1,9,2,6]) 4 (z5W l i) (nwM m l v q false va vb x y s)=some (.exit 2,(38,.w (Bo false))::z5W l l.length,nwM m l v' q' false va vb' x' y' s'):=by
 intro f;induction f with
 |zero =>
  intro i v q vb x y s hi _ hb hq;obtain rfl:i=l.length:=by omega
  refine⟨v,q,vb,x,y,s,by omega,hb,hq,?_⟩;rw[ZfM z2M.eq_1];rcases hq with⟨rfl,rfl⟩ |⟨rfl,hs⟩ |⟨rfl,hs⟩<;>simp[z5W,nwM,nwT,nwI]
 |succ f ih =>
  intro i v q vb x y s hi hl hb hq;obtain⟨v1,q1,vb1,x1,y1,s1,h1,h2,h3,h4⟩:=z6M h i (by omega) va v q vb x y s (by omega) hb hq;obtain⟨v2,q2,vb2,x2,y2,s2,g1,g2,g3,g4⟩:=ih (i+1) v1 q1 vb1 x1 y1 s1 (by omega) (by omega) h2 h3;exact⟨v2,q2,vb2,x2,y2,s2,by omega,g2,g3,h4.trans g4⟩
theorem z6Q{m:zD}{zs:List Zon}{l:List AgV}(h:NwC m zs l)(M:Mem)(hM:M.length=4):∀(f i:Nat),i+f=l.length ->
  Y L Cs z28 (some [6,2,1,8,4]) 4 [(6,.w (Pt 2)),(2,.w (Pt 0)),(1,.w (.c (.jc (Zbn l)))),(8,.w (W i)),(4,.w (Pt 1))] M=some (.exit 0,[(26,.w (Bo false)),(1,.w (.c (.jc (Zbn l)))),(2,.w (Pt 0)),(6,.w (Pt 2)),(8,.w (W l.length)),(4,.w (Pt 1))],M):=by
 have yz:=h.few;intro f;induction f with
 |zero =>
  intro i hi;obtain rfl:i=l.length:=by omega
  rw[ZfM z28.eq_1];simp
 |succ f ih =>
  intro i hi;have hil:i<l.length:=by omega
  have hci:(i:Int)<l.length:=by omega
  have hw:=zB (i:=i) (by omega);have hg:=h.gone i hil;rw[<-ih (i+1) (by omega),ZfM z28.eq_1];simp[agC,hil,hci,hg,hw,hM]
abbrev z4a(l:List AgV)(i j:Nat):Env:=[(12,.w (W j)),(4,.w (Pt 1)),(6,.w (Pt 2)),(2,.w (Pt 0)),(11,.w (W i)),(1,.w (.c (.jc (Zbn l))))]
abbrev nwR(m:zD)(l:List AgV)(v q:Nat)(fz:Bool)(va vb:Nat)(x y:z2T)(s:List z2T):Mem:=bx 5 (zf m)::bxv 1 3 z7j::bxv v 3 [I 0,.slice 3 l.length 7 0 l.length none,nwI q s]::z4M fz va l::nwT q fz vb x y s
theorem z6K{m:zD}{zs:List Zon}{l:List AgV}(h:NwC m zs l)(i j:Nat)(hi:i<l.length)(hj:j<l.length)(fz:Bool)(va v q vb n0:Nat)(x y:z2T)(s:List z2T)(hl:s.length<=1000)(hq:NwJ q s)(hn:n0=(nwM m l v q fz va vb x y s).length) :
  ((((l[i]'hi).start<=0->(l[j]'hj).start<=0->Zgp m zs (l[i]'hi) (l[j]'hj)))/\∃fz' va' vb',Y L Cs Zbq (some [12,4,6,2,11,1]) n0 (z4a l i j) (nwM m l v q fz va vb x y s)=Y L Cs Zbq (some [12,4,6,2,11,1]) n0 (z4a l i (j+1)) (nwM m l v q fz' va' vb' x y s)) \/
  (∃fz' va' vb',Y L Cs Zbq (some [12,4,6,2,11,1]) n0 (z4a l i j) (nwM m l v q fz va vb x y s)=some (.ret,[(4,.w (Pt 1)),(5,.w (W 12))],nwR m l v q fz' va' vb' x y s)):=by
 have hT:=h.there s i hi;have hU:=h.there s j hj;have hO:=h.touch i j hi hj;obtain⟨out,hzf,hZ⟩:=h.kr s i j hi hj hl;have yz:=h.few;have tk:=z63 l;have tk2:=z62 s;have hci:(i:Int)<l.length:=by omega
 have hcj:(j:Int)<l.length:=by omega
 have hw:=zB (i:=j) (by omega);have r0:z2H []=[]:=rfl;simp only[zf,agC]at hO hZ;by_cases c1:(l[i]'hi).start<=0
 ·rw[decide_eq_true c1]at hT;by_cases c2:(l[j]'hj).start<=0
  ·rw[decide_eq_true c2]at hU;generalize ht:ZbU m (l[i]'hi) (l[j]'hj)=t at *;cases t with
   |true =>
    right;refine⟨fz,va,vb,?_⟩;rw[ZfM Zbq.eq_1];rcases hq with⟨rfl,rfl⟩ |⟨rfl,hs⟩ |⟨rfl,hs⟩<;>simp[z4a,nwM,nwT,nwI]at hn<;>subst hn<;>(try simp only[r0]at hT hU hZ)<;>cases fz<;>simp[z4a,nwM,nwR,z4k,z4w,z4M,zf,agC,nwT,nwI,hi,hj,hci,hcj,hw,hT,hU,hO,tk,tk2,zX,zg,zH]
   |false =>
    by_cases c3:out=[]
    ·left;subst c3;refine⟨fun _ _=>⟨ht,hzf rfl⟩,true,if fz then va else va+1,if q=0 then vb else if fz then vb else vb+1,?_⟩;rw[ZfM Zbq.eq_1];rcases hq with⟨rfl,rfl⟩ |⟨rfl,hs⟩ |⟨rfl,hs⟩<;>simp[z4a,nwM,nwT,nwI]at hn<;>subst hn<;>(try simp only[r0]at hT hU hZ)<;>cases fz<;>simp[z4a,nwM,nwR,z4k,z4w,z4M,zf,agC,nwT,nwI,hi,hj,hci,hcj,hw,hT,hU,hO,hZ,tk,tk2,zX,zg,zH]
    ·right;have c4:0<out.length:=kj.2 c3;refine⟨true,if fz then va else va+1,if q=0 then vb else if fz then vb else vb+1,?_⟩;rw[ZfM Zbq.eq_1];rcases hq with⟨rfl,rfl⟩ |⟨rfl,hs⟩ |⟨rfl,hs⟩<;>simp[z4a,nwM,nwT,nwI]at hn<;>subst hn<;>(try simp only[r0]at hT hU hZ)<;>cases fz<;>simp[z4a,nwM,nwR,z4k,z4w,z4M,zf,agC,nwT,nwI,hi,hj,hci,hcj,hw,hT,hU,hO,hZ,c4,tk,tk2,zX,zg,zH]
  ·rw[decide_eq_false c2]at hU;left;refine⟨fun _ h=>absurd h c2,fz,va,vb,?_⟩;rw[ZfM Zbq.eq_1];rcases hq with⟨rfl,rfl⟩ |⟨rfl,hs⟩ |⟨rfl,hs⟩<;>simp[z4a,nwM,nwT,nwI]at hn<;>subst hn<;>(try simp only[r0]at hT hU hZ)<;>cases fz<;>simp[z4a,nwM,nwR,z4k,z4w,z4M,zf,agC,nwT,nwI,hi,hj,hci,hcj,hw,hT,hU,tk,tk2,zX,zg,zH]
 ·rw[decide_eq_false c1]at hT;left;refine⟨fun h _=>absurd h c1,fz,va,vb,?_⟩;rw[ZfM Zbq.eq_1];rcases hq with⟨rfl,rfl⟩ |⟨rfl,hs⟩ |⟨rfl,hs⟩<;>simp[z4a,nwM,nwT,nwI]at hn<;>subst hn<;>(try simp only[r0]at hT hU hZ)<;>cases fz<;>simp[z4a,nwM,nwR,z4k,z4w,z4M,zf,agC,nwT,nwI,hi,hj,hci,hcj,hw,hT,hU,tk,tk2,zX,zg,zH]
abbrev z48(l:List AgV)(i:Nat):Env:=[(4,.w (Pt 1)),(6,.w (Pt 2)),(2,.w (Pt 0)),(11,.w (W i)),(1,.w (.c (.jc (Zbn l))))]
theorem z6L{m:zD}{zs:List Zon}{l:List AgV}(h:NwC m zs l)(i:Nat)(hi:i<l.length)(v q n0:Nat)(x y:z2T)(s:List z2T)(hl:s.length<=1000)(hq:NwJ q s)(hn:∀fz va vb,n0=(nwM m l v q fz va vb x y s).length):∀(f j:Nat) (fz:Bool) (va vb:Nat),j+f=l.length ->
  ((∀(w:Nat) (hw:w<l.length),j<=w->(l[i]'hi).start<=0->(l[w]'hw).start<=0->Zgp m zs (l[i]'hi) (l[w]'hw))/\∃fz' va' vb',Y L Cs Zbq (some [12,4,6,2,11,1]) n0 (z4a l i j) (nwM m l v q fz va vb x y s)=some (.exit 8,(90,.w (Bo false))::z4a l i l.length,nwM m l v q fz' va' vb' x y s)) \/
  (0<f/\∃fz' va' vb',Y L Cs Zbq (some [12,4,6,2,11,1]) n0 (z4a l i j) (nwM m l v q fz va vb x y s)=some (.ret,[(4,.w (Pt 1)),(5,.w (W 12))],nwR m l v q fz' va' vb' x y s)):=by
 intro f;induction f with
 |zero =>
  intro j fz va vb hj;obtain rfl:j=l.length:=by omega
  left;refine⟨fun w hw hj=>by omega,fz,va,vb,?_⟩;rw[ZfM Zbq.eq_1];simp[z4a,nwM]
 |succ f ih =>
  intro j fz va vb hj;rcases z6K h i j hi (by omega) fz va v q vb n0 x y s hl hq (hn fz va vb)with⟨t1,f1,a1,b1,e⟩|e
  ·rcases ih (j+1) f1 a1 b1 (by omega)with⟨t2,f2,a2,b2,e2⟩ |⟨_,f2,a2,b2,e2⟩
   ·refine .inl ⟨fun w hw hj2=>?_,f2,a2,b2,e.trans e2⟩;rcases qN hj2 with e|e
    ·subst e;exact t1
    ·exact t2 w hw e
   ·exact .inr ⟨by omega,f2,a2,b2,e.trans e2⟩
  ·exact .inr ⟨by omega,e⟩
theorem z68(q:Nat)(fz fz':Bool)(vb vb':Nat)(x y:z2T)(s:List z2T):(nwT q fz vb x y s).length=(nwT q fz' vb' x y s).length:=by
 unfold nwT;split
 ·rfl
 ·split<;>rfl
theorem z6I{m:zD}{zs:List Zon}{l:List AgV}(h:NwC m zs l)(i:Nat)(hi:i<l.length)(fz:Bool)(va v q vb n0:Nat)(x y:z2T)(s:List z2T)(hl:s.length<=1000)(hq:NwJ q s)(hn:∀fz va vb,n0=(nwM m l v q fz va vb x y s).length) :
  ((∀(w:Nat) (hw:w<l.length),i<w->(l[i]'hi).start<=0->(l[w]'hw).start<=0->Zgp m zs (l[i]'hi) (l[w]'hw))/\∃fz' va' vb',Y L Cs z2t (some [4,6,2,11,1]) n0 (z48 l i) (nwM m l v q fz va vb x y s)=Y L Cs z2t (some [4,6,2,11,1]) n0 (z48 l (i+1)) (nwM m l v q fz' va' vb' x y s)) \/
  (1<l.length/\∃fz' va' vb',Y L Cs z2t (some [4,6,2,11,1]) n0 (z48 l i) (nwM m l v q fz va vb x y s)=some (.ret,[(4,.w (Pt 1)),(5,.w (W 12))],nwR m l v q fz' va' vb' x y s)):=by
 have yz:=h.few;have hci:(i:Int)<l.length:=by omega
 have hw:=zB (i:=i) (by omega);rcases z6L h i hi v q n0 x y s hl hq hn (l.length-(i+1)) (i+1) fz va vb (by omega)with⟨t1,f1,a1,b1,e⟩ |⟨hlt,f1,a1,b1,e⟩
 ·left;refine⟨t1,f1,a1,b1,?_⟩;have hn1:=hn fz va vb;rw[ZfM z2t.eq_1];rcases hq with⟨rfl,rfl⟩ |⟨rfl,hs⟩ |⟨rfl,hs⟩<;>simp[nwM,nwT]at hn1<;>subst hn1<;>simp[z4a,nwM,nwT,nwI]at e<;>simp[z48,nwM,nwT,nwI,hi,hci,hw,e]
 ·right;refine⟨by omega,f1,a1,b1,?_⟩;have hn1:=hn fz va vb;rw[ZfM z2t.eq_1];rcases hq with⟨rfl,rfl⟩ |⟨rfl,hs⟩ |⟨rfl,hs⟩<;>simp[nwM,nwT]at hn1<;>subst hn1<;>simp[z4a,nwM,nwR,nwT,nwI]at e<;>simp[z48,nwM,nwR,nwT,nwI,hi,hci,hw,e]
theorem z6J{m:zD}{zs:List Zon}{l:List AgV}(h:NwC m zs l)(v q n0:Nat)(x y:z2T)(s:List z2T)(hl:s.length<=1000)(hq:NwJ q s)(hn:∀fz va vb,n0=(nwM m l v q fz va vb x y s).length):∀(f i:Nat) (fz:Bool) (va vb:Nat),i+f=l.length ->
  ((∀(u w:Nat) (hu:u<l.length) (hw:w<l.length),i<=u->u<w->(l[u]'hu).start<=0->(l[w]'hw).start<=0->Zgp m zs (l[u]'hu) (l[w]'hw))/\∃fz' va' vb',Y L Cs z2t (some [4,6,2,11,1]) n0 (z48 l i) (nwM m l v q fz va vb x y s)=some (.exit 6,(82,.w (Bo false))::z48 l l.length,nwM m l v q fz' va' vb' x y s)) \/
  (1<l.length/\∃fz' va' vb',Y L Cs z2t (some [4,6,2,11,1]) n0 (z48 l i) (nwM m l v q fz va vb x y s)=some (.ret,[(4,.w (Pt 1)),(5,.w (W 12))],nwR m l v q fz' va' vb' x y s)):=by
 intro f;induction f with
 |zero =>
  intro i fz va vb hi;obtain rfl:i=l.length:=by omega
  left;refine⟨fun u w hu hw hj=>by omega,fz,va,vb,?_⟩;rw[ZfM z2t.eq_1];simp[z48,nwM]
 |succ f ih =>
  intro i fz va vb hi;rcases z6I h i (by omega) fz va v q vb n0 x y s hl hq hn with⟨t1,f1,a1,b1,e⟩|e
  ·rcases ih (i+1) f1 a1 b1 (by omega)with⟨t2,f2,a2,b2,e2⟩ |⟨hlt,f2,a2,b2,e2⟩
   ·refine .inl ⟨fun u w hu hw hj2=>?_,f2,a2,b2,e.trans e2⟩;rcases qN hj2 with e|e
    ·subst e;exact t1 w hw
    ·exact t2 u w hu hw e
   ·exact .inr ⟨hlt,f2,a2,b2,e.trans e2⟩
  ·exact .inr e
theorem z6Y{m:zD}{zs:List Zon}{l:List AgV}(h:NwC m zs l)(hl:0<l.length)(e:Int)(hC:R L Cs z3m [.a (zf m),.a [I 0,.jc (Zbn l),.jc []]] []=some (.w (W e),[]))
  (hP:R L Cs z2u [.a [I 0,.jc (Zbn l),.jc []]] []=some (.w (.a [I 0,.slice 0 l.length 7 0 l.length none,.jd]),[z4M false l.length l])) :
  ∃(e':Int) (ins:List z2T),ins.length<=1000/\((e=0->l.length=1->e'=0)/\(e'=0->Zeq m zs l))/\R L Cs z3v [.a (zf m),.c (.jc (Zbn l))] []=some (.t [.a (if e'=0 then [I 0,.jc (Zbn l),.jc (z2H ins)] else [I 0,.jc [],.jc []]),W e'],[]):=by
 have yz:=h.few;have tk:=z63 l;simp only[zf]at hC;by_cases c:e=0
 ·subst c;have h1:=z6Q h (nwM m l 1 0 false l.length 0 z46 z46 []) (by simp[nwT]) l.length 0 (by omega);obtain⟨v,q,vb,x,y,s,g1,g2,g3,h3⟩:=z6N h l.length l.length 0 1 0 0 z46 z46 [] (by omega) (by simp;omega) (fun h=>absurd rfl h) (.inl ⟨rfl,rfl⟩);have hs:s.length<=1000:=by simp at g1;omega
  have tk2:=z62 s;rcases z6J h v q _ x y s hs g3 (fun fz va vb=>show(nwM m l v q false 0 0 x y s).length=_ by simp only[nwM,jm];rw[z68]) l.length 0 false l.length vb (by omega)with⟨t1,f1,a1,b1,h5⟩ |⟨hlt,f1,a1,b1,h5⟩
  ·refine⟨0,s,hs,⟨fun _ _=>rfl,fun _ i j hi hj hij=>t1 i j hi hj (by omega) hij⟩,?_⟩;rw[zUa z3l rfl];rcases g3 with⟨rfl,rfl⟩ |⟨rfl,hs2⟩ |⟨rfl,hs2⟩<;>simp[z5W,z48,nwM,nwT,nwI,zf]at h1 h3 h5<;>cases f1<;>simp[z2X,zf,hC,hP,h1,h3,h5,tk,tk2,show z2H []=[] from rfl,zg,zH,zX]
  ·refine⟨12,[],by simp,⟨fun _ h1=>by omega,fun h=>absurd h (by decide)⟩,?_⟩;rw[zUa z3l rfl];rcases g3 with⟨rfl,rfl⟩ |⟨rfl,hs2⟩ |⟨rfl,hs2⟩<;>simp[z5W,z48,nwM,nwR,nwT,nwI,zf]at h1 h3 h5<;>cases f1<;>simp[z2X,zf,hC,hP,h1,h3,h5,tk,tk2,zg,zH,zX]
 ·refine⟨e,[],by simp,⟨fun h0 _=>h0,fun h=>absurd h c⟩,?_⟩;have cb:(e==0)=false:=by simp[c]
  have cc:(e !=0)=true:=by simp[c]
  rw[zUa z3l rfl];simp[z2X,zf,hC,hP,c,cb,cc,tk,zg,zH,zX]
theorem z7g(l:List AgV)(h0:0<l.length)(hl:l.length<=7)(h:∀a∈l,a.jf≠[]/\a.jf.length<=8):R L Cs z2u [.a [I 0,.jc (Zbn l),.jc []]] []=some (.w (.a [I 0,.slice 0 l.length 7 0 l.length none,.jd]),[z4M false l.length l]):=by
 match l,h0,hl,h with
 |[a],_,_,h=>exact copy1 a (h a (by simp))
 |[a,b],_,_,h=>exact copy2 a b (h a (by simp)) (h b (by simp))
 |[a,b,c],_,_,h=>exact copy3 a b c (h a (by simp)) (h b (by simp)) (h c (by simp))
 |[a,b,c,d],_,_,h=>exact copy4 a b c d (h a (by simp)) (h b (by simp)) (h c (by simp)) (h d (by simp))
 |[a,b,c,d,e],_,_,h=>exact copy5 a b c d e (h a (by simp)) (h b (by simp)) (h c (by simp)) (h d (by simp)) (h e (by simp))
 |[a,b,c,d,e,f],_,_,h=>exact copy6 a b c d e f (h a (by simp)) (h b (by simp)) (h c (by simp)) (h d (by simp)) (h e (by simp)) (h f (by simp))
 |[a,b,c,d,e,f,g],_,_,h=>exact copy7 a b c d e f g (h a (by simp)) (h b (by simp)) (h c (by simp)) (h d (by simp)) (h e (by simp)) (h f (by simp)) (h g (by simp))
 |_::_::_::_::_::_::_::_::_,_,hl,_=>simp at hl
theorem z7o{m:zD}{zs:List Zon}{ss:List Sgn}(hF:z7y m zs ss):z6t m zs:=by
 intro l h0 hl hk C6;have h:=hF.full.qe;have hz:m.kr.length=zs.length:=by rw[hF.full.zd.z];simp
 have hc:NwC m zs l:={
  there:=fun s i hi=>by
   have ht:=z56 ⟨0,l,s⟩ i hi;have hg:=(hk _ (ja hi)).stay;simp only[thA,hg,yJ,Bool.and_true]at ht;exact ht
  pres:=fun i hi z _=>⟨_,z4G hF (hk _ (ja hi)).toWAg (hk _ (ja hi)).toWAg z⟩
  ux:=fun i hi z hzl=>(z7f hF (hk _ (ja hi)).toWAg z (by omega) 0 (by omega)).imp fun _ h=>h.2
  touch:=fun i j hi hj=>z55 h (hk _ (ja hi)).toWAg (hk _ (ja hj)).toWAg
  kr:=fun s i j hi hj _=>(z6X hF ⟨0,l,s⟩ ⟨0,l,s⟩ rfl i j hi hj (hk _ (ja hi)).toWAg (hk _ (ja hj)).toWAg (hk _ (ja hi)).toWAg (hk _ (ja hj)).toWAg).imp fun _ h=>⟨fun he z hz=>by
   cases hb:ZcH m zs l[i] l[j] l[i] l[j] z with
   |false=>rfl
   |true=>exact absurd he (h.1.2.1 ⟨z,hz,hb⟩),h.2⟩
  gone:=fun i hi=>(hk _ (ja hi)).stay
  few:=hl
  zn2:=by have:=hF.zn2;omega }
 have hC:=z5f h ⟨0,l,[]⟩ ⟨by simp,fun a ha=>(hk a ha).toWAg,fun a ha ht=>(hk a ha).late ht,by simp only;omega,h0,C6 h0,by simp⟩;exact z6Y hc h0 _ hC (z7g l h0 hl fun a ha=>⟨((hk a ha).on h).2.1,((hk a ha).on h).2.2⟩)
theorem z6h{m:zD}(h:zcp m):R L Cs z3m [.a (zf m),.a [I 0,.jc [],.jc []]] []=some (.w (W 6),[]):=by
 have hk:=h.A9;simp only[zf]at hk;rw[zUa z3L rfl];simp[z2I,zf,hk,zg]
theorem z6Z{m:zD}(h:zcp m):R L Cs z3v [.a (zf m),.c (.jc [])] []=some (.t [.a z3C,W 6],[]):=by
 have hC:=z6h h;have hP:=copy0;simp only[zf,Zbn,qi]at hC hP;rw[zUa z3l rfl];simp[z2X,zf,hC,hP,z3C,zg,zH,zX]
theorem z6o{m:zD}(h:zcp m):∀(l:List Int) (a:Int),(∀x∈l,0<=x/\x<m.je.length)->a<=zmd m a l
 |[],_,_=>kG _
 |x::t,a,ho=>by
  have h1:=zcX h (ho x (by simp));have h2:=z6o h t (a+z8 m x) (fun y hy=>ho y (by simp[hy]));unfold zmd;omega
theorem z6U{m:zD}(h:zcp m){l:List Int}(hr:zdA m l=0):1000<=zmd m 0 l:=by
 obtain⟨hon,hne,hl8⟩:=zg1 h hr;cases l with
 |nil=>exact absurd rfl hne
 |cons x t =>
  have h1:=zcX h (hon x (by simp));have h2:=z6o h t (0+z8 m x) (fun y hy=>hon y (by simp[hy]));unfold zmd;omega
theorem z69{m:zD}(h:zcp m)(a:AgV)(ha:KAg m a)(hv:a.v=0):z31 m ⟨0,[a],[]⟩=0:=by
 have h1:=z5w (zaK m (z42 m a));have:z3z m a=0:=by unfold z3z;rw[hv,if_pos (by omega)]
 simp[z31,this]
theorem Zep{m:zD}{zs:List Zon}{ss:List Sgn}(hF:z7y m zs ss)(sg:Bool)(q:List z45)(hsg:sg=true->∀x∈q,x.dis=false)(hq:q.length<=7):∃s,KSn m s/\(s.tick=0/\s.agents.length<=7/\ZeX m zs sg s.agents)/\R L Cs z4x [.a (zf m),.c (.jc (z32 q))] []=some (.w (.a (snC s)),[]):=by
 have h:=hF.full.qe;have hN:=z7o hF;have hn:=z6Z h;obtain⟨l,v,st,b,hl,hst,hL⟩:=z65 hF hN sg q hsg hq q.length 0 1 z3C [] (by omega) (by simp) ⟨⟨_,_,rfl⟩,by simp,⟨fun h=>absurd h (by simp),fun h=>absurd h (by simp),fun _ j hj=>absurd hj (by simp),fun i j hi=>absurd hi (by simp)⟩,fun h=>absurd rfl h⟩;obtain⟨A,B,rfl⟩:=hst.1;by_cases c:l=[]
 ·subst c;obtain⟨a,ha,h0,⟨hln,hob⟩,hA⟩:=z5h hF ⟨0,1048576,0,0,0,false⟩ true;have hlen:=hln (by simp);have hb:=z6U h ha.jf;obtain⟨rt,qas,av,al,ast,ao,ag⟩:=a;simp only at hlen hb h0 hob;have hob:ao=false:=by simpa using hob
  subst hlen;have hka:KAg m ⟨rt,301,0,300,ast,ao,ag⟩:=KAg.of ha.jf (by simp) ha.start ⟨by simp,by simp only;omega⟩ (fun hp=>absurd (h0 (by simp)) (by simp only at hp;omega)) ha.stay;obtain⟨e,ins,BC,⟨he,hnt⟩,hNw⟩:=hN [⟨rt,301,0,300,ast,ao,ag⟩] (by simp) (by simp) (by simpa using hka) (by intro _;exact h0 (by simp));obtain rfl:=he (z69 h _ hka rfl) rfl;refine⟨⟨0,[⟨rt,301,0,300,ast,ao,ag⟩],ins⟩,⟨by simp,by simpa using hka.toWAg,by simpa using hka.late,by simp,by simp,h0 (by simp),BC⟩,⟨rfl,by simp,⟨fun _=>h0 (by simp),fun _=>hob,fun _ j hj hp=>by simp at hj;omega,hnt rfl⟩⟩,?_⟩;simp only[zf,z3N,agC,z3C,Zbn,kV,qi,scE,scM,agW,↓reduceIte,jg]at hn hA hNw hL;rw[zUa z3U rfl];simp only[snC,Zbn,kV,qi,agC]at hNw ⊢;have w3:IntKind.i64.wrap 301=301:=rfl;simp[z3k,zf,z3C,hn,hL,hA,hNw,w3,zg,zH,zX]
 ·obtain⟨ins,BC,e⟩:=hst.2.2.2 c;have hp:0<l.length:=kj.2 c;refine⟨⟨0,l,ins⟩,⟨by simp,fun a ha=>(hst.2.1 a ha).toWAg,fun a ha ht=>(hst.2.1 a ha).late ht,by simp only;omega,hp,hst.2.2.1.own hp,BC⟩,⟨rfl,hl,hst.2.2.1⟩,?_⟩;rw[<-e];simp only[zf,z3C,scE,scM,agW,c,↓reduceIte,jg]at hn hL;have l0:((l.length:Int)==0)=false:=beq_false_of_ne (by omega);have lr:Zbn l≠[]:=by simpa [Zbn]using c
  rw[zUa z3U rfl];simp only[snC]at e;obtain⟨rfl,rfl⟩:A=Zbn l/\B=z2H ins:=by simpa using e
  simp[z3k,zf,z3C,hn,hL,l0,lr,c,zg,zH,zX]
def Zcf:z2T:=⟨0,0,0,0⟩
def Zc7(a z:Int)(x:z2T):Bool:=decide (x.qU=a)&&decide (x.kp=z)
def ZdS(ins:List z2T)(a z:Int):Option Nat:=ins.findIdx? (Zc7 a z)
def Zdu(ins:List z2T)(a z:Int):z2T:=match ZdS ins a z with
 |some i=>ins.getD i Zcf
 |none=>Zcf
theorem Zdi(ins:List z2T)(hl:ins.length<=1000)(a z:Int):R L Cs Zb2 [.c (.jc (z2H ins)),W a,W z] []=some (.t [.a (z29 (Zdu ins a z)),Bo (ZdS ins a z).isSome],[]):=by
 have hL:=zxf (L:=L) (Cs:=Cs) (b:=ZbF) (live:=some [1,2,0,8,6]) (n0:=1) ins (fun i=>[(1,.w (W a)),(2,.w (W z)),(0,.w (.c (.jc (z2H ins)))),(8,.w (W i)),(6,.w (Pt 0))]) [bx 4 (z29 Zcf)] (Zc7 a z) (fun i=>(.ret,[(6,.w (Pt 0)),(7,.w (Bo true))],[bxv 1 4 (z29 (ins.getD i Zcf))])) (.exit 0,[(12,.w (Bo false)),(2,.w (W z)),(1,.w (W a)),(0,.w (.c (.jc (z2H ins)))),(8,.w (W ins.length)),(6,.w (Pt 0))],[bx 4 (z29 Zcf)])
  (fun i hi hb=>by
   have hw:=zB (i:=i) (by omega);generalize hx:ins[i]=x at *;unfold Zc7 at hb;rw[ZfM ZbF.eq_1];by_cases c1:x.qU=a
   ·have b1:(x.qU==a)=true:=by simp[c1]
    have c2:¬x.kp=z:=by simpa [c1]using hb
    have b2:(x.kp==z)=false:=by simp[c2]
    simp[z29,Zcf,hi,hx,hw,b1,b2]
   ·have b1:(x.qU==a)=false:=by simp[c1]
    simp[z29,Zcf,hi,hx,hw,b1])
  (fun i hi hb=>by
   rw[show ins.getD i Zcf=ins[i] by simp[hi]];generalize hx:ins[i]=x at *;unfold Zc7 at hb;simp only[jh,decide_eq_true_eq]at hb;have b1:(x.qU==a)=true:=by simp[hb.1]
   have b2:(x.kp==z)=true:=by simp[hb.2]
   rw[ZfM ZbF.eq_1];simp[z29,Zcf,hi,hx,b1,b2])
  (by rw[ZfM ZbF.eq_1];simp[z29,Zcf])
 simp only[z29,Zcf,jg]at hL;rw[zUa Zcq rfl];unfold Zdu ZdS;cases hq:ins.findIdx? (Zc7 a z)with
 |none =>
  rw[hq]at hL;simp[ZbQ,z29,Zcf,hL,zg]
 |some i =>
  rw[hq]at hL;simp only at hL;simp[ZbQ,z29,Zcf,hL,zg]
theorem ZeY(s:SnV)(hl:s.ins.length<=1000)(i j z:Int):∃l:List Int,((∀x∈l,x=i\/x=j)/\l.length<=2)/\R L Cs Zct [.a (snC s),W i,W j,W z] []=some (.w (.c (.jc (zu l))),[]):=by
 have hA:=Zdi s.ins hl i z;have hB:=Zdi s.ins hl j z;generalize Zdu s.ins i z=x at *;generalize Zdu s.ins j z=y at *;generalize (ZdS s.ins i z).isSome=b at *;generalize (ZdS s.ins j z).isSome=d at *;simp only[z29]at hA hB;rw[zUa Zcw rfl];by_cases c1:x.ux<y.ux
 ·exact⟨[i],by simp,by simp[Zbz,snC,z29,hA,hB,c1,zg,zH,zX]⟩
 ·by_cases c2:x.ux=y.ux
  ·have b2:(x.ux==y.ux)=true:=by simp[c2]
   have c5:¬y.ux<x.ux:=by omega
   by_cases c3:y.since<x.since
   ·exact⟨[i],by simp,by simp[Zbz,snC,z29,hA,hB,c1,c2,b2,c3,c5,zg,zH,zX]⟩
   ·by_cases c4:x.since<y.since
    ·exact⟨[j],by simp,by simp[Zbz,snC,z29,hA,hB,c1,c2,b2,c3,c4,c5,zg,zH,zX]⟩
    ·exact⟨[i,j],by simp,by simp[Zbz,snC,z29,hA,hB,c1,c2,b2,c3,c4,c5,zg,zH,zX]⟩
  ·have b2:(x.ux==y.ux)=false:=by simp[c2]
   have c5:y.ux<x.ux:=by omega
   exact⟨[j],by simp,by simp[Zbz,snC,z29,hA,hB,c1,c2,b2,c5,zg,zH,zX]⟩
def isX(x:Int)(y:Int):Bool:=decide (y=x)
def Zb5(l:List Int)(x:Int):Option Nat:=l.findIdx? (isX x)
def ZbS(m:zD)(l:List Int)(x:Int):Int:=match Zb5 l x with
 |some i=>(zW m 0 l).getD i 0
 |none=>0
theorem Zdr{m:zD}(h:zcp m){l:List Int}(hr:zdA m l=0)(x:Int):R L Cs Zch [.a (zf m),.c (.jc (zu l)),W x] []=some (.t [W (ZbS m l x),Bo (Zb5 l x).isSome],[]):=by
 have hS:=zRG h hr;have hle:=zcO m l 0;obtain⟨_,_,hl8⟩:=zg1 h hr;unfold ZbS Zb5;generalize zW m 0 l=st at *;have hL:=zxf (L:=L) (Cs:=Cs) (b:=ZbB) (live:=some [1,2,8,9]) (n0:=1) l (fun i=>[(1,.w (.c (.jc (zu l)))),(2,.w (W x)),(8,.w (.c (.jc (zu st)))),(9,.w (W i))]) [bx 5 (zf m)] (isX x) (fun i=>(.ret,[(6,.w (W (st.getD i 0))),(7,.w (Bo true))],[bx 5 (zf m)])) (.exit 0,[(16,.w (Bo false)),(2,.w (W x)),(1,.w (.c (.jc (zu l)))),(8,.w (.c (.jc (zu st)))),(9,.w (W l.length))],[bx 5 (zf m)])
  (fun i hi hb=>by
   have hw:=zB (i:=i) (by omega);generalize hx:l[i]=y at *;have b1:(y==x)=false:=by simpa [isX]using hb
   rw[ZfM ZbB.eq_1];simp[zf,hi,hx,hw,b1])
  (fun i hi hb=>by
   have his:i<st.length:=by omega
   rw[show st.getD i 0=st[i] by simp[his]];generalize hx:l[i]=y at *;have b1:(y==x)=true:=by simpa [isX]using hb
   rw[ZfM ZbB.eq_1];simp[zf,hi,his,hx,b1])
  (by rw[ZfM ZbB.eq_1];simp[zf])
 simp only[zf,jg]at hS hL;rw[zUa Zcl rfl];cases hq:l.findIdx? (isX x)with
 |none =>
  rw[hq]at hL;simp[ZbM,zf,hS,hL,zg]
 |some i =>
  rw[hq]at hL;simp only at hL;simp[ZbM,zf,hS,hL,zg]
def Zdy(f v next b r:Int):Bool:=decide (f<r)&&decide (f+zet v b<r)&&decide (r<=f+next+zet next b)
theorem Zem(red:List Int)(hl:red.length<=100000)(f v next b:Int)(hf:0<=f/\f<=1000000000)(hv:0<=v/\v<=10000)(hn:0<=next/\next<=10000)(hb:1<=b/\b<=1000):R L Cs Zci [.c (.jc (zu red)),W f,W v,W next,W b] []=some (.w (Bo (!red.any (Zdy f v next b))),[]):=by
 have h1:=zBX v b (by omega) hb;have h2:=zBX next b (by omega) hb
 have d1:=zzq hv.2 hb 10000 hv.2 (by omega);have d2:=zzq hn.2 hb 10000 hn.2 (by omega);have Ck:∀r,Zdy f v next b r=(decide (f<r)&&decide (f+zet v b<r)&&decide (r<=f+next+zet next b)):=fun _=>rfl
 generalize Zdy f v next b=pr at *
 generalize zet v b=s1 at *;generalize zet next b=s2 at *
 have w1:=ku (f+s1);have w2:=ku (f+next);have w3:=ku (f+next+s2);clear d1 d2;have hL:=zpE (L:=L) (Cs:=Cs) (b:=ZbC) (live:=some [2,1,3,4,0,11]) (n0:=0) red (fun i=>[(2,.w (W v)),(1,.w (W f)),(3,.w (W next)),(4,.w (W b)),(0,.w (.c (.jc (zu red)))),(11,.w (W i))]) [] pr (.ret,[(10,.w (Bo false))],[]) (.exit 0,[(15,.w (Bo false)),(0,.w (.c (.jc (zu red)))),(4,.w (W b)),(3,.w (W next)),(1,.w (W f)),(2,.w (W v)),(11,.w (W red.length))],[])
  (fun i hi hc=>by
   have hw:=zB (i:=i) (by omega);generalize hx:red[i]=r at *;rw[Ck]at hc;rw[ZfM ZbC.eq_1];by_cases c1:f<r
   ·by_cases c2:f+s1<r
    ·have c3:¬r<=f+next+s2:=by simpa [c1,c2]using hc
     simp[hi,hx,hw,h1,h2,w1,w2,w3,c1,c2,c3]
    ·simp[hi,hx,hw,h1,h2,w1,w2,w3,c1,c2]
   ·simp[hi,hx,hw,c1])
  (fun i hi hc=>by
   generalize hx:red[i]=r at *;rw[Ck]at hc;simp only[jh,decide_eq_true_eq]at hc;obtain⟨⟨c1,c2⟩,c3⟩:=hc;rw[ZfM ZbC.eq_1];simp[hi,hx,h1,h2,w1,w2,w3,c1,c2,c3])
  (by rw[ZfM ZbC.eq_1];simp)
 simp only[jg]at hL;rw[zUa Zcm rfl];cases hq:red.any pr with
 |true =>
  rw[hq]at hL;simp[ZbN,hL,zg]
 |false =>
  rw[hq]at hL;simp[ZbN,hL,zg]
def Zed(n f g left rear:Int):Bool:=decide (0<=f)&&(decide (0<=g)&&(decide (left<=n)&&(decide (rear<=n)&&decide (rear<=f))))
def lnB(m:zD)(a b c d:AgV)(l:Nat):Bool :=
 (Zb5 a.jf l).isSome&&((Zb5 b.jf l).isSome &&
  (let x:=ZbS m a.jf l
   let y:=ZbS m b.jf l
   if a.s-x<b.s-y then Zed (z8 m l) (c.s-x) (d.s-y) (a.s-x-a.len) (d.s-y-d.len)
   else Zed (z8 m l) (d.s-y) (c.s-x) (b.s-y-b.len) (c.s-x-c.len)))
def Zgf(m:zD)(a b:AgV)(i j:Int)(l:Nat):Int:=if a.s-ZbS m a.jf l<b.s-ZbS m b.jf l then i else j
structure CrV where
 tick:Int
 a:Int
 b:Int
 lane:Int
 kp:Int
 who:List Int
def crC(c:CrV):List Cl:=[I c.tick,I c.a,I c.b,I c.lane,I c.kp,.jc (zu c.who)]
def ZbD(l:List CrV):List (List Cl):=l.map crC
theorem ZcW{m:zD}(h:zcp m){a:AgV}(ha:WAg m a)(x:Int):0<=ZbS m a.jf x/\ZbS m a.jf x<=8000000:=by
 unfold ZbS;cases hq:Zb5 a.jf x with
 |none=>simp
 |some i =>
  have hi:i<a.jf.length:=by
   unfold Zb5 at hq;obtain⟨h1,_⟩:=jM.1 hq;exact h1
  have:=ha.CF h hi;simpa [jU]using this
abbrev lnE(i j k:Nat):Env:=[(11,.w (W k)),(4,.w (W j)),(3,.w (W i)),(6,.w (Pt 1)),(5,.w (Pt 0)),(7,.w (Pt 2))]
abbrev lnM(m:zD)(s t:SnV):Mem:=[bx 5 (zf m),bx 3 (snC s),bx 3 (snC t),gb 6]
abbrev Zcs(m:zD)(s t:SnV)(c:CrV):Mem:=[bx 5 (zf m),bx 3 (snC s),bx 3 (snC t),gb 6,some { box:=false,esz:=1,rows:=zu c.who,gen:=1,fz:=true,ver:=2 },some { box:=false,esz:=6,rows:=[crC c],gen:=1,fz:=false,ver:=1 }]
theorem Zey{m:zD}(h:zcp m)(s t:SnV)(i j:Nat)(hi:i<s.agents.length)(hj:j<s.agents.length)(hi':i<t.agents.length)(hj':j<t.agents.length)(ha:WAg m s.agents[i])(hb:WAg m s.agents[j])(hc:WAg m t.agents[i])(hd:WAg m t.agents[j])(k:Nat)(hk:k<m.je.length) :
  (lnB m s.agents[i] s.agents[j] t.agents[i] t.agents[j] k=false->Y L Cs Zbm (some [11,4,3,6,5,7]) 4 (lnE i j k) (lnM m s t)=Y L Cs Zbm (some [11,4,3,6,5,7]) 4 (lnE i j (k+1)) (lnM m s t)) /\
  (lnB m s.agents[i] s.agents[j] t.agents[i] t.agents[j] k=true->∃w:Int,w=Zgf m s.agents[i] s.agents[j] i j k/\Y L Cs Zbm (some [11,4,3,6,5,7]) 4 (lnE i j k) (lnM m s t)=some (.ret,[(10,.w (.c (.slice 5 1 6 0 1 none)))],Zcs m s t ⟨s.tick,i,j,k,-1,[w]⟩)):=by
 have yz:=h.small.je;have hw:=zB (i:=k) (by omega);have s1:=Zdr h ha.jf k;have s2:=Zdr h hb.jf k;have b1:=ZcW h ha k;have b2:=ZcW h hb k;have hL:=zEV h (x:=(k:Int)) ⟨by omega,by omega⟩;have hln:=zcX h (x:=(k:Int)) ⟨by omega,by omega⟩;have ea:=ha.s;have eb:=hb.s;have ec:=hc.s;have ed:=hd.s;have fa:=ha.yf h;have fb:=hb.yf h;have fc:=hc.yf h;have fd:=hd.yf h;have la:=ha.len;have lb:=hb.len;have lc:=hc.len;have ld:=hd.len;have hci:(i:Int)<s.agents.length:=by omega
 have hcj:(j:Int)<s.agents.length:=by omega
 have AW:(i:Int)<t.agents.length:=by omega
 have AU:(j:Int)<t.agents.length:=by omega
 have hck:(k:Int)<m.je.length:=by omega
 unfold lnB Zgf;generalize hga:s.agents[i]=a at *;generalize hgb:s.agents[j]=b at *;generalize hgc:t.agents[i]=c at *;generalize hgd:t.agents[j]=d at *;generalize ZbS m a.jf k=x at *;generalize ZbS m b.jf k=y at *;generalize z8 m k=n at *;have w1:=ku (a.s-x);have w2:=ku (b.s-y);have w3:=ku (c.s-x);have w4:=ku (d.s-y);have w5:=ku (a.s-x-a.len);have w6:=ku (b.s-y-b.len);have w7:=ku (c.s-x-c.len);have w8:=ku (d.s-y-d.len);clear ea eb ec ed fa fb fc fd la lb lc ld b1 b2 hln;simp only[zf]at s1 s2 hL;cases p1:(Zb5 a.jf k).isSome with
 |false =>
  rw[p1]at s1;refine⟨fun _=>?_,fun hp=>by simp at hp⟩;rw[ZfM Zbm.eq_1];simp[lnE,lnM,Zcs,crC,zf,snC,agC,hi,hj,hi',hj',hci,hcj,AW,AU,hga,hgb,hgc,hgd,hk,hck,s1,s2,hw,zg,zH,zX]
 |true =>
  rw[p1]at s1;cases p2:(Zb5 b.jf k).isSome with
  |false =>
   rw[p2]at s2;refine⟨fun _=>?_,fun hp=>by simp at hp⟩;rw[ZfM Zbm.eq_1];simp[lnE,lnM,Zcs,crC,zf,snC,agC,hi,hj,hi',hj',hci,hcj,AW,AU,hga,hgb,hgc,hgd,hk,hck,s1,s2,hw,zg,zH,zX]
  |true =>
   rw[p2]at s2;by_cases c0:a.s-x<b.s-y
   ·simp only[kq,if_pos c0,Zed];by_cases c1:x<=c.s
    ·by_cases c2:y<=d.s
     ·by_cases c3:a.s-x-a.len<=n
      ·by_cases c4:d.s-y-d.len<=n
       ·by_cases c5:d.s-y-d.len<=c.s-x
        ·refine⟨fun hp=>by simp[c1,c2,c3,c4,c5]at hp,fun _=>?_⟩;refine⟨i,rfl,?_⟩;rw[ZfM Zbm.eq_1];simp[lnE,lnM,Zcs,crC,zf,snC,agC,hi,hj,hi',hj',hci,hcj,AW,AU,hga,hgb,hgc,hgd,hk,hck,s1,s2,hL,hw,w1,w2,w3,w4,w5,w6,w7,w8,c0,c1,c2,c3,c4,c5,zg,zH,zX]
         try exact⟨rfl,rfl⟩
        ·refine⟨fun _=>?_,fun hp=>by simp[c1,c2,c3,c4,c5]at hp⟩;rw[ZfM Zbm.eq_1];simp[lnE,lnM,Zcs,crC,zf,snC,agC,hi,hj,hi',hj',hci,hcj,AW,AU,hga,hgb,hgc,hgd,hk,hck,s1,s2,hL,hw,w1,w2,w3,w4,w5,w6,w7,w8,c0,c1,c2,c3,c4,c5,zg,zH,zX]
       ·refine⟨fun _=>?_,fun hp=>by simp[c1,c2,c3,c4]at hp⟩;rw[ZfM Zbm.eq_1];simp[lnE,lnM,Zcs,crC,zf,snC,agC,hi,hj,hi',hj',hci,hcj,AW,AU,hga,hgb,hgc,hgd,hk,hck,s1,s2,hL,hw,w1,w2,w3,w4,w5,w6,w7,w8,c0,c1,c2,c3,c4,zg,zH,zX]
      ·refine⟨fun _=>?_,fun hp=>by simp[c1,c2,c3]at hp⟩;rw[ZfM Zbm.eq_1];simp[lnE,lnM,Zcs,crC,zf,snC,agC,hi,hj,hi',hj',hci,hcj,AW,AU,hga,hgb,hgc,hgd,hk,hck,s1,s2,hL,hw,w1,w2,w3,w4,w5,w6,w7,w8,c0,c1,c2,c3,zg,zH,zX]
     ·refine⟨fun _=>?_,fun hp=>by simp[c1,c2]at hp⟩;rw[ZfM Zbm.eq_1];simp[lnE,lnM,Zcs,crC,zf,snC,agC,hi,hj,hi',hj',hci,hcj,AW,AU,hga,hgb,hgc,hgd,hk,hck,s1,s2,hL,hw,w1,w2,w3,w4,w5,w6,w7,w8,c0,c1,c2,zg,zH,zX]
    ·refine⟨fun _=>?_,fun hp=>by simp[c1]at hp⟩;rw[ZfM Zbm.eq_1];simp[lnE,lnM,Zcs,crC,zf,snC,agC,hi,hj,hi',hj',hci,hcj,AW,AU,hga,hgb,hgc,hgd,hk,hck,s1,s2,hL,hw,w1,w2,w3,w4,w5,w6,w7,w8,c0,c1,zg,zH,zX]
   ·simp only[kq,if_neg c0,Zed];by_cases c1:y<=d.s
    ·by_cases c2:x<=c.s
     ·by_cases c3:b.s-y-b.len<=n
      ·by_cases c4:c.s-x-c.len<=n
       ·by_cases c5:c.s-x-c.len<=d.s-y
        ·refine⟨fun hp=>by simp[c1,c2,c3,c4,c5]at hp,fun _=>?_⟩;refine⟨j,rfl,?_⟩;rw[ZfM Zbm.eq_1];simp[lnE,lnM,Zcs,crC,zf,snC,agC,hi,hj,hi',hj',hci,hcj,AW,AU,hga,hgb,hgc,hgd,hk,hck,s1,s2,hL,hw,w1,w2,w3,w4,w5,w6,w7,w8,c0,c1,c2,c3,c4,c5,zg,zH,zX]
         try exact⟨rfl,rfl⟩
        ·refine⟨fun _=>?_,fun hp=>by simp[c1,c2,c3,c4,c5]at hp⟩;rw[ZfM Zbm.eq_1];simp[lnE,lnM,Zcs,crC,zf,snC,agC,hi,hj,hi',hj',hci,hcj,AW,AU,hga,hgb,hgc,hgd,hk,hck,s1,s2,hL,hw,w1,w2,w3,w4,w5,w6,w7,w8,c0,c1,c2,c3,c4,c5,zg,zH,zX]
       ·refine⟨fun _=>?_,fun hp=>by simp[c1,c2,c3,c4]at hp⟩;rw[ZfM Zbm.eq_1];simp[lnE,lnM,Zcs,crC,zf,snC,agC,hi,hj,hi',hj',hci,hcj,AW,AU,hga,hgb,hgc,hgd,hk,hck,s1,s2,hL,hw,w1,w2,w3,w4,w5,w6,w7,w8,c0,c1,c2,c3,c4,zg,zH,zX]
      ·refine⟨fun _=>?_,fun hp=>by simp[c1,c2,c3]at hp⟩;rw[ZfM Zbm.eq_1];simp[lnE,lnM,Zcs,crC,zf,snC,agC,hi,hj,hi',hj',hci,hcj,AW,AU,hga,hgb,hgc,hgd,hk,hck,s1,s2,hL,hw,w1,w2,w3,w4,w5,w6,w7,w8,c0,c1,c2,c3,zg,zH,zX]
     ·refine⟨fun _=>?_,fun hp=>by simp[c1,c2]at hp⟩;rw[ZfM Zbm.eq_1];simp[lnE,lnM,Zcs,crC,zf,snC,agC,hi,hj,hi',hj',hci,hcj,AW,AU,hga,hgb,hgc,hgd,hk,hck,s1,s2,hL,hw,w1,w2,w3,w4,w5,w6,w7,w8,c0,c1,c2,zg,zH,zX]
    ·refine⟨fun _=>?_,fun hp=>by simp[c1]at hp⟩;rw[ZfM Zbm.eq_1];simp[lnE,lnM,Zcs,crC,zf,snC,agC,hi,hj,hi',hj',hci,hcj,AW,AU,hga,hgb,hgc,hgd,hk,hck,s1,s2,hL,hw,w1,w2,w3,w4,w5,w6,w7,w8,c0,c1,zg,zH,zX]
@[simp] theorem Ze1(c:CrV):(crC c).length=6:=rfl
@[simp] theorem ZcD(l:List CrV):(ZbD l).length=l.length:=by simp[ZbD]
@[simp] theorem Zd9{l:List CrV}{i:Nat}(h:i<(ZbD l).length):(ZbD l)[i]=crC (l[i]'(by simpa using h)):=by simp[ZbD]
theorem Zen{m:zD}(h:zcp m)(s t:SnV)(i j:Nat)(hi:i<s.agents.length)(hj:j<s.agents.length)(hi':i<t.agents.length)(hj':j<t.agents.length)(ha:WAg m s.agents[i])(hb:WAg m s.agents[j])(hc:WAg m t.agents[i])(hd:WAg m t.agents[j]) :
  ∃cs:List CrV,cs.length<=1/\(∀c∈cs,c.a=i/\∃l,l<m.je.length/\lnB m s.agents[i] s.agents[j] t.agents[i] t.agents[j] l=true/\c.who=[Zgf m s.agents[i] s.agents[j] i j l])/\((∃l,l<m.je.length/\lnB m s.agents[i] s.agents[j] t.agents[i] t.agents[j] l=true)->cs≠[]) /\
  R L Cs Zcj [.a (zf m),.a (snC s),.a (snC t),W i,W j] []=some (.w (.c (.jc (ZbD cs))),[]):=by
 have hst:=fun k hk=>Zey h s t i j hi hj hi' hj' ha hb hc hd k hk
 have loop:∀(f k:Nat),k+f=m.je.length->(∃(l:Nat) (w:Int),(l<m.je.length/\lnB m s.agents[i] s.agents[j] t.agents[i] t.agents[j] l=true/\w=Zgf m s.agents[i] s.agents[j] i j l)/\Y L Cs Zbm (some [11,4,3,6,5,7]) 4 (lnE i j k) (lnM m s t)=some (.ret,[(10,.w (.c (.slice 5 1 6 0 1 none)))],Zcs m s t ⟨s.tick,i,j,l,-1,[w]⟩)) \/
   ((∀l,k<=l->l<m.je.length->lnB m s.agents[i] s.agents[j] t.agents[i] t.agents[j] l=false)/\Y L Cs Zbm (some [11,4,3,6,5,7]) 4 (lnE i j k) (lnM m s t)=some (.exit 0,(28,.w (Bo false))::lnE i j m.je.length,lnM m s t)):=by
  intro f;induction f with
  |zero =>
   intro k hk;obtain rfl:k=m.je.length:=by omega
   refine .inr ⟨fun l h1 h2=>by omega,?_⟩;rw[ZfM Zbm.eq_1];simp[lnE,lnM,zf]
  |succ f ih =>
   intro k hk;obtain⟨g1,g2⟩:=hst k (by omega);cases hp:lnB m s.agents[i] s.agents[j] t.agents[i] t.agents[j] k with
   |true =>
    obtain⟨w,hw,e⟩:=g2 hp;exact .inl ⟨k,w,⟨by omega,hp,hw⟩,e⟩
   |false =>
    rw[g1 hp];rcases ih (k+1) (by omega)with h |⟨h1,h2⟩
    ·exact .inl h
    ·refine .inr ⟨fun l a1 a2=>?_,h2⟩;rcases qN a1 with e|e
     ·subst e;exact hp
     ·exact h1 l e a2
 rcases loop m.je.length 0 (by omega)with⟨l,w,⟨q1,q2,rfl⟩,e⟩ |⟨h1,e⟩
 ·refine⟨[⟨s.tick,i,j,l,-1,[Zgf m s.agents[i] s.agents[j] i j l]⟩],by simp,fun c hc=>?_,by simp,?_⟩
  ·obtain rfl:=jz.1 hc;exact⟨rfl,l,q1,q2,rfl⟩
  clear q1 q2;generalize Zgf m s.agents[i] s.agents[j] i j l=w at *;simp only[lnE,lnM,Zcs,zf,snC,crC,jg]at e;rw[zUa Zb1 rfl];simp[ZbO,zf,snC,crC,ZbD,e,zg,zX]
 ·refine⟨[],by simp,by simp,fun⟨l,a1,a2⟩=>by rw[h1 l (by omega) a1]at a2;exact absurd a2 (by decide),?_⟩;simp only[lnE,lnM,zf,snC,jg]at e;rw[zUa Zb1 rfl];simp[ZbO,zf,snC,ZbD,e,zg,zX]
def Zcv(m:zD)(zs:List Zon):Prop:=∀p x q:Int,0<=p->0<=x->p≠x->q∈zS m p->q∈zS m x->∃(z:Nat) (hz:z<zs.length),(∃P∈zs[z].parts,P.lane=q/\P.lo=0/\0<=P.hi)/\(zjF zs[z] p).isSome=true/\(zjF zs[z] x).isSome=true
structure Zd2(m:zD)(r:List Int)(len:Int)(a a':AgV)(k:zci)(e:Ego):Prop where
 rt:a.jf=r
 ok:zdA m r=0
 ln:a.len=len
 ln':a'.len=len
 l0:0<=len
 sl:k.ego.slo<=a.s
 sh:a.s<=k.ego.shi
 go:a.s<=a'.s
 el:e.slo<=a'.s
 eh:a'.s<=e.shi
def Zcy(m:zD)(a0 a:AgV)(st0 st n:Int):Prop:=min (a.s-st) n<a0.s-a0.len-st0\/a0.s-st0<max 0 (a.s-a.len-st)
theorem ZcU{m:zD}{a0 a:AgV}(h:ZbU m a0 a=false){i j:Nat}(hi:i<a0.jf.length)(hj:j<a.jf.length)(e:a0.jf[i]=a.jf[j])(hl:0<=a0.len)(hp:max 0 (a.s-a.len-jU m a.jf j)<=min (a.s-jU m a.jf j) (z8 m a.jf[j])) :
  Zcy m a0 a (jU m a0.jf i) (jU m a.jf j) (z8 m a.jf[j]):=by
 unfold Zcy;apply kO;intro hc;have hx:z4Q m a0 i a0.jf[i]∈z2B m a0:=Zb9.2 ⟨i,hi,rfl,by unfold z4Q;rw[e];simp only;omega⟩;have hy:z4Q m a j a.jf[j]∈z2B m a:=Zb9.2 ⟨j,hj,rfl,hp⟩;have hm:z5a (z4Q m a0 i a0.jf[i]) (z4Q m a j a.jf[j])=true:=by
  unfold z5a z4Q;simp only[jh,decide_eq_true_eq];refine⟨⟨e,?_⟩,?_⟩
  ·rw[e]at *;omega
  ·rw[e]at *;omega
 have:ZbU m a0 a=true:=by
  unfold ZbU;rw[jQ];exact⟨_,hx,jQ.2 ⟨_,hy,hm⟩⟩
 rw[h]at this;exact absurd this (by decide)
theorem Zdx{m:zD}{a0 a a0' a':AgV}{l:Nat}(h:lnB m a0 a a0' a' l=false)(h1:(Zb5 a0.jf l).isSome=true)(h2:(Zb5 a.jf l).isSome=true){x y:Int}(hx:ZbS m a0.jf l=x)(hy:ZbS m a.jf l=y)
  (hb:a.s-y<a0.s-x) (hf:0<=a'.s-y) (hg:0<=a0'.s-x) (hl:a.s-y-a.len<=z8 m l):z8 m l<a0'.s-x-a0'.len\/a'.s-y<a0'.s-x-a0'.len:=by
 apply kO;intro hc;have:lnB m a0 a a0' a' l=true:=by
  unfold lnB;simp only[h1,h2,hx,hy,kq];rw[if_neg (by omega)];unfold Zed;simp only[jh,decide_eq_true_eq];omega
 rw[h]at this;exact absurd this (by decide)
theorem ZbZ{m:zD}{r:List Int}{x:Int}{i:Nat}(h:zgo r x=some i):ZbS m r x=jU m r i/\(Zb5 r x).isSome=true:=by
 have h2:Zb5 r x=some i:=h;unfold ZbS jU;rw[h2];exact⟨rfl,rfl⟩
theorem ZcY{m:zD}{r:List Int}{len:Int}{a0 a a0' a':AgV}{k:zci}{e:Ego}(ho:Zd2 m r len a0 a0' k e)(hln:∀l:Nat,l<m.je.length->lnB m a0 a a0' a' l=false){z:Int}(hz:0<=z/\z<m.je.length){i j:Nat}(hi:zgo r z=some i)(hj:zgo a.jf z=some j)
  (hlen:0<=a.len) (vg:Zcy m a0 a (jU m r i) (jU m a.jf j) (z8 m z)) (hp:max 0 (a.s-a.len-jU m a.jf j)<=min (a.s-jU m a.jf j) (z8 m z)) {b:zk} (hb:b.lane=z) (h2:min (a.s-jU m a.jf j) (z8 m z)<=b.hi) (uW:zfP m r len k b=true)
  (hgo:a.s<=a'.s) {o:Int} (h0:0<=o) (hon:o<=z8 m z) (ho2:o<=a'.s-jU m a.jf j):o<=zfx len e-jU m r i:=by
 have e1:=ho.sl;have e2:=ho.sh;have e3:=ho.ln;have e4:=ho.eh;have e5:=ho.go;have e6:=ho.ln';have e7:=ho.l0;unfold zfP at uW;rw[hb,hi]at uW;simp only[jh,decide_eq_true_eq]at uW;obtain⟨g1,g2⟩:=uW;unfold Zcy at vg;unfold zfx;obtain⟨l,rfl⟩:=jx hz.1;obtain⟨s1,t1⟩:=ZbZ (m:=m) hi;obtain⟨s2,t2⟩:=ZbZ (m:=m) hj;by_cases hu:a.s-jU m a.jf j<=z8 m l
 ·have s1':ZbS m a0.jf l=jU m r i:=by rw[ho.rt];exact s1
  have:=Zdx (hln l (by omega)) (by rw[ho.rt];exact t1) t2 s1' s2 (by omega) (by omega) (by omega) (by omega);omega
 ·omega
theorem Zez{p q y:Int}{i:Nat}(h:zgo [p,q] y=some i)(hpy:p≠y):i=1/\q=y:=by
 unfold zgo at h;simp only[kS,decide_eq_true_eq]at h;rw[if_neg hpy]at h;split at h
 ·simp at h;exact⟨h.symm,by assumption⟩
 ·simp at h
theorem ZcS{p q:Int}(hpq:p≠q):zgo [p,q] q=some 1:=by
 unfold zgo;simp[kS,hpq]
theorem Zcz(p:Int)(t:List Int):zgo (p::t) p=some 0:=by
 unfold zgo;simp[kS]
theorem Zdo(st:Int)(z:Nat)(x:Int){P:Prt}(hP:P.lane=x):∀(l:List Prt) (k:Nat),P∈l->∃p∈zLB st z x k l,p.kp=z/\p.lo=st+P.lo/\p.hi=st+P.hi
 |[],_,h=>by cases h
 |q::l,k,h=>by
  unfold zLB;rcases jB.1 h with h|h
  ·subst h;rw[if_pos hP];exact⟨_,ju,rfl,rfl,rfl⟩
  ·obtain⟨p,hp,e⟩:=Zdo st z x hP l (k+1) h;split
   ·exact⟨p,by simp[hp],e⟩
   ·exact⟨p,hp,e⟩
theorem Zdn(st x:Int){P:Prt}(hP:P.lane=x):∀(l:List Zon) (z j:Nat) (hj:j<l.length),P∈l[j].parts->∃p∈zLA st x z l,p.kp=((z+j:Nat):Int)/\p.lo=st+P.lo/\p.hi=st+P.hi
 |[],_,j,hj,_=>absurd hj (by simp)
 |q::l,z,j,hj,h=>by
  unfold zLA;cases j with
  |zero =>
   obtain⟨p,hp,e⟩:=Zdo st z x hP q.parts 0 (by simpa using h);exact⟨p,j6 _ hp,e⟩
  |succ j =>
   obtain⟨p,hp,e1,e2⟩:=Zdn st x hP l (z+1) j (by simpa using hj) (by simpa using h);exact⟨p,kL _ hp,by rw[e1];congr 1;omega,e2⟩
theorem Zdl{m:zD}{zs:List Zon}{a b:AgV}{p q:Int}(hr:a.jf=[p,q]){z:Nat}(hz:z<zs.length){P:Prt}(hP:P∈zs[z].parts)(hq:P.lane=q)(h0:P.lo=0)(h1:a.s-a.len<=z8 m p+P.hi)(h2:z8 m p<=b.s):Zb7 m zs a b z=true:=by
 obtain⟨s,hs,e1,e2,e3⟩:=Zdn (0+z8 m p) q hq zs 0 z hz hP;unfold Zb7;rw[hr,jQ];refine⟨s,?_,?_⟩
 ·simp only[zKh,kN];exact kL _ hs
 ·unfold z5u;simp only[jh,decide_eq_true_eq];exact⟨⟨by rw[e1];simp,by omega⟩,by omega⟩
theorem Zda{q:Zon}{p:Int}{t:List Int}(h:(zjF q p).isSome=true):z6b q (p::t)=some 0:=by
 unfold z6b;simp[kS,h]
theorem Zek{m:zD}{zs:List Zon}{ss:List Sgn}(hf:zmq m zs ss)(hmz:Zcv m zs){r:List Int}{len:Int}{a0 a a0' a':AgV}{k:zci}{e:Ego}(ho:Zd2 m r len a0 a0' k e)(hln:∀l:Nat,l<m.je.length->lnB m a0 a a0' a' l=false)(hzn:∀z,z<zs.length->ZcH m zs a0 a a0' a' z=false)
  {x y:Int} (hr:a.jf=[x,y]) (hx:0<=x/\x<m.je.length) (hy:0<=y/\y<m.je.length) (hxs:zes x 0 m.je=[]) (hys:zes y 0 m.je≠[]) (hxy:y∈zS m x) (hlen:0<=a.len) (hs0:0<=a.s)
  (vg:∀(i j:Nat) (hi:i<r.length) (hj:j<a.jf.length),r[i]=a.jf[j]->max 0 (a.s-a.len-jU m a.jf j)<=min (a.s-jU m a.jf j) (z8 m a.jf[j])->Zcy m a0 a (jU m r i) (jU m a.jf j) (z8 m a.jf[j]))
  (hgo:a.s<=a'.s) {b:zk} (hb:b.lane=x) (h2:min a.s (z8 m x)<=b.hi) {o:Int} (h0:0<=o) (hon:o<=z8 m y) (ho1:a'.s-a.len-z8 m x<=o) (ho2:o<=a'.s-z8 m x) (Cw:o-(a'.s-a.s)<0)
  (qV:zhq m r e.slo x y (zfP m r len k b)=true):∀i,zgo r y=some i->o<=zfx len e-jU m r i:=by
 intro i hi;have e1:=ho.sl;have e2:=ho.sh;have e3:=ho.ln;have e4:=ho.eh;have e5:=ho.go;have e6:=ho.ln';have e7:=ho.l0;have e8:=ho.el;have hnx:=zcX hf.qe hx;have hny:=zcX hf.qe hy;have hxy':x≠y:=fun h=>hys (h ▸ hxs)
 obtain⟨p,t,er,hp,hps,ht⟩:=Zb8 hf ho.ok;have hpy:p≠y:=fun h=>hys (h ▸ hps)
 rcases ht with rfl |⟨q,rfl,hq,hqm,hqs,_⟩
 ·rw[er]at hi;unfold zgo at hi;simp[kS,hpy]at hi
 rw[er]at hi;obtain⟨rfl,rfl⟩:=Zez hi hpy;have st0:jU m r 0=0:=by rw[er];simp[jU,zW]
 have st1:jU m r 1=z8 m p:=by rw[er];simp[jU,zW]
 have sa0:jU m a.jf 0=0:=(ZcN hr).1;have sa1:jU m a.jf 1=z8 m x:=(ZcN hr).2.1;have hnp:=zcX hf.qe hp;obtain⟨l,hl⟩:=jx hy.1;obtain⟨s1,t1⟩:=ZbZ (m:=m) (r:=r) (x:=q) (i:=1) (by rw[er];exact hi);obtain⟨s2,t2⟩:=ZbZ (m:=m) (r:=a.jf) (x:=q) (i:=1) (by rw[hr];exact ZcS hxy');rw[st1]at s1 ⊢;rw[sa1]at s2;have hq2:0<=a.s-z8 m x->min (a.s-z8 m x) (z8 m q)<a0.s-a0.len-z8 m p\/a0.s-z8 m p<0:=fun hs=>by
  have:=vg 1 1 (by rw[er];simp) (by rw[hr];simp) (by simp[er,hr]) (by have sa1':=sa1;simp only[hr]at sa1' ⊢;rw[sa1'];simp;omega);unfold Zcy at this;have sa1':=sa1;simp only[hr]at sa1' this;rw[sa1',st1]at this;simp at this;omega
 have back:a.s-z8 m x<a0.s-z8 m p->0<=a0'.s-z8 m p->z8 m q<a0'.s-z8 m p-len\/a'.s-z8 m x<a0'.s-z8 m p-len:=fun h1 h3=>by
  rw[hl]at s1 s2 t1 t2;have s1':ZbS m a0.jf l=z8 m p:=by rw[ho.rt];exact s1
  have:=Zdx (hln l (by omega)) (by rw[ho.rt];exact t1) t2 s1' s2 h1 (by omega) h3 (by rw[<-hl];omega);rw[<-hl]at this;omega
 unfold zfx;by_cases hpx:p=x
 ·subst hpx;have uW:zfP m r len k b=true:=by
   unfold zhq at qV;rw[qd]at qV;rcases qV with h|h
   ·rw[jh]at h;unfold zcV at h;simp at h;exact h.2.1
   ·unfold zb2 zbi at h;rw[er,Zcz,ZcS hpy]at h;simp at h
  unfold zfP at uW;rw[hb,er,Zcz,<-er]at uW;simp only[jh,decide_eq_true_eq,st0]at uW;obtain⟨g1,g2⟩:=uW;have hf0:=vg 0 0 (by rw[er];simp) (by rw[hr];simp) (by simp[er,hr]) (by have sa0':=sa0;simp only[hr]at sa0' ⊢;rw[sa0'];simp;omega);unfold Zcy at hf0;have sa0':=sa0;simp only[hr]at sa0' hf0;rw[sa0',st0]at hf0;simp at hf0;by_cases hs:z8 m p<=a.s
  ·have hh:=hq2 (by omega);by_cases hu:z8 m q<=a.s-z8 m p
   ·omega
   ·have:=back (by omega) (by omega);omega
  ·by_cases hg:0<=a0'.s-z8 m p
   ·have:=back (by omega) hg;omega
   ·exfalso;obtain⟨u,hu⟩:=jx hx.1;obtain⟨v1,w1⟩:=ZbZ (m:=m) (r:=r) (x:=p) (i:=0) (by rw[er];exact Zcz _ _);obtain⟨v2,w2⟩:=ZbZ (m:=m) (r:=a.jf) (x:=p) (i:=0) (by rw[hr];exact Zcz _ _);rw[st0]at v1;rw[sa0]at v2;rw[hu]at v1 v2 w1 w2;have v1':ZbS m a0.jf u=0:=by rw[ho.rt];exact v1
    have:=Zdx (hln u (by omega)) (by rw[ho.rt];exact w1) w2 v1' v2 (by omega) (by omega) (by omega) (by rw[<-hu];omega);rw[<-hu]at this;omega
 ·have hslo:z8 m p<=e.slo:=by
   have hnf:zbi r x q=false:=by
    unfold zbi;rw[er];have:zgo [p,q] x=none:=by
     unfold zgo;simp[kS,hpx,qK hxy']
    rw[this]
   unfold zhq zb2 at qV;rw[hnf,er,ZcS hpy,<-er]at qV;simp only[st1]at qV;simpa using qV
  obtain⟨z,hz,⟨P,hP,P1,P2,P3⟩,hZp,hZx⟩:=hmz p x q hp.1 hx.1 hpx hq hxy;have hnz:=hzn z hz;have hpa:=Zdl (m:=m) (b:=a') hr hz hP P1 P2 (by omega) (by omega);have Cy:z8 m p+P.hi<a0.s-a0.len:=by
   apply kO;intro hc;have hpo:=Zdl (m:=m) (b:=a0') (by rw[ho.rt,er]) hz hP P1 P2 (by omega) (by omega);have hgz:zs.getD z Zde=zs[z]:=by simp[hz]
   unfold ZcH at hnz;rw[hpa,hpo,hgz,ho.rt,er,hr,Zda hZp,Zda hZx]at hnz;simp at hnz;exact hpx hnz
  by_cases hs:0<=a.s-z8 m x
  ·have hh:=hq2 hs;by_cases hu:z8 m q<=a.s-z8 m x
   ·omega
   ·have:=back (by omega) (by omega);omega
  ·have:=back (by omega) (by omega);omega
def z4q(p:Spn)(a:AgV)(b:zk):Bool:=decide (b.lane=p.lane)&&decide (b.lo<=p.lo)&&decide (p.hi<=b.hi)&&(decide (b.vlo<=a.v)&&decide (a.v<=b.vhi))
def unc(k:zci)(a:AgV)(p:Spn):Bool:=!k.jV.any (z4q p a)
abbrev z3O:AgV:=⟨[],0,0,0,0,false,false⟩
def z4z(m:zD)(s:SnV)(k:zci)(i:Nat):Bool:=decide (0<i)&&thA s.tick (s.agents.getD i z3O)&&(z2B m (s.agents.getD i z3O)).any (unc k (s.agents.getD i z3O))
def z7p(a:AgV)(x:Ego):Bool:=decide (x.slo<=a.s)&&decide (a.s<=x.shi)&&(decide (x.vlo<=a.v)&&decide (a.v<=x.vhi))
def z4P(m:zD)(s:SnV)(k:zci):Bool :=
 decide (z31 m s=0)&&decide (zdf m k=0)&&decide (s.tick=k.tick)&&z7p (s.agents.getD 0 z3O) k.ego && !(List.range s.agents.length).any (z4z m s k)
abbrev coM(m:zD)(s:SnV)(k:zci)(a0:AgV):Mem:=[bx 5 (zf m),bx 3 (snC s),bx 6 (zG k),bxv 1 7 (agC a0),bxv 1 4 (zch k.ego)]
theorem z6V(p:Spn)(a:AgV)(b:zk):z4q p a b=true<->b.lane=p.lane/\b.lo<=p.lo/\p.hi<=b.hi/\b.vlo<=a.v/\a.v<=b.vhi:=by
 unfold z4q;simp[and_assoc]
theorem z5Y{α:Type}(p:α->Bool):∀(l:List α) (i:Nat) (s:Bool),zM6 (fun _ s b=>s||p b) i s l=(s||l.any p)
 |[],_,s=>by simp[zM6]
 |x::l,i,s=>by simp[zM6,z5Y p l,Bool.or_assoc]
abbrev z41(m:zD)(a:AgV)(is:Bool)(n j i:Nat):Env:=[(12,.w (Bo is)),(13,.w (W n)),(3,.w (Pt 0)),(5,.w (Pt 2)),(10,.w (.c (.jc (zWx (z2B m a))))),(11,.w (W j)),(4,.w (Pt 1)),(9,.w (W i))]
theorem z6l(m:zD)(s:SnV)(k:zci)(a0:AgV)(hk:k.jV.length<=100000000000)(i:Nat)(hi:i<s.agents.length)(j:Nat)(hj:j<(z2B m s.agents[i]).length):Y L Cs z2Q (some [12,13,3,5,10,11,4,9]) 5 (z41 m s.agents[i] false 0 j i) (coM m s k a0) =
  some (.exit 4,[(93,.w (Bo false)),(12,.w (Bo (k.jV.any (z4q (z2B m s.agents[i])[j] s.agents[i])))),(13,.w (W k.jV.length)),(3,.w (Pt 0)),(5,.w (Pt 2)),(10,.w (.c (.jc (zWx (z2B m s.agents[i]))))),(11,.w (W j)),(4,.w (Pt 1)),(9,.w (W i))],coM m s k a0):=by
 have h:=zPH (L:=L) (Cs:=Cs) (b:=z2Q) (live:=some [12,13,3,5,10,11,4,9]) (n0:=5) k.jV (fun n is=>z41 m s.agents[i] is n j i) (fun _ _=>coM m s k a0) (fun _ _=>True) (fun _ is b=>is||z4q (z2B m s.agents[i])[j] s.agents[i] b)
  (fun is=>(.exit 4,[(93,.w (Bo false)),(12,.w (Bo is)),(13,.w (W k.jV.length)),(3,.w (Pt 0)),(5,.w (Pt 2)),(10,.w (.c (.jc (zWx (z2B m s.agents[i]))))),(11,.w (W j)),(4,.w (Pt 1)),(9,.w (W i))],coM m s k a0)) ?_ ?_ (s0:=false) trivial
 ·rw[z5Y,k7]at h;exact h
 ·intro n hn is _;refine⟨trivial,?_⟩;have hw:=zB (i:=n) (by omega);generalize hag:s.agents[i]=a at *;have hcj:(j:Int)<(z2B m a).length:=by omega
  generalize hp:(z2B m a)[j]=p at *;generalize hb:k.jV[n]=b at *;have hci:=z6V p a b;rw[ZfM z2Q.eq_1];cases is with
  |true=>simp[z41,coM,zf,snC,zG,zch,agC,ze,hn,hb,hw,zg,zH]
  |false =>
   by_cases c1:b.lane=p.lane
   ·have b1:(b.lane==p.lane)=true:=by simp[c1]
    by_cases c2:b.lo<=p.lo
    ·by_cases c3:p.hi<=b.hi
     ·by_cases c4:b.vlo<=a.v
      ·by_cases c5:a.v<=b.vhi
       ·rw[hci.2 ⟨c1,c2,c3,c4,c5⟩];simp[z41,coM,zf,snC,zG,zch,agC,ze,zWX,hn,hb,hj,hcj,hp,hi,hag,hw,b1,c2,c3,c4,c5,zg,zH]
       ·have:z4q p a b=false:=ul.2 fun e=>c5 (hci.1 e).2.2.2.2
        rw[this];simp[z41,coM,zf,snC,zG,zch,agC,ze,zWX,hn,hb,hj,hcj,hp,hi,hag,hw,b1,c2,c3,c4,c5,zg,zH]
      ·have:z4q p a b=false:=ul.2 fun e=>c4 (hci.1 e).2.2.2.1
       rw[this];simp[z41,coM,zf,snC,zG,zch,agC,ze,zWX,hn,hb,hj,hcj,hp,hi,hag,hw,b1,c2,c3,c4,zg,zH]
     ·have:z4q p a b=false:=ul.2 fun e=>c3 (hci.1 e).2.2.1
      rw[this];simp[z41,coM,zf,snC,zG,zch,agC,ze,zWX,hn,hb,hj,hcj,hp,hi,hag,hw,b1,c2,c3,zg,zH]
    ·have:z4q p a b=false:=ul.2 fun e=>c2 (hci.1 e).2.1
     rw[this];simp[z41,coM,zf,snC,zG,zch,agC,ze,zWX,hn,hb,hj,hcj,hp,hi,hag,hw,b1,c2,zg,zH]
   ·have:z4q p a b=false:=ul.2 fun e=>c1 (hci.1 e).1
    have b1:(b.lane==p.lane)=false:=by simp[c1]
    rw[this];simp[z41,coM,zf,snC,zG,zch,agC,ze,zWX,hn,hb,hj,hcj,hp,hi,hag,hw,b1,zg,zH]
 ·intro is _;rw[ZfM z2Q.eq_1];simp[z41,coM,zf,snC,zG,zch,agC]
abbrev z5T(m:zD)(a:AgV)(j i:Nat):Env:=[(3,.w (Pt 0)),(5,.w (Pt 2)),(10,.w (.c (.jc (zWx (z2B m a))))),(11,.w (W j)),(4,.w (Pt 1)),(9,.w (W i))]
theorem z6F{m:zD}(h:zcp m)(s:SnV)(k:zci)(a0:AgV)(hk:k.jV.length<=100000000000)(i:Nat)(hi:i<s.agents.length)(ha:WAg m s.agents[i]):∃j:Nat,Y L Cs z2z (some [3,5,10,11,4,9]) 5 (z5T m s.agents[i] 0 i) (coM m s k a0) =
  some (if thA s.tick s.agents[i]&&(z2B m s.agents[i]).any (unc k s.agents[i]) then(.ret,[(6,.w (Bo false))],coM m s k a0)
   else(.exit 2,[(86,.w (Bo false)),(3,.w (Pt 0)),(5,.w (Pt 2)),(10,.w (.c (.jc (zWx (z2B m s.agents[i]))))),(11,.w (W j)),(4,.w (Pt 1)),(9,.w (W i))],coM m s k a0)):=by
 have hbl:=z38 h ha;have hT:=z56 s i hi;by_cases c1:thA s.tick s.agents[i]=true
 ·refine⟨(z2B m s.agents[i]).length,?_⟩;rw[c1,kq];rw[c1]at hT;refine zpE (L:=L) (Cs:=Cs) (b:=z2z) (live:=some [3,5,10,11,4,9]) (n0:=5) (z2B m s.agents[i]) (fun j=>z5T m s.agents[i] j i) (coM m s k a0) (unc k s.agents[i]) _ _ ?_ ?_ ?_
  ·intro j hj hb;have hw:=zB (i:=j) (by omega);have hcj:(j:Int)<(z2B m s.agents[i]).length:=by omega
   have hI:=z6l m s k a0 hk i hi j hj;unfold unc at hb;have hb:k.jV.any (z4q (z2B m s.agents[i])[j] s.agents[i])=true:=by simpa using hb
   rw[hb]at hI;rw[ZfM z2z.eq_1];simp only[z41,coM,zf,snC,zG,zch,agC,jg]at hT hI;simp[z5T,coM,zf,snC,zG,zch,agC,hj,hcj,hw,hT,hI]
  ·intro j hj hb;have hcj:(j:Int)<(z2B m s.agents[i]).length:=by omega
   have hI:=z6l m s k a0 hk i hi j hj;unfold unc at hb;have hb:k.jV.any (z4q (z2B m s.agents[i])[j] s.agents[i])=false:=by simpa using hb
   rw[hb]at hI;rw[ZfM z2z.eq_1];simp only[z41,coM,zf,snC,zG,zch,agC,jg]at hT hI;simp[z5T,coM,zf,snC,zG,zch,agC,hj,hcj,hT,hI]
  ·rw[ZfM z2z.eq_1];simp[z5T,coM,zf,snC,zG,zch,agC]
 ·refine⟨0,?_⟩;rw[uC]at c1;rw[c1,Bool.false_and];rw[c1]at hT;rw[ZfM z2z.eq_1];simp only[snC]at hT;by_cases c0:0<(z2B m s.agents[i]).length
  ·simp[z5T,coM,zf,snC,zG,zch,agC,c0,hT]
  ·have:(z2B m s.agents[i]).length=0:=by omega
   simp[z5T,coM,zf,snC,zG,zch,agC,this]
abbrev z5S(i:Nat):Env:=[(3,.w (Pt 0)),(5,.w (Pt 2)),(4,.w (Pt 1)),(9,.w (W i))]
theorem z6W(m:zD)(s:SnV)(k:zci)(i:Nat)(hi:i+1<s.agents.length):z4z m s k (i+1)=(thA s.tick s.agents[i+1]&&(z2B m s.agents[i+1]).any (unc k s.agents[i+1])):=by
 unfold z4z;rw[show s.agents.getD (i+1) z3O=s.agents[i+1] by simp[hi]];simp
theorem z6E{m:zD}(h:zcp m)(s:SnV)(hs:KSn m s)(k:zci)(a0:AgV)(hk:k.jV.length<=100000000000):Y L Cs z2y (some [3,5,4,9]) 5 (z5S 1) (coM m s k a0) =
  some (if(List.range s.agents.length).any (z4z m s k) then(.ret,[(6,.w (Bo false))],coM m s k a0)
   else(.exit 0,[(68,.w (Bo false)),(3,.w (Pt 0)),(5,.w (Pt 2)),(4,.w (Pt 1)),(9,.w (W s.agents.length))],coM m s k a0)):=by
 have yz:=hs.few;have qs:=hs.some;have vS:∀i (hi:i+1<s.agents.length),Y L Cs z2y (some [3,5,4,9]) 5 (z5S (i+1)) (coM m s k a0)=if z4z m s k (i+1) then some (.ret,[(6,.w (Bo false))],coM m s k a0) else Y L Cs z2y (some [3,5,4,9]) 5 (z5S (i+1+1)) (coM m s k a0):=by
  intro i hi;have hw:=zB (i:=i+1) (by omega);have ha:=hs.ags _ (ja hi);obtain⟨j,hM⟩:=z6F h s k a0 hk (i+1) hi ha;have hB:=z5H h ha;rw[z6W m s k i hi];have a1:(0:Int)<=(i:Int)+1:=by omega
  have a2:(i:Int)+1<(s.agents.length:Int):=by omega
  have a3:((i:Int)+1).toNat=i+1:=by omega
  have w2:=ku ((i:Int)+1+1);generalize hag:s.agents[i+1]=a at *;generalize (thA s.tick a&&(z2B m a).any (unc k a))=u at *;rw[ZfM z2y.eq_1];simp only[z5T,coM,zf,snC,zG,zch,agC,jg,jP,j9]at hB hM;cases u with
  |true=>simp[z5S,coM,zf,snC,zG,zch,agC,hi,hag,hB,hM,a1,a2,a3]
  |false=>simp[z5S,coM,zf,snC,zG,zch,agC,hi,hag,hB,hM,a1,a2,a3,w2]
 have key:∀f i,i+1+f=s.agents.length->Y L Cs z2y (some [3,5,4,9]) 5 (z5S (i+1)) (coM m s k a0)=some (if(List.range' (i+1) f).any (z4z m s k) then(.ret,[(6,.w (Bo false))],coM m s k a0)
   else(.exit 0,[(68,.w (Bo false)),(3,.w (Pt 0)),(5,.w (Pt 2)),(4,.w (Pt 1)),(9,.w (W s.agents.length))],coM m s k a0)):=by
  intro f;induction f with
  |zero =>
   intro i hi;have e:s.agents.length=i+1:=by omega
   rw[ZfM z2y.eq_1];simp[z5S,coM,zf,snC,zG,zch,agC,e]
  |succ f ih =>
   intro i hi;rw[vS i (by omega),List.range'_succ,uq];cases hb:z4z m s k (i+1)with
   |true=>simp
   |false =>
    rw[k7];simpa using ih (i+1) (by omega)
 have h0:z4z m s k 0=false:=by simp[z4z]
 have hr:(List.range s.agents.length).any (z4z m s k)=(List.range' 1 (s.agents.length-1)).any (z4z m s k):=by
  obtain⟨n,hn⟩:∃n,s.agents.length=n+1:=⟨s.agents.length-1,by omega⟩;rw[hn,List.range_eq_range',List.range'_succ,uq,h0];simp
 rw[hr];have:=key (s.agents.length-1) 0 (by omega);simpa using this
theorem z54{m:zD}(h:zcp m)(s:SnV)(hs:KSn m s)(k:zci)(hk:k.jV.length<=100000000000)(hok:∀b∈k.jV,OKB b):R L Cs z37 [.a (zf m),.a (snC s),.a (zG k)] []=some (.w (Bo (z4P m s k)),[]):=by
 have h1:=z5f h s hs;have h2:=zxh h k hk hok;have qs:=hs.some;have h3:=z6E h s hs k s.agents[0] hk;have e0:s.agents.getD 0 z3O=s.agents[0]:=by simp[qs]
 unfold z4P z7p;rw[e0];generalize hag:s.agents[0]=a at *;simp only[z5S,coM,zf,snC,zG,zch,agC,j9]at h1 h2 h3;rw[zUa z39 rfl];by_cases c1:z31 m s=0
 ·by_cases c2:zdf m k=0
  ·by_cases c3:s.tick=k.tick
   ·have c3b:(s.tick !=k.tick)=false:=by simp[c3]
    have c3d:decide (s.tick=k.tick)=true:=by simp[c3]
    have c3e:(s.tick==k.tick)=true:=by simp[c3]
    rw[c1]at h1;rw[c2]at h2;by_cases d1:k.ego.slo<=a.s
    ·have d1':¬a.s<k.ego.slo:=by omega
     by_cases d2:a.s<=k.ego.shi
     ·have d2':¬k.ego.shi<a.s:=by omega
      by_cases d3:k.ego.vlo<=a.v
      ·have d3':¬a.v<k.ego.vlo:=by omega
       by_cases d4:a.v<=k.ego.vhi
       ·have d4':¬k.ego.vhi<a.v:=by omega
        cases hq:(List.range s.agents.length).any (z4z m s k)with
        |false =>
         rw[hq]at h3;simp[Zbl,zf,snC,zG,zch,agC,h1,h2,h3,c1,c2,c3b,c3d,c3e,qs,hag,d1,d2,d3,d4,d1',d2',d3',d4',zg,zH]
        |true =>
         rw[hq]at h3;simp[Zbl,zf,snC,zG,zch,agC,h1,h2,h3,c1,c2,c3b,c3d,c3e,qs,hag,d1,d2,d3,d4,d1',d2',d3',d4',zg,zH]
       ·have d4':k.ego.vhi<a.v:=by omega
        simp[Zbl,zf,snC,zG,zch,agC,h1,h2,c1,c2,c3b,c3d,c3e,qs,hag,d1,d2,d3,d4,d1',d2',d3',d4',zg,zH]
      ·have d3':a.v<k.ego.vlo:=by omega
       simp[Zbl,zf,snC,zG,zch,agC,h1,h2,c1,c2,c3b,c3d,c3e,qs,hag,d1,d2,d3,d1',d2',d3',zg,zH]
     ·have d2':k.ego.shi<a.s:=by omega
      simp[Zbl,zf,snC,zG,zch,agC,h1,h2,c1,c2,c3b,c3d,c3e,qs,hag,d1,d2,d1',d2',zg,zH]
    ·have d1':a.s<k.ego.slo:=by omega
     simp[Zbl,zf,snC,zG,zch,agC,h1,h2,c1,c2,c3b,c3d,c3e,qs,hag,d1,d1',zg,zH]
   ·have c3b:(s.tick !=k.tick)=true:=by simp[c3]
    have c3e:(s.tick==k.tick)=false:=by simp[c3]
    rw[c1]at h1;rw[c2]at h2;simp[Zbl,zf,snC,zG,zch,agC,h1,h2,c1,c2,c3,c3b,c3e,zg,zH]
  ·have c2e:(zdf m k==0)=false:=by simp[c2]
   have c2f:(zdf m k !=0)=true:=by simp[c2]
   rw[c1]at h1;simp[Zbl,zf,snC,zG,zch,agC,h1,h2,c1,c2,c2e,c2f,zg,zH]
 ·have c1e:(z31 m s==0)=false:=by simp[c1]
  have c1f:(z31 m s !=0)=true:=by simp[c1]
  simp[Zbl,zf,snC,zG,zch,agC,h1,c1,c1e,c1f,zg,zH]
def Zd4(m:zD)(k:zci)(a:AgV):Prop:=∀p∈z2B m a,∃b∈k.jV,z4q p a b=true
def ZdG(m:zD)(k:zci)(a:AgV):Prop:=∀b∈k.jV,b.lane=z42 m a->b.lo<=frF m a->frF m a<=b.hi->b.hold=0\/frF m a+zet a.v (zd4 (zaK m (z42 m a)))<b.hold
theorem ZcA{m:zD}{r:List Int}{len:Int}{a0 a a0':AgV}{k:zci}{e:Ego}(hvb:∀b∈k.jV,VB m b)(ho:Zd2 m r len a0 a0' k e)(hc:Zd4 m k a){j:Nat}(hj:j<a.jf.length){x st:Int}(hx:a.jf[j]=x)(hst:jU m a.jf j=st)
  (hp:max 0 (a.s-a.len-st)<=min (a.s-st) (z8 m x)) (vg:∀(i:Nat) (hi:i<r.length),r[i]=x->Zcy m a0 a (jU m r i) st (z8 m x)) :
  ∃b∈k.jV,∃c∈zkr m k.ego len r k.jV,VB m c/\c.lane=x/\c.lo<=max 0 (a.s-a.len-st)/\min (a.s-st) (z8 m x)<=c.hi/\c.vlo<=a.v/\a.v<=c.vhi/\b.lane=x/\b.lo<=max 0 (a.s-a.len-st)/\min (a.s-st) (z8 m x)<=b.hi/\c.hold=b.hold:=by
 subst hx hst;obtain⟨b,hb,hcv⟩:=hc (z4Q m a j a.jf[j]) (Zb9.2 ⟨j,hj,rfl,hp⟩);unfold z4q z4Q at hcv;simp only[jh,decide_eq_true_eq]at hcv;have e1:=ho.sl;have e2:=ho.sh;have e3:=ho.ln;obtain⟨c,hcm,c1,c2,c3,c4,c5,c6⟩:=Zc5 m k.ego len hp r k.jV b hb (x:=a.jf[j]) (by omega) (by omega) (by omega) (fun i hi hr=>by
  have:=vg i hi hr;unfold Zcy at this;omega)
 exact⟨b,hb,c,hcm,ztK k.ego len r k.jV hvb c hcm,c1,c2,c3,by omega,by omega,by omega,by omega,by omega,c6⟩
theorem ZcR{m:zD}{zs:List Zon}{ss:List Sgn}{r:List Int}{len:Int}{k:zci}{e:Ego}{sg:Bool}{c:zk}(hc:c∈zkr m k.ego len r k.jV){z:LB}(hz:z∈zm8 m zs ss r (zfx len e) e.slo len k sg c):z.1∈zex m zs ss r len k e sg:=by
 unfold zex zgt;exact j6 _ (kQ.2 ⟨c,hc,kJ.2 ⟨z,hz,rfl⟩⟩)
def ZeD(m:zD)(B:List zk)(sg:Bool)(v x o:Int):Prop:=∃z∈B,z.lane=x/\z.lo<=o/\o<=z.hi/\z.vlo<=v/\v<=z.vhi/\(z.hold=0\/sg=true/\o+zet v (zd4 (zaK m x))<z.hold)
theorem ZeS{m:zD}{zs:List Zon}{ss:List Sgn}(hf:zmq m zs ss)(hmz:Zcv m zs){r:List Int}{len:Int}{a0 a a0' a':AgV}{k:zci}{e:Ego}(ho:Zd2 m r len a0 a0' k e)(hvb:∀b∈k.jV,VB m b)
  (hln:∀l:Nat,l<m.je.length->lnB m a0 a a0' a' l=false) (hzn:∀z,z<zs.length->ZcH m zs a0 a a0' a' z=false) (hto:ZbU m a0 a=false)
  (ha:WAg m a) (sg:Bool) (hob:sg=true->a.uZ=true) (hm:Mvd m (zeA zs ss (z42 m a) k.tick) a a') (hc:Zd4 m k a) (hh:sg=true->ZdG m k a) {p:Spn} (hp:p∈z2B m a') {o:Int} (h1:p.lo<=o) (h2:o<=p.hi):ZeD m (zex m zs ss r len k e sg) sg a'.v p.lane o:=by
 obtain⟨x,t,er,hx,hxs,ht⟩:=Zb8 hf ha.jf;obtain⟨j,hj,rfl,hpl⟩:=Zb9.1 hp;have hs:=hm.s;have hs0:=ha.s.1;have hl0:=ha.len.1;have qI:=hm.pos;have hl0':0<=a0.len:=by have:=ho.ln;have:=ho.l0;omega
 have hfr:∀(i j:Nat) (hi:i<r.length) (hj:j<a.jf.length),r[i]=a.jf[j]->max 0 (a.s-a.len-jU m a.jf j)<=min (a.s-jU m a.jf j) (z8 m a.jf[j])->Zcy m a0 a (jU m r i) (jU m a.jf j) (z8 m a.jf[j]):=by
  intro i j hi hj hE hP;have:=ZcU hto (i:=i) (j:=j) (by rw[ho.rt];exact hi) hj (by simp only[ho.rt];exact hE) hl0' hP;rw[ho.rt]at this;exact this
 have hrt:=hm.jf;have hln':=hm.len;simp only[hrt]at hj;unfold z4Q at h1 h2 ⊢;simp only[hrt,hln']at h1 h2 ⊢;have hsx:=ZdA hx hxs;have CJ:∀{st:Int} {b c:zk},sg=true->b∈k.jV->b.lo<=max 0 (a.s-a.len-st)->max 0 (a.s-a.len-st)<=min (a.s-st) (z8 m b.lane)->min (a.s-st) (z8 m b.lane)<=b.hi->c.hold=b.hold->c.lane=b.lane->VB m c->(b.lane=z42 m a->frF m a=a.s-st)->c.lane=z42 m a->c.lo<=frF m a->frF m a<=c.hi->c.hold=0\/frF m a+zet a.v (zd4 (zaK m (z42 m a)))<c.hold:=by
  intro st b c hsg hb b1 b2 b3 b4 b5 hv hfr hon c1 c2;have hf1:=hfr (by rw[<-b5];exact hon);have hv1:=hv.hi;rw[b5]at hv1;rw[b4];exact hh hsg b hb (by rw[<-b5];exact hon) (by omega) (by omega)
 rcases ht with rfl |⟨y,rfl,hy,hyo,hys,hky⟩
 ·obtain⟨a1,a2,a3⟩:=Zdh (m:=m) er;obtain rfl:j=0:=by rw[er]at hj;simp at hj;exact hj
  have ex:a.jf[0]=x:=by simp[er]
  simp only[ex,a3]at h1 h2 ⊢;have hp0:max 0 (a.s-a.len-0)<=min (a.s-0) (z8 m x):=by omega
  obtain⟨b,hb,c,hcm,cv,c1,c2,c3,c4,c5,b1,b2,b3,b4⟩:=ZcA hvb ho hc hj ex a3 hp0 (fun i hi hr=>by have:=hfr i 0 hi hj (by rw[ex];exact hr) (by rw[ex,a3];exact hp0);rw[ex,a3]at this;exact this);obtain⟨z,hz,g⟩:=Zdf (o:=o) hf hm sg hob hx (by rw[a2]) (fun _ _=>⟨a2,by rw[a1];exact a3⟩) cv c1 hp0 c2 c3 c4 c5 (fun hsg=>CJ hsg hb b2 (by rw[b1];exact hp0) (by rw[b1];exact b3) b4 (by omega) cv (fun _=>by unfold frF;rw[a1,a3])) (by omega) (by omega) (by omega) (by omega) (fun _=>⟨rfl,hsx⟩) (slo:=e.slo) (len:=len) (r:=r) (bar:=zfx len e) (fun uW i hi=>by
   obtain⟨hil,hix⟩:=zfT hi;have h:=ZcY (j:=0) ho hln hx hi (by rw[er];exact Zcz _ _) (by omega) (by have:=hfr i 0 hil hj (by rw[ex];exact hix) (by rw[ex,a3];exact hp0);rw[ex]at this;exact this) (by rw[a3];exact hp0) c1 (by rw[a3];exact c3) uW (by omega) (o:=o) (by omega) (by omega) (by rw[a3];omega);exact h)
  exact⟨z.1,ZcR hcm hz,g⟩
 ·obtain⟨a0s,a1s,a2,a3⟩:=ZcN (m:=m) er;have hxy:x≠y:=fun h=>hys (h ▸ hxs)
  have hnx:=zcX hf.qe hx;have hny:=zcX hf.qe hyo;have kx:zaK m x=zaK m (z42 m a):=by
   by_cases hc:z8 m x<=a.s
   ·rw[(a2 hc).2,hky]
   ·rw[(a3 (by omega)).2]
  have Dy:0<=a.s->a.s<0+z8 m x->z42 m a=x/\jU m a.jf (z4R m a)=0:=fun _ h=>by
   obtain⟨q1,q2⟩:=a3 (by omega);exact⟨q2,by rw[q1];exact a0s⟩
  have front1:z8 m x<=a.s->a.s<z8 m x+z8 m y->z42 m a=y/\jU m a.jf (z4R m a)=z8 m x:=fun h _=>by
   obtain⟨q1,q2⟩:=a2 h;exact⟨q2,by rw[q1];exact a1s⟩
  have hon0:x=z42 m a->frF m a=a.s-0:=fun h=>by
   by_cases hc:z8 m x<=a.s
   ·exact absurd (h.trans (a2 hc).2) hxy
   ·unfold frF;rw[(a3 (by omega)).1,a0s]
  have hon1:y=z42 m a->frF m a=a.s-z8 m x:=fun h=>by
   by_cases hc:z8 m x<=a.s
   ·unfold frF;rw[(a2 hc).1,a1s]
   ·exact absurd ((a3 (by omega)).2.symm.trans h.symm) hxy
  have j01:j=0\/j=1:=by rw[er]at hj;simp at hj;omega
  have hj0:0<a.jf.length:=by rw[er];simp
  have hj1:1<a.jf.length:=by rw[er];simp
  have ex:a.jf[0]=x:=by simp[er]
  have ey:a.jf[1]=y:=by simp[er]
  rcases j01 with rfl|rfl
  ·simp only[ex,a0s]at h1 h2 ⊢;have hp0:max 0 (a.s-a.len-0)<=min (a.s-0) (z8 m x):=by omega
   obtain⟨b,hb,c,hcm,cv,c1,c2,c3,c4,c5,b1,b2,b3,b4⟩:=ZcA hvb ho hc hj0 ex a0s hp0 (fun i hi hr=>by have:=hfr i 0 hi hj0 (by rw[ex];exact hr) (by rw[ex,a0s];exact hp0);rw[ex,a0s]at this;exact this);obtain⟨z,hz,g⟩:=Zdf (o:=o) hf hm sg hob hx kx (by simpa using Dy) cv c1 hp0 c2 c3 c4 c5 (fun hsg=>CJ hsg hb b2 (by rw[b1];exact hp0) (by rw[b1];exact b3) b4 (by omega) cv (fun h=>hon0 (by rw[<-b1];exact h))) (by omega) (by omega) (by omega) (by omega) (fun _=>⟨rfl,hsx⟩) (slo:=e.slo) (len:=len) (r:=r) (bar:=zfx len e) (fun uW i hi=>by
    obtain⟨hil,hix⟩:=zfT hi;exact ZcY (j:=0) ho hln hx hi (by rw[er];exact Zcz _ _) (by omega) (by have:=hfr i 0 hil hj0 (by rw[ex];exact hix) (by rw[ex,a0s];exact hp0);rw[ex]at this;exact this) (by rw[a0s];exact hp0) c1 (by rw[a0s];exact c3) uW (by omega) (o:=o) (by omega) (by omega) (by rw[a0s];omega))
   exact⟨z.1,ZcR hcm hz,g⟩
  ·simp only[ey,a1s]at h1 h2 ⊢;by_cases Cw:o-a'.v<0
   ·have hp0:max 0 (a.s-a.len-0)<=min (a.s-0) (z8 m x):=by omega
    obtain⟨b,hb,c,hcm,cv,c1,c2,c3,c4,c5,b1,b2,b3,b4⟩:=ZcA hvb ho hc hj0 ex a0s hp0 (fun i hi hr=>by have:=hfr i 0 hi hj0 (by rw[ex];exact hr) (by rw[ex,a0s];exact hp0);rw[ex,a0s]at this;exact this);obtain⟨z,hz,g1,g2,g3,g4,g5,g6⟩:=Zes (o:=o) hf hm sg hob hx hsx hy kx Dy cv c1 hs0 (by simpa using hp0) (by simpa using c2) (by simpa using c3) c4 c5 (fun hsg=>CJ hsg hb b2 (by rw[b1];exact hp0) (by rw[b1];exact b3) b4 (by omega) cv (fun h=>hon0 (by rw[<-b1];exact h))) (by omega) (by omega) (by omega) (by omega) Cw (slo:=e.slo) (len:=len) (r:=r) (bar:=zfx len e)
     (fun qV=>Zek hf hmz ho hln hzn er hx hyo hxs hys hy (by omega) hs0 hfr (by omega) c1 (by simpa using c3) (o:=o) (by omega) (by omega) (by omega) (by omega) (by omega) qV)
    exact⟨z.1,ZcR hcm hz,g1,g2,g3,g4,g5,.inl g6⟩
   ·have hp1:max 0 (a.s-a.len-z8 m x)<=min (a.s-z8 m x) (z8 m y):=by omega
    obtain⟨b,hb,c,hcm,cv,c1,c2,c3,c4,c5,b1,b2,b3,b4⟩:=ZcA hvb ho hc hj1 ey a1s hp1 (fun i hi hr=>by have:=hfr i 1 hi hj1 (by rw[ey];exact hr) (by rw[ey,a1s];exact hp1);rw[ey,a1s]at this;exact this);obtain⟨z,hz,g⟩:=Zdf (o:=o) hf hm sg hob hyo (by rw[hky];exact kx) front1 cv c1 hp1 c2 c3 c4 c5 (fun hsg=>CJ hsg hb b2 (by rw[b1];exact hp1) (by rw[b1];exact b3) b4 (by omega) cv (fun h=>hon1 (by rw[<-b1];exact h))) (by omega) (by omega) (by omega) (by omega) (fun h=>absurd h Cw) (slo:=e.slo) (len:=len) (r:=r) (bar:=zfx len e) (fun uW i hi=>by
     obtain⟨hil,hix⟩:=zfT hi;exact ZcY (j:=1) ho hln hyo hi (by rw[er];exact ZcS hxy) (by omega) (by have:=hfr i 1 hil hj1 (by rw[ey];exact hix) (by rw[ey,a1s];exact hp1);rw[ey]at this;exact this) (by rw[a1s];exact hp1) c1 (by rw[a1s];exact c3) uW (by omega) (o:=o) (by omega) (by omega) (by rw[a1s];omega))
    exact⟨z.1,ZcR hcm hz,g⟩
theorem ZeU{m:zD}{zs:List Zon}{ss:List Sgn}(hf:zmq m zs ss){r:List Int}{len:Int}{k:zci}{e:Ego}(Cj:0<=zfx len e)(sg:Bool){a:AgV}(ha:WAg m a)(hs:a.s=0)(hv:0<=a.v/\a.v<=zeR (zaK m (z42 m a))){p:Spn}(hp:p∈z2B m a){o:Int}(h1:p.lo<=o)(h2:o<=p.hi):ZeD m (zex m zs ss r len k e sg) sg a.v p.lane o:=by
 obtain⟨x,t,er,hx,hxs,ht⟩:=Zb8 hf ha.jf;obtain⟨j,hj,rfl,hpl⟩:=Zb9.1 hp;have hl0:=ha.len.1;have hnx:=zcX hf.qe hx;have src:ZeD m (zex m zs ss r len k e sg) sg a.v x 0\/z42 m a≠x:=by
  by_cases ho:z42 m a=x
  ·left;refine⟨⟨x,0,0,0,zeR (zaK m x),0⟩,?_,rfl,by simp,by simp,hv.1,by rw[<-ho];exact hv.2,.inl rfl⟩;unfold zex;refine kL _ (kQ.2 ⟨x,ZdA hx hxs,?_⟩);unfold zfb zqn;rw[decide_eq_true Cj];simp
  ·exact .inr ho
 unfold z4Q at h1 h2 hpl ⊢;simp only at h1 h2 hpl ⊢;rcases ht with rfl |⟨y,rfl,hy,hyo,hys,hky⟩
 ·obtain⟨a1,a2,a3⟩:=Zdh (m:=m) er;obtain rfl:j=0:=by rw[er]at hj;simp at hj;exact hj
  have ex:a.jf[0]=x:=by simp[er]
  simp only[ex,a3]at h1 h2 ⊢;obtain rfl:o=0:=by omega
  exact src.resolve_right (fun h=>h a2)
 ·obtain⟨a0s,a1s,a2,a3⟩:=ZcN (m:=m) er;have j01:j=0\/j=1:=by rw[er]at hj;simp at hj;omega
  have ex:a.jf[0]'(by rw[er];simp)=x:=by simp[er]
  have ey:a.jf[1]'(by rw[er];simp)=y:=by simp[er]
  rcases j01 with rfl|rfl
  ·simp only[ex,a0s]at h1 h2 ⊢;obtain rfl:o=0:=by omega
   exact src.resolve_right (fun h=>h (a3 (by omega)).2)
  ·simp only[ey,a1s]at h1 h2 ⊢;omega
theorem Zei{m:zD}{zs:List Zon}{ss:List Sgn}(hf:zmq m zs ss){r:List Int}{len:Int}{a0 a0' a':AgV}{k:zci}{e:Ego}(ho:Zd2 m r len a0 a0' k e)(hr0:a0'.jf=r)(hvb:∀b∈k.jV,VB m b)(sg:Bool)(hK:zdf m (zpg m zs ss r len k e sg)=0)
  (ha:WAg m a') (hto:ZbU m a0' a'=false) (hpt:∀p∈z2B m a',∀o,p.lo<=o->o<=p.hi->ZeD m (zex m zs ss r len k e sg) sg a'.v p.lane o) :
  Zd4 m (zpg m zs ss r len k e sg) a'/\(sg=true->ZdG m (zpg m zs ss r len k e sg) a'):=by
 have hap:=zFn hf.qe hK;have hVK:=zxJ hf.qe hK;have hle:Le (zex m zs ss r len k e sg):=fun b hb=>(zE4 hf r len k e sg hvb b hb).le
 have l0:0<=a0'.len:=by have:=ho.ln';have:=ho.l0;omega
 have e1:=ho.el;have e2:=ho.eh;have e3:=ho.ln';have pt:∀(j:Nat) (hj:j<a'.jf.length) (o:Int),max 0 (a'.s-a'.len-jU m a'.jf j)<=o->o<=min (a'.s-jU m a'.jf j) (z8 m a'.jf[j])->∃c∈(zpg m zs ss r len k e sg).jV,c.lane=a'.jf[j]/\c.lo<=o/\o<=c.hi/\c.vlo<=a'.v/\a'.v<=c.vhi/\(c.hold=0\/o+zet a'.v (zd4 (zaK m a'.jf[j]))<c.hold):=by
  intro j hj o h1 h2;obtain⟨z,hz,z1,z2,z3,z4,z5,z6⟩:=hpt (z4Q m a' j a'.jf[j]) (Zb9.2 ⟨j,hj,rfl,by unfold z4Q;simp only;omega⟩) o h1 h2;obtain⟨q,hq,hI⟩:=zU6 hle z hz;have q1:=hI.lane;have q2:=hI.lo;have q3:=hI.hi;have q4:=hI.vlo;have q5:=hI.vhi;have q6:=hI.hold;unfold z4Q at z1 z6;simp only at z1 z6;obtain⟨c,hc,c1,c2,c3,c4,c5,c6⟩:=Zc5 m e len (x:=a'.jf[j]) (p:=o) (q:=o) (by omega) r (zcz (zex m zs ss r len k e sg)) q hq (by omega) (by omega) (by omega) (fun i hi hr=>by
   have:=ZcU hto (i:=i) (j:=j) (by rw[hr0];exact hi) hj (by simp only[hr0];exact hr) l0 (by omega);unfold Zcy at this;rw[hr0]at this;omega)
  refine⟨c,hc,c1,c2,c3,by omega,by omega,?_⟩;rw[c6];rcases q6 with h |⟨h,g⟩
  ·exact .inl h
  ·rcases z6 with h6 |⟨_,h6⟩
   ·exact absurd h6 h
   ·exact .inr (by omega)
 constructor
 ·intro p hp;obtain⟨j,hj,rfl,hpl⟩:=Zb9.1 hp;unfold z4Q at hpl ⊢;simp only at hpl;have hn:((min (a'.s-jU m a'.jf j) (z8 m a'.jf[j])-max 0 (a'.s-a'.len-jU m a'.jf j)).toNat:Int)=min (a'.s-jU m a'.jf j) (z8 m a'.jf[j])-max 0 (a'.s-a'.len-jU m a'.jf j):=by omega
  obtain⟨b,hb,b1,b2,b3,b4,b5⟩:=Zdc hap a'.jf[j] a'.v (max 0 (a'.s-a'.len-jU m a'.jf j)) (min (a'.s-jU m a'.jf j) (z8 m a'.jf[j])-max 0 (a'.s-a'.len-jU m a'.jf j)).toNat (fun o h1 h2=>by
   obtain⟨c,hc,c1,c2,c3,c4,c5,_⟩:=pt j hj o h1 (by omega);exact⟨c,hc,c1,c2,c3,c4,c5⟩)
  refine⟨b,hb,?_⟩;unfold z4q;simp only[jh,decide_eq_true_eq];exact⟨⟨⟨b1,b2⟩,by omega⟩,b4,b5⟩
 ·intro hsg b hb b1 b2 b3;obtain⟨hj,hjo,hf0⟩:=ZdF hf ha;have hbn:=(hVK b hb).hi;have hlen:=ha.len.1;have hfe:frF m a'=a'.s-jU m a'.jf (z4R m a'):=rfl;obtain⟨c,hc,c1,c2,c3,c4,c5,c6⟩:=pt (z4R m a') hj (frF m a') (by omega) (by rw[hjo,<-b1];omega);have:=Zdq hap hb hc (x:=z42 m a') b1 (by rw[c1,hjo]) (o:=frF m a') (u:=frF m a') (by omega) b2 b3 c2 c3;subst this;rw[hjo]at c6;exact c6
theorem ZeZ{m:zD}{zs:List Zon}{ss:List Sgn}(hf:zmq m zs ss){x:Int}(hx:0<=x/\x<m.je.length)(tick:Int)(ht:0<=tick):R L Cs Zcu [.a (zf m),W x,W tick] []=some (.w (.c (.jc (zu (zeA zs ss x tick)))),[]):=by
 have h1:=zy9 hf x tick;have h2:=zR0 hf.qe x;rw[decide_eq_true hx.1,decide_eq_true hx.2]at h2;have c:¬tick<0:=by omega
 simp only[zf]at h1 h2;rw[zUa Zcx rfl];simp[ZbV,zf,h1,h2,c,zg]
theorem Zds{m:zD}(h:zcp m){rt:List Int}(hr:zdA m rt=0){s len:Int}(v st:Int)(ob gn:Bool)(hs:0<=s/\s<=10000000)(hl:0<=len/\len<=20000):R L Cs z4o [.a (zf m),.a [.jc (zu rt),I s,I v,I len,I st,.bool ob,.bool gn]] []=some (.w (Bo (decide (zmd m 0 rt<s-len))),[]):=by
 have hS:=zEp h hr;have w1:=ku (s-len);simp only[zf]at hS;rw[zUa z4t rfl];by_cases hc:zmd m 0 rt<s-len<;>simp[z3s,zf,hS,w1,hc,zg]
def nxF(v most act:Int):Int:=max 0 (min (v+act) most)
abbrev mvE(m:zD)(a:AgV)(red:List Int)(act:Int)(dn up mo:Int):Env:=[(14,.w (W (nxF a.v mo act))),(3,.w (W act)),(15,.w (.c (.jc (zu red)))),(10,.w (W (frF m a))),(13,.w (W dn)),(8,.w (Pt 2)),(4,.w (Pt 0)),(5,.w (Pt 1)),(11,.w (W mo))]
abbrev mvM(m:zD)(a:AgV):Mem:=[bx 5 (zf m),bx 7 (agC a),bx 7 [.jd,I 0,I 0,I 0,I 0,.bool false,.bool false]]
theorem Zex(m:zD)(a:AgV)(red:List Int)(hred:red.length<=100000)(dn up mo:Int)(hd:1<=dn/\dn<=300)(hmo:0<=mo/\mo<=2000)(hv:0<=a.v/\a.v<=2000)(hf:0<=frF m a/\frF m a<=1000000000):∀(n:Nat) (act:Int),act+dn=n->n<=1000 ->
  ∃Am,-dn<=Am/\Am<=act/\(Am=-dn\/red.any (Zdy (frF m a) a.v (nxF a.v mo Am) dn)=false) /\
  Y L Cs ZbG (some [14,3,15,10,13,8,4,5,11]) 3 (mvE m a red act dn up mo) (mvM m a)=some (.exit 0,(72,.w (Bo false))::mvE m a red Am dn up mo,mvM m a):=by
 intro n;induction n with
 |zero =>
  intro act ha _;refine⟨act,by omega,by omega,.inl (by omega),?_⟩;have w1:=ku (-dn);have c1:¬-dn<act:=by omega
  rw[ZfM ZbG.eq_1];simp[mvE,mvM,w1,c1]
 |succ n ih =>
  intro act ha hn;have w1:=ku (-dn);have c1:-dn<act:=by omega
  have hO:=Zem red hred (frF m a) a.v (nxF a.v mo act) dn hf (by omega) (by unfold nxF;omega) (by omega);by_cases hb:red.any (Zdy (frF m a) a.v (nxF a.v mo act) dn)=true
  ·obtain⟨Am,g1,g2,g3,g4⟩:=ih (act-1) (by omega) (by omega);refine⟨Am,g1,by omega,g3,?_⟩;rw[<-g4];clear ih g4;have w2:=ku (act-1);have w3:=ku (a.v+(act-1));rw[hb]at hO;simp only[nxF]at hO;rw[ZfM ZbG.eq_1];simp[mvE,mvM,agC,w1,w2,w3,c1,hO,nxF]
  ·have hb:red.any (Zdy (frF m a) a.v (nxF a.v mo act) dn)=false:=by simpa using hb
   refine⟨act,by omega,by omega,.inr hb,?_⟩;rw[hb]at hO;rw[ZfM ZbG.eq_1];simp[mvE,mvM,agC,w1,c1,hO]
def Zc8(m:zD)(a:AgV)(v:Int):AgV:=⟨a.jf,a.s+v,v,a.len,a.start,a.uZ,decide (zmd m 0 a.jf<a.s+v-a.len)⟩
theorem ZeB{m:zD}{zs:List Zon}{ss:List Sgn}(hf:zmq m zs ss){a:AgV}(ha:WAg m a)(hv:0<=a.v/\a.v<=zeR (zaK m (z42 m a)))(hg:a.gone=false)(tick:Int)(ht:0<=tick)(act:Int)(AB:zk0 act) :
  ∃b,Mvd m (zeA zs ss (z42 m a) tick) a b/\WAg m b/\(a.uZ=false->b.v=nxF a.v (zeR (zaK m (z42 m a))) (max (-zd4 (zaK m (z42 m a))) (min act (zif (zaK m (z42 m a)))))) /\
  R L Cs Zcn [.a (zf m),.a (agC a),W tick,W act] []=some (.w (.a (agC b)),[]):=by
 have h:=hf.qe;have hl:=z6w h ha;have hon:=ha.on_ok h;obtain⟨hat,hao,hf0⟩:=ZdF hf ha;have hse:=ha.yf h;have has:=ha.s;have hal:=ha.len;obtain⟨j,hj⟩:=jx hon.1;have hjl:j<m.je.length:=by omega
 have ek:zaK m (z42 m a)=m.je[j].kind:=by rw[hj];simp[zaK,hjl]
 have hB:=zhv (h.kind _ (ja hjl));have htp:=BQ (h.kind _ (ja hjl));have hL:=zEV h hon;have hln:=zcX h hon;have hR:=ZeZ hf hon tick ht;have hrl:=zqK zs ss (z42 m a) tick;have hzf:=hf.zd.few;have hst:=ha.CF h hat;have hfe:a.s-jU m a.jf (z4R m a)=frF m a:=rfl;have hfb:frF m a<=1000000000:=by rw[<-hfe];omega
 rw[hfe]at hl;rw[ek]at hv ⊢;have mk:∀v:Int,0<=v->a.v-zd4 m.je[j].kind<=v->v<=a.v+zif m.je[j].kind/\v<=zeR m.je[j].kind->(a.uZ=true->frF m a<=z8 m (z42 m a)->∀l∈zeA zs ss (z42 m a) tick,ZdE (frF m a) a.v v (zd4 m.je[j].kind) l)->Mvd m (zeA zs ss (z42 m a) tick) a (Zc8 m a v)/\WAg m (Zc8 m a v):=by
  intro v h1 h2 h3 h4;have hh:=ha.here;rw[hg]at hh;have hh:=of_decide_eq_false hh.symm;refine⟨⟨rfl,rfl,rfl,rfl,rfl,h1,by rw[ek];exact h2,by rw[ek];exact h3,rfl,by rw[ek];exact h4⟩,⟨ha.jf,ha.len,ha.start,?_,rfl⟩⟩;show 0<=a.s+v/\a.s+v<=zmd m 0 a.jf+a.len+2000;omega
 have hact1:=AB.1;have hact2:=AB.2;generalize zeR m.je[j].kind=mo at *;generalize zif m.je[j].kind=up at *;generalize zd4 m.je[j].kind=dn at *;have wd:=ku (-dn);have wn:=ku (a.v+max (-dn) (min act up));simp only[zf,agC]at hl hL hR hB;generalize zeA zs ss (z42 m a) tick=red at *;by_cases hob:a.uZ=true/\frF m a<=z8 m (z42 m a)
 ·obtain⟨o1,o2⟩:=hob;obtain⟨Am,g1,g2,g3,g4⟩:=Zex m a red (by omega) dn up mo (by omega) (by omega) (by omega) ⟨hf0,hfb⟩ (max (-dn) (min act up)+dn).toNat (max (-dn) (min act up)) (by omega) (by omega);have Ck:∀l∈red,ZdE (frF m a) a.v (nxF a.v mo Am) dn l:=by
   intro l hl h1 h2;rcases g3 with g3|g3
   ·have:nxF a.v mo Am=max 0 (a.v-dn):=by unfold nxF;omega
    rw[this];by_cases c:dn<a.v
    ·rw[zsG (by omega) c]at h2;rw[show max 0 (a.v-dn)=a.v-dn by omega];omega
    ·rw[show max 0 (a.v-dn)=0 by omega,zki (by omega) (by omega)];omega
   ·have:=kK.1 g3 l hl;unfold Zdy at this;simp only[jh,decide_eq_true_eq,not_and]at this;have:=this ⟨h1,h2⟩;omega
  obtain⟨q1,q2⟩:=mk (nxF a.v mo Am) (by unfold nxF;omega) (by unfold nxF;omega) (by unfold nxF;omega) (fun _ _=>Ck);refine⟨Zc8 m a (nxF a.v mo Am),q1,q2,fun h=>absurd h (by simp[o1]),?_⟩;have hnb:0<=nxF a.v mo Am/\nxF a.v mo Am<=2000:=by unfold nxF;omega
  have ws:=ku (a.s+nxF a.v mo Am);have hG:=Zds h ha.jf (s:=a.s+nxF a.v mo Am) (len:=a.len) (nxF a.v mo Am) a.start a.uZ a.gone (by omega) (by omega);simp only[mvE,mvM,zf,agC]at g4 hG;rw[zUa Zb3 rfl];unfold Zc8 agC;clear q1 q2 Ck g1 g2 g3 mk;obtain⟨A,hA⟩:∃A,max (-dn) (min act up)=A:=⟨_,rfl⟩;rw[hA]at wn g4;have h0:max 0 (min (a.v+A) mo)=nxF a.v mo A:=rfl;generalize nxF a.v mo Am=nx at *;generalize nxF a.v mo A=n0 at *;generalize decide (zmd m 0 a.jf<a.s+nx-a.len)=gd at *;generalize frF m a=fr at *;generalize z42 m a=on at *;subst hj;rw[o1]at hl hG g4;simp (maxSteps:=1000000) [ZbJ,h0,hA,zf,zo,hjl,hl,hL,hR,hB,o1,o2,g4,hG,wd,wn,ws,zg,zH,zX]
 ·obtain⟨q1,q2⟩:=mk (nxF a.v mo (max (-dn) (min act up))) (by unfold nxF;omega) (by unfold nxF;omega) (by unfold nxF;omega) (fun h1 h2=>absurd ⟨h1,h2⟩ hob);refine⟨Zc8 m a (nxF a.v mo (max (-dn) (min act up))),q1,q2,fun _=>rfl,?_⟩;have hnb:0<=nxF a.v mo (max (-dn) (min act up))/\nxF a.v mo (max (-dn) (min act up))<=2000:=by unfold nxF;omega
  have ws:=ku (a.s+nxF a.v mo (max (-dn) (min act up)));have hG:=Zds h ha.jf (s:=a.s+nxF a.v mo (max (-dn) (min act up))) (len:=a.len) (nxF a.v mo (max (-dn) (min act up))) a.start a.uZ a.gone (by omega) (by omega);simp only[zf,agC]at hG;rw[zUa Zb3 rfl];unfold Zc8 agC;clear q1 q2 mk;obtain⟨A,hA⟩:∃A,max (-dn) (min act up)=A:=⟨_,rfl⟩;rw[hA]at wn hG ws ⊢;have h0:max 0 (min (a.v+A) mo)=nxF a.v mo A:=rfl;generalize nxF a.v mo A=nx at *;generalize decide (zmd m 0 a.jf<a.s+nx-a.len)=gd at *;generalize frF m a=fr at *;generalize z42 m a=on at *;subst hj;cases o1:a.uZ with
  |false =>
   rw[o1]at hl hG;simp (maxSteps:=1000000) [ZbJ,h0,hA,zf,zo,hjl,hl,hL,hR,hB,o1,hG,wd,wn,ws,zg,zH,zX]
  |true =>
   rw[o1]at hl hG;have o2:¬fr<=z8 m (j:Int):=fun h=>hob ⟨o1,h⟩
   simp (maxSteps:=1000000) [ZbJ,h0,hA,zf,zo,hjl,hl,hL,hR,hB,o1,o2,hG,wd,wn,ws,zg,zH,zX]
theorem ZcX{m:zD}{s:SnV}(h:z31 m s=0):∀a∈s.agents,0<=a.v/\a.v<=zeR (zaK m (z42 m a)):=by
 intro a ha;unfold z31 at h;split at h
 ·exact absurd h (by decide)
 ·rename_i hn;have:z3z m a=0:=by
   apply kO;intro hc;exact hn (jQ.2 ⟨a,ha,decide_eq_true hc⟩)
  unfold z3z at this;split at this
  ·assumption
  ·exact absurd this (by decide)
theorem ZcK{t:Int}{a:AgV}(h:thA t a=true):a.gone=false/\a.start<=t:=by
 unfold thA at h;simp at h;exact⟨h.2,h.1⟩
structure MvS(m:zD)(zs:List Zon)(ss:List Sgn)(tick act:Int)(a b:AgV):Prop where
 wag:WAg m b
 here:thA tick a=true->Mvd m (zeA zs ss (z42 m a) tick) a b/\(a.uZ=false->b.v=nxF a.v (zeR (zaK m (z42 m a))) (max (-zd4 (zaK m (z42 m a))) (min act (zif (zaK m (z42 m a))))))
 Da:thA tick a=false->b=a
theorem ZeC{m:zD}{zs:List Zon}{ss:List Sgn}(hf:zmq m zs ss){s:SnV}(hs:KSn m s)(hc:z31 m s=0)(i:Nat)(hi:i<s.agents.length)(act:Int)(AB:zk0 act) :
  ∃b,MvS m zs ss s.tick act s.agents[i] b/\R L Cs Zcp [.a (zf m),.a (snC s),W i,W act] []=some (.w (.a (agC b)),[]):=by
 have h:=hf.qe;have ha:=hs.ags _ (ja hi);have hC:=z5f h s hs;rw[hc]at hC;have hT:=z56 s i hi;obtain⟨_,hne,hl8⟩:=ha.on h;have a1:=z2C hne;have a2:s.agents[i].jf.length*8<=140737488355328:=by omega
 have hci:(i:Int)<s.agents.length:=by omega
 have n0:¬(i:Int)<0:=by omega
 have hge:¬s.agents.length<=i:=by omega
 simp only[zf,snC]at hC hT;have hv:=ZcX hc _ (ja hi);cases ht:thA s.tick s.agents[i]with
 |false =>
  refine⟨s.agents[i],⟨ha,fun h=>by rw[ht]at h;exact absurd h (by decide),fun _=>rfl⟩,?_⟩;rw[ht]at hT;rw[zUa Zb4 rfl];generalize hag:s.agents[i]=a at *;simp[ZbR,zf,snC,agC,hi,hci,hge,hag,n0,hC,hT,a1,a2,zg,zH,zX]
 |true =>
  obtain⟨b,hm,hw,hob,hR⟩:=ZeB hf ha hv (ZcK ht).1 s.tick hs.tick.1 act AB;refine⟨b,⟨hw,fun _=>⟨hm,hob⟩,fun h=>by rw[ht]at h;exact absurd h (by decide)⟩,?_⟩;rw[ht]at hT;rw[zUa Zb4 rfl];generalize hag:s.agents[i]=a at *;simp only[zf,agC]at hR;simp[ZbR,zf,snC,agC,hi,hci,hge,hag,n0,hC,hT,hR,a1,a2,zg,zH,zX]
@[simp] theorem ZeE(l:List z2T):(∀x,x∈z2H l->x.length=4)<->True:=by simp[z2H]
def Zbs(p:Nat)(ins:List z2T):Cl:=if ins=[] then .jd else .slice p ins.length 4 0 ins.length none
def cpT(ins:List z2T):Mem:=if ins=[] then [] else [some { box:=false,esz:=4,rows:=z2H ins,gen:=ins.length,fz:=false,ver:=ins.length }]
theorem ZeR(t:Int)(ins:List z2T)(hil:ins.length<=1000)(a:AgV)(ha:a.jf≠[]/\a.jf.length<=8):R L Cs z2u [.a (snC ⟨t,[a],ins⟩)] []=some (.w (.a [I t,.slice 0 1 7 0 1 none,Zbs 1 ins]),some { box:=false,esz:=7,rows:=Zbn [a],gen:=1,fz:=false,ver:=1 }::cpT ins):=by
 have a1:=z2C ha.1;have a2:a.jf.length*8<=140737488355328:=by omega
 have w1:IntKind.i64.wrap 1=1:=rfl;have i2:ins.length*32<=140737488355328:=by omega
 have tk:=z62 ins;rw[zUa z2D rfl];by_cases hi:ins=[]
 ·subst hi;simp[z2v,snC,agC,zg,Zbn,Zbs,cpT,show z2H []=[] from rfl];rw[ZfM z7C.eq_1];simp[zX,zg,agC,a1,a2,w1,Zbs,cpT,show z2H []=[] from rfl,zH];rw[ZfM z7C.eq_1];simp[zX,zg,agC,a1,a2,w1,Zbs,cpT,show z2H []=[] from rfl,zH]
 ·have i1:z2H ins≠[]:=by simpa [z2H]using hi
  simp[z2v,snC,agC,zg,Zbn,Zbs,cpT,hi,i1,i2,tk];rw[ZfM z7C.eq_1];simp[zX,zg,agC,a1,a2,w1,Zbs,cpT,hi,i1,i2,tk,zH];rw[ZfM z7C.eq_1];simp[zX,zg,agC,a1,a2,w1,Zbs,cpT,hi,i1,i2,tk,zH]
theorem ZeQ(t:Int)(ins:List z2T)(hil:ins.length<=1000)(a b:AgV)(ha:a.jf≠[]/\a.jf.length<=8)(hb:b.jf≠[]/\b.jf.length<=8):R L Cs z2u [.a (snC ⟨t,[a,b],ins⟩)] []=some (.w (.a [I t,.slice 0 2 7 0 2 none,Zbs 1 ins]),some { box:=false,esz:=7,rows:=Zbn [a,b],gen:=2,fz:=false,ver:=2 }::cpT ins):=by
 have a1:=z2C ha.1;have a2:a.jf.length*8<=140737488355328:=by omega
 have b1:=z2C hb.1;have b2:b.jf.length*8<=140737488355328:=by omega
 have w1:IntKind.i64.wrap 1=1:=rfl;have w2:IntKind.i64.wrap 2=2:=rfl;have i2:ins.length*32<=140737488355328:=by omega
 have tk:=z62 ins;rw[zUa z2D rfl];by_cases hi:ins=[]
 ·subst hi;simp[z2v,snC,agC,zg,Zbn,Zbs,cpT,show z2H []=[] from rfl];rw[ZfM z7C.eq_1];simp[zX,zg,agC,a1,a2,b1,b2,w1,w2,Zbs,cpT,show z2H []=[] from rfl,zH];rw[ZfM z7C.eq_1];simp[zX,zg,agC,a1,a2,b1,b2,w1,w2,Zbs,cpT,show z2H []=[] from rfl,zH];rw[ZfM z7C.eq_1];simp[zX,zg,agC,a1,a2,b1,b2,w1,w2,Zbs,cpT,show z2H []=[] from rfl,zH]
 ·have i1:z2H ins≠[]:=by simpa [z2H]using hi
  simp[z2v,snC,agC,zg,Zbn,Zbs,cpT,hi,i1,i2,tk];rw[ZfM z7C.eq_1];simp[zX,zg,agC,a1,a2,b1,b2,w1,w2,Zbs,cpT,hi,i1,i2,tk,zH];rw[ZfM z7C.eq_1];simp[zX,zg,agC,a1,a2,b1,b2,w1,w2,Zbs,cpT,hi,i1,i2,tk,zH];rw[ZfM z7C.eq_1];simp[zX,zg,agC,a1,a2,b1,b2,w1,w2,Zbs,cpT,hi,i1,i2,tk,zH]
theorem ZeP(t:Int)(ins:List z2T)(hil:ins.length<=1000)(a b c:AgV)(ha:a.jf≠[]/\a.jf.length<=8)(hb:b.jf≠[]/\b.jf.length<=8)(hc:c.jf≠[]/\c.jf.length<=8):R L Cs z2u [.a (snC ⟨t,[a,b,c],ins⟩)] []=some (.w (.a [I t,.slice 0 3 7 0 3 none,Zbs 1 ins]),some { box:=false,esz:=7,rows:=Zbn [a,b,c],gen:=3,fz:=false,ver:=3 }::cpT ins):=by
 have a1:=z2C ha.1;have a2:a.jf.length*8<=140737488355328:=by omega
 have b1:=z2C hb.1;have b2:b.jf.length*8<=140737488355328:=by omega
 have c1:=z2C hc.1;have c2:c.jf.length*8<=140737488355328:=by omega
 have w1:IntKind.i64.wrap 1=1:=rfl;have w2:IntKind.i64.wrap 2=2:=rfl;have w3:IntKind.i64.wrap 3=3:=rfl;have i2:ins.length*32<=140737488355328:=by omega
 have tk:=z62 ins;rw[zUa z2D rfl];by_cases hi:ins=[]
 ·subst hi;simp[z2v,snC,agC,zg,Zbn,Zbs,cpT,show z2H []=[] from rfl];rw[ZfM z7C.eq_1];simp[zX,zg,agC,a1,a2,b1,b2,c1,c2,w1,w2,w3,Zbs,cpT,show z2H []=[] from rfl,zH];rw[ZfM z7C.eq_1];simp[zX,zg,agC,a1,a2,b1,b2,c1,c2,w1,w2,w3,Zbs,cpT,show z2H []=[] from rfl,zH];rw[ZfM z7C.eq_1];simp[zX,zg,agC,a1,a2,b1,b2,c1,c2,w1,w2,w3,Zbs,cpT,show z2H []=[] from rfl,zH];rw[ZfM z7C.eq_1];simp[zX,zg,agC,a1,a2,b1,b2,c1,c2,w1,w2,w3,Zbs,cpT,show z2H []=[] from rfl,zH]
 ·have i1:z2H ins≠[]:=by simpa [z2H]using hi
  simp[z2v,snC,agC,zg,Zbn,Zbs,cpT,hi,i1,i2,tk];rw[ZfM z7C.eq_1];simp[zX,zg,agC,a1,a2,b1,b2,c1,c2,w1,w2,w3,Zbs,cpT,hi,i1,i2,tk,zH];rw[ZfM z7C.eq_1];simp[zX,zg,agC,a1,a2,b1,b2,c1,c2,w1,w2,w3,Zbs,cpT,hi,i1,i2,tk,zH];rw[ZfM z7C.eq_1];simp[zX,zg,agC,a1,a2,b1,b2,c1,c2,w1,w2,w3,Zbs,cpT,hi,i1,i2,tk,zH];rw[ZfM z7C.eq_1];simp[zX,zg,agC,a1,a2,b1,b2,c1,c2,w1,w2,w3,Zbs,cpT,hi,i1,i2,tk,zH]
theorem ZeO(t:Int)(ins:List z2T)(hil:ins.length<=1000)(a b c d:AgV)(ha:a.jf≠[]/\a.jf.length<=8)(hb:b.jf≠[]/\b.jf.length<=8)(hc:c.jf≠[]/\c.jf.length<=8)(hd:d.jf≠[]/\d.jf.length<=8):R L Cs z2u [.a (snC ⟨t,[a,b,c,d],ins⟩)] []=some (.w (.a [I t,.slice 0 4 7 0 4 none,Zbs 1 ins]),some { box:=false,esz:=7,rows:=Zbn [a,b,c,d],gen:=4,fz:=false,ver:=4 }::cpT ins):=by
 have a1:=z2C ha.1;have a2:a.jf.length*8<=140737488355328:=by omega
 have b1:=z2C hb.1;have b2:b.jf.length*8<=140737488355328:=by omega
 have c1:=z2C hc.1;have c2:c.jf.length*8<=140737488355328:=by omega
 have d1:=z2C hd.1;have d2:d.jf.length*8<=140737488355328:=by omega
 have w1:IntKind.i64.wrap 1=1:=rfl;have w2:IntKind.i64.wrap 2=2:=rfl;have w3:IntKind.i64.wrap 3=3:=rfl;have w4:IntKind.i64.wrap 4=4:=rfl;have i2:ins.length*32<=140737488355328:=by omega
 have tk:=z62 ins;rw[zUa z2D rfl];by_cases hi:ins=[]
 ·subst hi;simp[z2v,snC,agC,zg,Zbn,Zbs,cpT,show z2H []=[] from rfl];rw[ZfM z7C.eq_1];simp[zX,zg,agC,a1,a2,b1,b2,c1,c2,d1,d2,w1,w2,w3,w4,Zbs,cpT,show z2H []=[] from rfl,zH];rw[ZfM z7C.eq_1];simp[zX,zg,agC,a1,a2,b1,b2,c1,c2,d1,d2,w1,w2,w3,w4,Zbs,cpT,show z2H []=[] from rfl,zH];rw[ZfM z7C.eq_1];simp[zX,zg,agC,a1,a2,b1,b2,c1,c2,d1,d2,w1,w2,w3,w4,Zbs,cpT,show z2H []=[] from rfl,zH];rw[ZfM z7C.eq_1];simp[zX,zg,agC,a1,a2,b1,b2,c1,c2,d1,d2,w1,w2,w3,w4,Zbs,cpT,show z2H []=[] from rfl,zH];rw[ZfM z7C.eq_1];simp[zX,zg,agC,a1,a2,b1,b2,c1,c2,d1,d2,w1,w2,w3,w4,Zbs,cpT,show z2H []=[] from rfl,zH]
 ·have i1:z2H ins≠[]:=by simpa [z2H]using hi
  simp[z2v,snC,agC,zg,Zbn,Zbs,cpT,hi,i1,i2,tk];rw[ZfM z7C.eq_1];simp[zX,zg,agC,a1,a2,b1,b2,c1,c2,d1,d2,w1,w2,w3,w4,Zbs,cpT,hi,i1,i2,tk,zH];rw[ZfM z7C.eq_1];simp[zX,zg,agC,a1,a2,b1,b2,c1,c2,d1,d2,w1,w2,w3,w4,Zbs,cpT,hi,i1,i2,tk,zH];rw[ZfM z7C.eq_1];simp[zX,zg,agC,a1,a2,b1,b2,c1,c2,d1,d2,w1,w2,w3,w4,Zbs,cpT,hi,i1,i2,tk,zH];rw[ZfM z7C.eq_1];simp[zX,zg,agC,a1,a2,b1,b2,c1,c2,d1,d2,w1,w2,w3,w4,Zbs,cpT,hi,i1,i2,tk,zH];rw[ZfM z7C.eq_1];simp[zX,zg,agC,a1,a2,b1,b2,c1,c2,d1,d2,w1,w2,w3,w4,Zbs,cpT,hi,i1,i2,tk,zH]
theorem ZeN(t:Int)(ins:List z2T)(hil:ins.length<=1000)(a b c d e:AgV)(ha:a.jf≠[]/\a.jf.length<=8)(hb:b.jf≠[]/\b.jf.length<=8)(hc:c.jf≠[]/\c.jf.length<=8)(hd:d.jf≠[]/\d.jf.length<=8)(he:e.jf≠[]/\e.jf.length<=8):R L Cs z2u [.a (snC ⟨t,[a,b,c,d,e],ins⟩)] []=some (.w (.a [I t,.slice 0 5 7 0 5 none,Zbs 1 ins]),some { box:=false,esz:=7,rows:=Zbn [a,b,c,d,e],gen:=5,fz:=false,ver:=5 }::cpT ins):=by
 have a1:=z2C ha.1;have a2:a.jf.length*8<=140737488355328:=by omega
 have b1:=z2C hb.1;have b2:b.jf.length*8<=140737488355328:=by omega
 have c1:=z2C hc.1;have c2:c.jf.length*8<=140737488355328:=by omega
 have d1:=z2C hd.1;have d2:d.jf.length*8<=140737488355328:=by omega
 have e1:=z2C he.1;have e2:e.jf.length*8<=140737488355328:=by omega
 have w1:IntKind.i64.wrap 1=1:=rfl;have w2:IntKind.i64.wrap 2=2:=rfl;have w3:IntKind.i64.wrap 3=3:=rfl;have w4:IntKind.i64.wrap 4=4:=rfl;have w5:IntKind.i64.wrap 5=5:=rfl;have i2:ins.length*32<=140737488355328:=by omega
 have tk:=z62 ins;rw[zUa z2D rfl];by_cases hi:ins=[]
 ·subst hi;simp[z2v,snC,agC,zg,Zbn,Zbs,cpT,show z2H []=[] from rfl];rw[ZfM z7C.eq_1];simp[zX,zg,agC,a1,a2,b1,b2,c1,c2,d1,d2,e1,e2,w1,w2,w3,w4,w5,Zbs,cpT,show z2H []=[] from rfl,zH];rw[ZfM z7C.eq_1];simp[zX,zg,agC,a1,a2,b1,b2,c1,c2,d1,d2,e1,e2,w1,w2,w3,w4,w5,Zbs,cpT,show z2H []=[] from rfl,zH];rw[ZfM z7C.eq_1];simp[zX,zg,agC,a1,a2,b1,b2,c1,c2,d1,d2,e1,e2,w1,w2,w3,w4,w5,Zbs,cpT,show z2H []=[] from rfl,zH];rw[ZfM z7C.eq_1];simp[zX,zg,agC,a1,a2,b1,b2,c1,c2,d1,d2,e1,e2,w1,w2,w3,w4,w5,Zbs,cpT,show z2H []=[] from rfl,zH];rw[ZfM z7C.eq_1];simp[zX,zg,agC,a1,a2,b1,b2,c1,c2,d1,d2,e1,e2,w1,w2,w3,w4,w5,Zbs,cpT,show z2H []=[] from rfl,zH];rw[ZfM z7C.eq_1];simp[zX,zg,agC,a1,a2,b1,b2,c1,c2,d1,d2,e1,e2,w1,w2,w3,w4,w5,Zbs,cpT,show z2H []=[] from rfl,zH]
 ·have i1:z2H ins≠[]:=by simpa [z2H]using hi
  simp[z2v,snC,agC,zg,Zbn,Zbs,cpT,hi,i1,i2,tk];rw[ZfM z7C.eq_1];simp[zX,zg,agC,a1,a2,b1,b2,c1,c2,d1,d2,e1,e2,w1,w2,w3,w4,w5,Zbs,cpT,hi,i1,i2,tk,zH];rw[ZfM z7C.eq_1];simp[zX,zg,agC,a1,a2,b1,b2,c1,c2,d1,d2,e1,e2,w1,w2,w3,w4,w5,Zbs,cpT,hi,i1,i2,tk,zH];rw[ZfM z7C.eq_1];simp[zX,zg,agC,a1,a2,b1,b2,c1,c2,d1,d2,e1,e2,w1,w2,w3,w4,w5,Zbs,cpT,hi,i1,i2,tk,zH];rw[ZfM z7C.eq_1];simp[zX,zg,agC,a1,a2,b1,b2,c1,c2,d1,d2,e1,e2,w1,w2,w3,w4,w5,Zbs,cpT,hi,i1,i2,tk,zH];rw[ZfM z7C.eq_1];simp[zX,zg,agC,a1,a2,b1,b2,c1,c2,d1,d2,e1,e2,w1,w2,w3,w4,w5,Zbs,cpT,hi,i1,i2,tk,zH];rw[ZfM z7C.eq_1];simp[zX,zg,agC,a1,a2,b1,b2,c1,c2,d1,d2,e1,e2,w1,w2,w3,w4,w5,Zbs,cpT,hi,i1,i2,tk,zH]
theorem ZeM(t:Int)(ins:List z2T)(hil:ins.length<=1000)(a b c d e f:AgV)(ha:a.jf≠[]/\a.jf.length<=8)(hb:b.jf≠[]/\b.jf.length<=8)(hc:c.jf≠[]/\c.jf.length<=8)(hd:d.jf≠[]/\d.jf.length<=8)(he:e.jf≠[]/\e.jf.length<=8)(hf:f.jf≠[]/\f.jf.length<=8):R L Cs z2u [.a (snC ⟨t,[a,b,c,d,e,f],ins⟩)] []=some (.w (.a [I t,.slice 0 6 7 0 6 none,Zbs 1 ins]),some { box:=false,esz:=7,rows:=Zbn [a,b,c,d,e,f],gen:=6,fz:=false,ver:=6 }::cpT ins):=by
 have a1:=z2C ha.1;have a2:a.jf.length*8<=140737488355328:=by omega
 have b1:=z2C hb.1;have b2:b.jf.length*8<=140737488355328:=by omega
 have c1:=z2C hc.1;have c2:c.jf.length*8<=140737488355328:=by omega
 have d1:=z2C hd.1;have d2:d.jf.length*8<=140737488355328:=by omega
 have e1:=z2C he.1;have e2:e.jf.length*8<=140737488355328:=by omega
 have f1:=z2C hf.1;have f2:f.jf.length*8<=140737488355328:=by omega
 have w1:IntKind.i64.wrap 1=1:=rfl;have w2:IntKind.i64.wrap 2=2:=rfl;have w3:IntKind.i64.wrap 3=3:=rfl;have w4:IntKind.i64.wrap 4=4:=rfl;have w5:IntKind.i64.wrap 5=5:=rfl;have w6:IntKind.i64.wrap 6=6:=rfl;have i2:ins.length*32<=140737488355328:=by omega
 have tk:=z62 ins;rw[zUa z2D rfl];by_cases hi:ins=[]
 ·subst hi;simp[z2v,snC,agC,zg,Zbn,Zbs,cpT,show z2H []=[] from rfl];rw[ZfM z7C.eq_1];simp[zX,zg,agC,a1,a2,b1,b2,c1,c2,d1,d2,e1,e2,f1,f2,w1,w2,w3,w4,w5,w6,Zbs,cpT,show z2H []=[] from rfl,zH];rw[ZfM z7C.eq_1];simp[zX,zg,agC,a1,a2,b1,b2,c1,c2,d1,d2,e1,e2,f1,f2,w1,w2,w3,w4,w5,w6,Zbs,cpT,show z2H []=[] from rfl,zH];rw[ZfM z7C.eq_1];simp[zX,zg,agC,a1,a2,b1,b2,c1,c2,d1,d2,e1,e2,f1,f2,w1,w2,w3,w4,w5,w6,Zbs,cpT,show z2H []=[] from rfl,zH];rw[ZfM z7C.eq_1];simp[zX,zg,agC,a1,a2,b1,b2,c1,c2,d1,d2,e1,e2,f1,f2,w1,w2,w3,w4,w5,w6,Zbs,cpT,show z2H []=[] from rfl,zH];rw[ZfM z7C.eq_1];simp[zX,zg,agC,a1,a2,b1,b2,c1,c2,d1,d2,e1,e2,f1,f2,w1,w2,w3,w4,w5,w6,Zbs,cpT,show z2H []=[] from rfl,zH];rw[ZfM z7C.eq_1];simp[zX,zg,agC,a1,a2,b1,b2,c1,c2,d1,d2,e1,e2,f1,f2,w1,w2,w3,w4,w5,w6,Zbs,cpT,show z2H []=[] from rfl,zH];rw[ZfM z7C.eq_1];simp[zX,zg,agC,a1,a2,b1,b2,c1,c2,d1,d2,e1,e2,f1,f2,w1,w2,w3,w4,w5,w6,Zbs,cpT,show z2H []=[] from rfl,zH]
 ·have i1:z2H ins≠[]:=by simpa [z2H]using hi
  simp[z2v,snC,agC,zg,Zbn,Zbs,cpT,hi,i1,i2,tk];rw[ZfM z7C.eq_1];simp[zX,zg,agC,a1,a2,b1,b2,c1,c2,d1,d2,e1,e2,f1,f2,w1,w2,w3,w4,w5,w6,Zbs,cpT,hi,i1,i2,tk,zH];rw[ZfM z7C.eq_1];simp[zX,zg,agC,a1,a2,b1,b2,c1,c2,d1,d2,e1,e2,f1,f2,w1,w2,w3,w4,w5,w6,Zbs,cpT,hi,i1,i2,tk,zH];rw[ZfM z7C.eq_1];simp[zX,zg,agC,a1,a2,b1,b2,c1,c2,d1,d2,e1,e2,f1,f2,w1,w2,w3,w4,w5,w6,Zbs,cpT,hi,i1,i2,tk,zH];rw[ZfM z7C.eq_1];simp[zX,zg,agC,a1,a2,b1,b2,c1,c2,d1,d2,e1,e2,f1,f2,w1,w2,w3,w4,w5,w6,Zbs,cpT,hi,i1,i2,tk,zH];rw[ZfM z7C.eq_1];simp[zX,zg,agC,a1,a2,b1,b2,c1,c2,d1,d2,e1,e2,f1,f2,w1,w2,w3,w4,w5,w6,Zbs,cpT,hi,i1,i2,tk,zH];rw[ZfM z7C.eq_1];simp[zX,zg,agC,a1,a2,b1,b2,c1,c2,d1,d2,e1,e2,f1,f2,w1,w2,w3,w4,w5,w6,Zbs,cpT,hi,i1,i2,tk,zH];rw[ZfM z7C.eq_1];simp[zX,zg,agC,a1,a2,b1,b2,c1,c2,d1,d2,e1,e2,f1,f2,w1,w2,w3,w4,w5,w6,Zbs,cpT,hi,i1,i2,tk,zH]
theorem ZeL(t:Int)(ins:List z2T)(hil:ins.length<=1000)(a b c d e f g:AgV)(ha:a.jf≠[]/\a.jf.length<=8)(hb:b.jf≠[]/\b.jf.length<=8)(hc:c.jf≠[]/\c.jf.length<=8)(hd:d.jf≠[]/\d.jf.length<=8)(he:e.jf≠[]/\e.jf.length<=8)(hf:f.jf≠[]/\f.jf.length<=8)(hg:g.jf≠[]/\g.jf.length<=8):R L Cs z2u [.a (snC ⟨t,[a,b,c,d,e,f,g],ins⟩)] []=some (.w (.a [I t,.slice 0 7 7 0 7 none,Zbs 1 ins]),some { box:=false,esz:=7,rows:=Zbn [a,b,c,d,e,f,g],gen:=7,fz:=false,ver:=7 }::cpT ins):=by
 have a1:=z2C ha.1;have a2:a.jf.length*8<=140737488355328:=by omega
 have b1:=z2C hb.1;have b2:b.jf.length*8<=140737488355328:=by omega
 have c1:=z2C hc.1;have c2:c.jf.length*8<=140737488355328:=by omega
 have d1:=z2C hd.1;have d2:d.jf.length*8<=140737488355328:=by omega
 have e1:=z2C he.1;have e2:e.jf.length*8<=140737488355328:=by omega
 have f1:=z2C hf.1;have f2:f.jf.length*8<=140737488355328:=by omega
 have g1:=z2C hg.1;have g2:g.jf.length*8<=140737488355328:=by omega
 have w1:IntKind.i64.wrap 1=1:=rfl;have w2:IntKind.i64.wrap 2=2:=rfl;have w3:IntKind.i64.wrap 3=3:=rfl;have w4:IntKind.i64.wrap 4=4:=rfl;have w5:IntKind.i64.wrap 5=5:=rfl;have w6:IntKind.i64.wrap 6=6:=rfl;have w7:IntKind.i64.wrap 7=7:=rfl;have i2:ins.length*32<=140737488355328:=by omega
 have tk:=z62 ins;rw[zUa z2D rfl];by_cases hi:ins=[]
 ·subst hi;simp[z2v,snC,agC,zg,Zbn,Zbs,cpT,show z2H []=[] from rfl];rw[ZfM z7C.eq_1];simp[zX,zg,agC,a1,a2,b1,b2,c1,c2,d1,d2,e1,e2,f1,f2,g1,g2,w1,w2,w3,w4,w5,w6,w7,Zbs,cpT,show z2H []=[] from rfl,zH];rw[ZfM z7C.eq_1];simp[zX,zg,agC,a1,a2,b1,b2,c1,c2,d1,d2,e1,e2,f1,f2,g1,g2,w1,w2,w3,w4,w5,w6,w7,Zbs,cpT,show z2H []=[] from rfl,zH];rw[ZfM z7C.eq_1];simp[zX,zg,agC,a1,a2,b1,b2,c1,c2,d1,d2,e1,e2,f1,f2,g1,g2,w1,w2,w3,w4,w5,w6,w7,Zbs,cpT,show z2H []=[] from rfl,zH];rw[ZfM z7C.eq_1];simp[zX,zg,agC,a1,a2,b1,b2,c1,c2,d1,d2,e1,e2,f1,f2,g1,g2,w1,w2,w3,w4,w5,w6,w7,Zbs,cpT,show z2H []=[] from rfl,zH];rw[ZfM z7C.eq_1];simp[zX,zg,agC,a1,a2,b1,b2,c1,c2,d1,d2,e1,e2,f1,f2,g1,g2,w1,w2,w3,w4,w5,w6,w7,Zbs,cpT,show z2H []=[] from rfl,zH];rw[ZfM z7C.eq_1];simp[zX,zg,agC,a1,a2,b1,b2,c1,c2,d1,d2,e1,e2,f1,f2,g1,g2,w1,w2,w3,w4,w5,w6,w7,Zbs,cpT,show z2H []=[] from rfl,zH];rw[ZfM z7C.eq_1];simp[zX,zg,agC,a1,a2,b1,b2,c1,c2,d1,d2,e1,e2,f1,f2,g1,g2,w1,w2,w3,w4,w5,w6,w7,Zbs,cpT,show z2H []=[] from rfl,zH];rw[ZfM z7C.eq_1];simp[zX,zg,agC,a1,a2,b1,b2,c1,c2,d1,d2,e1,e2,f1,f2,g1,g2,w1,w2,w3,w4,w5,w6,w7,Zbs,cpT,show z2H []=[] from rfl,zH]
 ·have i1:z2H ins≠[]:=by simpa [z2H]using hi
  simp[z2v,snC,agC,zg,Zbn,Zbs,cpT,hi,i1,i2,tk];rw[ZfM z7C.eq_1];simp[zX,zg,agC,a1,a2,b1,b2,c1,c2,d1,d2,e1,e2,f1,f2,g1,g2,w1,w2,w3,w4,w5,w6,w7,Zbs,cpT,hi,i1,i2,tk,zH];rw[ZfM z7C.eq_1];simp[zX,zg,agC,a1,a2,b1,b2,c1,c2,d1,d2,e1,e2,f1,f2,g1,g2,w1,w2,w3,w4,w5,w6,w7,Zbs,cpT,hi,i1,i2,tk,zH];rw[ZfM z7C.eq_1];simp[zX,zg,agC,a1,a2,b1,b2,c1,c2,d1,d2,e1,e2,f1,f2,g1,g2,w1,w2,w3,w4,w5,w6,w7,Zbs,cpT,hi,i1,i2,tk,zH];rw[ZfM z7C.eq_1];simp[zX,zg,agC,a1,a2,b1,b2,c1,c2,d1,d2,e1,e2,f1,f2,g1,g2,w1,w2,w3,w4,w5,w6,w7,Zbs,cpT,hi,i1,i2,tk,zH];rw[ZfM z7C.eq_1];simp[zX,zg,agC,a1,a2,b1,b2,c1,c2,d1,d2,e1,e2,f1,f2,g1,g2,w1,w2,w3,w4,w5,w6,w7,Zbs,cpT,hi,i1,i2,tk,zH];rw[ZfM z7C.eq_1];simp[zX,zg,agC,a1,a2,b1,b2,c1,c2,d1,d2,e1,e2,f1,f2,g1,g2,w1,w2,w3,w4,w5,w6,w7,Zbs,cpT,hi,i1,i2,tk,zH];rw[ZfM z7C.eq_1];simp[zX,zg,agC,a1,a2,b1,b2,c1,c2,d1,d2,e1,e2,f1,f2,g1,g2,w1,w2,w3,w4,w5,w6,w7,Zbs,cpT,hi,i1,i2,tk,zH];rw[ZfM z7C.eq_1];simp[zX,zg,agC,a1,a2,b1,b2,c1,c2,d1,d2,e1,e2,f1,f2,g1,g2,w1,w2,w3,w4,w5,w6,w7,Zbs,cpT,hi,i1,i2,tk,zH]
theorem Zeo(t:Int)(l:List AgV)(h0:0<l.length)(hl:l.length<=7)(ins:List z2T)(hil:ins.length<=1000)(h:∀a∈l,a.jf≠[]/\a.jf.length<=8):R L Cs z2u [.a (snC ⟨t,l,ins⟩)] []=some (.w (.a [I t,.slice 0 l.length 7 0 l.length none,Zbs 1 ins]),some { box:=false,esz:=7,rows:=Zbn l,gen:=l.length,fz:=false,ver:=l.length }::cpT ins):=by
 match l,h0,hl,h with
 |[a],_,_,h=>exact ZeR t ins hil a (h a (by simp))
 |[a,b],_,_,h=>exact ZeQ t ins hil a b (h a (by simp)) (h b (by simp))
 |[a,b,c],_,_,h=>exact ZeP t ins hil a b c (h a (by simp)) (h b (by simp)) (h c (by simp))
 |[a,b,c,d],_,_,h=>exact ZeO t ins hil a b c d (h a (by simp)) (h b (by simp)) (h c (by simp)) (h d (by simp))
 |[a,b,c,d,e],_,_,h=>exact ZeN t ins hil a b c d e (h a (by simp)) (h b (by simp)) (h c (by simp)) (h d (by simp)) (h e (by simp))
 |[a,b,c,d,e,f],_,_,h=>exact ZeM t ins hil a b c d e f (h a (by simp)) (h b (by simp)) (h c (by simp)) (h d (by simp)) (h e (by simp)) (h f (by simp))
 |[a,b,c,d,e,f,g],_,_,h=>exact ZeL t ins hil a b c d e f g (h a (by simp)) (h b (by simp)) (h c (by simp)) (h d (by simp)) (h e (by simp)) (h f (by simp)) (h g (by simp))
 |_::_::_::_::_::_::_::_::_,_,hl,_=>simp at hl
def z9Y(m:zD)(x:Spn):Prop:=(0<=x.lane/\x.lane<m.je.length)/\0<=x.lo/\x.lo<x.hi/\x.hi<=z8 m x.lane
def Zai(a b:Spn):Prop:=a.lane<b.lane\/a.lane=b.lane/\a.hi+1000<=b.lo
structure SeI(m:zD)(l:Nat)(pt:Int)(out:List Spn):Prop where
 ok:∀x∈out,z9Y m x
 ap:out.Pairwise Zai
 up:∀x∈out,x.lane<l\/x.lane=l/\x.hi<=pt/\(x.hi=z8 m l\/x.hi % 1000=0)
 len:(out.length:Int)<=l*1001+pt / 1000
theorem SeI.add{m:zD}{l:Nat}{pt:Int}{out:List Spn}(h:SeI m l pt out)(hl:l<m.je.length)(h0:0<=pt)(h1:pt<z8 m l)(h2:pt % 1000=0)(hn:∀x∈out,¬(x.lane=l/\x.hi=pt)):SeI m l (pt+1000) (out++[⟨l,pt,min (pt+1000) (z8 m l)⟩]):=by
 refine⟨?_,?_,?_,?_⟩
 ·intro x hx;rcases jt.1 hx with hx|hx
  ·exact h.ok x hx
  ·simp only[jz]at hx;subst hx;exact⟨⟨by simp only;omega,by simp only;omega⟩,by simp only;omega,by simp only;omega,by simp only;omega⟩
 ·rw[jW];refine⟨h.ap,by simp,?_⟩;intro x hx y hy;simp only[jz]at hy;subst hy;have a:=h.up x hx;have b:=hn x hx;have c:=h.ok x hx;rcases a with a |⟨a1,a2,a3⟩
  ·left;simpa using a
  ·right;refine⟨a1,?_⟩;simp only;have:¬x.hi=pt:=fun e=>b ⟨a1,e⟩
   omega
 ·intro x hx;rcases jt.1 hx with hx|hx
  ·have:=h.up x hx;omega
  ·simp only[jz]at hx;subst hx;right;refine⟨by first |rfl |exact hy,Int.min_le_left _ _,?_⟩;show min (pt+1000) (z8 m l)=z8 m l\/min (pt+1000) (z8 m l) % 1000=0;by_cases c:pt+1000<=z8 m l
   ·right;rw[Int.min_eq_left c];omega
   ·left;exact Int.min_eq_right (by omega)
 ·have:=h.len;simp;omega
theorem SeI.grow{m:zD}{l:Nat}{pt:Int}{pre:List Spn}{y:Spn}(h:SeI m l pt (pre++[y]))(hl:l<m.je.length)(h0:0<=pt)(h1:pt<z8 m l)(h2:pt % 1000=0)(hy:y.lane=l)(hy2:y.hi=pt):SeI m l (pt+1000) (pre++[⟨y.lane,y.lo,min (pt+1000) (z8 m l)⟩]):=by
 have hp:=h.ap;rw[jW]at hp;refine⟨?_,?_,?_,?_⟩
 ·intro x hx;rcases jt.1 hx with hx|hx
  ·exact h.ok x (j6 _ hx)
  ·simp only[jz]at hx;subst hx;have c:=h.ok y (by simp);unfold z9Y at c;exact⟨c.1,c.2.1,by simp only;omega,by simp only[hy];omega⟩
 ·rw[jW];refine⟨hp.1,by simp,?_⟩;intro x hx z hz;simp only[jz]at hz;subst hz;exact hp.2.2 x hx y (by simp)
 ·intro x hx;rcases jt.1 hx with hx|hx
  ·have:=h.up x (j6 _ hx);omega
  ·simp only[jz]at hx;subst hx;right;refine⟨by first |rfl |exact hy,Int.min_le_left _ _,?_⟩;show min (pt+1000) (z8 m l)=z8 m l\/min (pt+1000) (z8 m l) % 1000=0;by_cases c:pt+1000<=z8 m l
   ·right;rw[Int.min_eq_left c];omega
   ·left;exact Int.min_eq_right (by omega)
 ·have:=h.len;simp at this ⊢;omega
abbrev snM(m:zD)(s:SnV)(seen:List Spn)(v:Nat)(S:Cl)(G:Mem):Mem:=bx 5 (zf m)::bx 3 (snC s)::bx 3 [I 0,.jd,.jd]::bxv v 3 [I s.tick,.jc (zWx seen),S]::G
abbrev ptB(out:List Pnt):Option Blk:=some { box:=false,esz:=3,rows:=zWs out,gen:=out.length,fz:=false,ver:=out.length }
abbrev ptS(q:Nat)(out:List Pnt):Cl:=.slice (q+4) out.length 3 0 out.length none
@[simp] theorem Za7(l:List Pnt)(p:Pnt):zWs (l++[p])=zWs l++[zYi p]:=by simp[zWs]
def pbw(n:Nat):Option Blk->Bool
 |some b=>b.below n
 |none=>true
def PB(x:Option Blk):Prop:=∀n,pbw n x=true
theorem Zb{m:zD}{s:SnV}{seen:List Spn}{v q n:Nat}{out:List Pnt}{G N:Mem}{E:Env}(hn:n=G.length+4)(hq:q<G.length)(hG:∀x∈G,PB x)(hE:E.all (fun x=>x.2.below n)=true):jN n E (snM m s seen v (ptS q out) (G++N))=snM m s seen v (ptS q out) G:=by
 subst hn;unfold jN;split
 ·rename_i h;have hN:N=[]:=jO.1 (by simp only[snM,jm,jr]at h;omega);subst hN;simp
 ·rw[if_pos]
  ·simp
  ·rw[hE,kq];have e:List.take (G.length+4) (snM m s seen v (ptS q out) (G++N))=snM m s seen v (ptS q out) G:=by simp
   rw[e];simp[zH,Blk.below,Eng.below,uX,zf,snC];refine⟨by omega,fun x hx=>?_⟩;have:=hG x hx (G.length+4);cases x with
   |none=>rfl
   |some b=>simpa [pbw,Blk.below]using this
theorem ZZ{m:zD}{s:SnV}{seen:List Spn}{v:Nat}{N:Mem}{E:Env}(hE:E.all (fun x=>x.2.below 4)=true):jN 4 E (snM m s seen v .jd N)=snM m s seen v .jd []:=by
 unfold jN;split
 ·rename_i h;have hN:N=[]:=jO.1 (by simp only[snM,jm]at h;omega);subst hN;rfl
 ·rw[if_pos]
  ·simp
  ·rw[hE,kq];simp[zH,Blk.below,Eng.below,uX,zf,snC]
theorem z8I{m:zD}{s:SnV}{seen:List Spn}{v q n:Nat}{out:List Pnt}{G:Mem}{E:Env}(h4:4<=n)(hn:n<=q+4):jN n E (snM m s seen v (ptS q out) G)=snM m s seen v (ptS q out) G:=by
 unfold jN;split
 ·rfl
 ·rw[if_neg];obtain⟨k,rfl⟩:∃k,n=k+4:=⟨n-4,by omega⟩;have hc:¬q+4+1<=k+4:=by omega
  simp[zH,Blk.below,Eng.below,uX,hc]
abbrev ZcC(out:List z2T):Option Blk:=some { box:=false,esz:=4,rows:=z2H out,gen:=out.length,fz:=false,ver:=out.length }
abbrev ZcV(y:z2T):Option Blk:=some { box:=false,esz:=4,rows:=[z29 y],gen:=1,fz:=false,ver:=1 }
abbrev ZbW(q:Nat)(out:List z2T):Cl:=.slice (q+6) out.length 4 0 out.length none
abbrev Zdk(w:Nat)(bs:List AgV):Option Blk:=some { box:=false,esz:=7,rows:=Zbn bs,gen:=bs.length,fz:=false,ver:=w }
abbrev ZbP(m:zD)(s:SnV)(bs:List AgV)(v w:Nat)(S:Cl)(G:Mem):Mem:=bx 5 (zf m)::bx 3 (snC s)::bx 3 [I 0,.jd,.jd]::gb 6::bxv v 3 [I s.tick,.slice 5 bs.length 7 0 bs.length none,S]::Zdk w bs::G
theorem ZeF(out:List z2T):PB (ZcC out):=fun n=>by simp[pbw,Blk.below]
theorem ZeG(v:Nat)(y:z2T):PB (bxv v 4 (z29 y)):=fun n=>by simp[pbw,Blk.below,Eng.below,uX,z29]
theorem ZcT{m:zD}{s:SnV}{bs:List AgV}{v w n:Nat}{S:Cl}{G:Mem}{E:Env}(hn:n=G.length+6):jN n E (ZbP m s bs v w S G)=ZbP m s bs v w S G:=by
 subst hn;unfold jN;rw[if_pos];simp
theorem Zdj{m:zD}{s:SnV}{bs:List AgV}{v w n:Nat}{S:Cl}{G N:Mem}{E:Env}(hn:n=G.length+6)(hS:S=.jd\/∃q out,S=ZbW q out/\q<G.length)(hG:∀x∈G,PB x)(hE:E.all (fun x=>x.2.below n)=true):jN n E (ZbP m s bs v w S (G++N))=ZbP m s bs v w S G:=by
 subst hn;have hGb:∀x∈G,(match x with |some b=>!b.box||b.rows.all fun r=>r.all (Eng.below (G.length+6)) |none=>true)=true:=fun x hx=>by
  have:=hG x hx (G.length+6);cases x with
  |none=>rfl
  |some b=>simpa [pbw,Blk.below]using this
 unfold jN;split
 ·rename_i h;have hN:N=[]:=jO.1 (by simp only[ZbP,jm,jr]at h;omega);subst hN;simp
 ·rw[if_pos]
  ·simp
  ·rw[hE,kq];have e:List.take (G.length+6) (ZbP m s bs v w S (G++N))=ZbP m s bs v w S G:=by simp
   rw[e];rcases hS with rfl |⟨q,out,rfl,hq⟩
   ·simp[zH,Blk.below,Eng.below,uX,zf,snC];exact hGb
   ·simp[zH,Blk.below,Eng.below,uX,zf,snC];refine⟨by omega,hGb⟩
theorem ZcJ{m:zD}{s:SnV}{bs:List AgV}{v w q n:Nat}{out:List z2T}{G:Mem}{E:Env}(h6:6<=n)(hn:n<=q+6):jN n E (ZbP m s bs v w (ZbW q out) G)=ZbP m s bs v w (ZbW q out) G:=by
 unfold jN;split
 ·rfl
 ·rw[if_neg];obtain⟨k,rfl⟩:∃k,n=k+6:=⟨n-6,by omega⟩;have hc:¬q+6+1<=k+6:=by omega
  simp[zH,Blk.below,Eng.below,uX,hc]
inductive ZbY (n0:Nat):List z2T->Cl->Mem->Prop
 |nil {G:Mem} (hG:∀x∈G,PB x) (h:n0=G.length+6):ZbY n0 [] .jd G
 |own (q:Nat) {out:List z2T} {G:Mem} (hq:G[q]?=some (ZcC out)) (hG:∀x∈G,PB x) (hn:n0=G.length+6\/6<=n0/\n0<=q+6):ZbY n0 out (ZbW q out) G
theorem ZbY.six{n0:Nat}{out:List z2T}{S:Cl}{G:Mem}(h:ZbY n0 out S G):6<=n0:=by
 cases h with
 |nil _ h=>omega
 |own _ _ _ h=>omega
theorem ZbY.same{n0:Nat}{out:List z2T}{S:Cl}{G:Mem}(h:ZbY n0 out S G){m:zD}{s:SnV}{bs:List AgV}{v w:Nat}{E:Env}:jN n0 E (ZbP m s bs v w S G)=ZbP m s bs v w S G:=by
 cases h with
 |nil _ h=>exact ZcT h
 |own q _ _ h =>
  rcases h with h|h
  ·exact ZcT h
  ·exact ZcJ h.1 h.2
abbrev ZbL(jL:List Int)(i z:Nat):Env:=[(13,.w (W z)),(2,.w (.c (.jc (zu jL)))),(6,.w (Pt 2)),(10,.w (Pt 4)),(3,.w (Pt 0)),(4,.w (Pt 1)),(11,.w (W i))]
theorem ZcP(jL:List Int)(i z:Nat){n:Nat}(hn:6<=n):(ZbL jL i z).all (fun x=>x.2.below n)=true:=by
 simp[AV.below,WV.below,WV.cells,Eng.below,uX];refine⟨?_,?_,?_,?_⟩<;>first |omega |exact decide_eq_true (by omega)
structure ZeW(m:zD)(s:SnV)(i z:Nat)(a b:AgV)(p:Bool)(x:z2T):Prop where
 there:R L Cs z3I [.a (snC s),W i] []=some (.w (Bo true),[])
 pres:R L Cs z3B [.a (zf m),.a (agC a),.a (agC b),W z] []=some (.w (Bo p),[])
 stay:∃(y:z2T) (w:Bool),R L Cs Zb2 [.c (.jc (z2H s.ins)),W i,W z] []=some (.t [.a (z29 y),Bo w],[])/\(w=true->x=y)/\(w=false->∃r,R L Cs z3M [.a (zf m),.a (agC a),W z,W s.tick] []=some (.w (W r),[])/\x=⟨i,z,s.tick,r⟩)
theorem room32{n:Nat}(h:n<=1000):(n+1)*32<=140737488355328:=by omega
theorem ZdP{m:zD}{s:SnV}{bs:List AgV}{i z:Nat}(hi:i<s.agents.length)(hb:i<bs.length)(yz:s.agents.length<=8)(hbl:bs.length=s.agents.length)(hz:z<m.kr.length)(hzn:m.kr.length<=100){x:z2T}(hC:ZeW m s i z s.agents[i] bs[i] false x)(jL:List Int){n0 v w:Nat}{out:List z2T}{S:Cl}{G:Mem}(hS:ZbY n0 out S G) :
  Y L Cs zK (some [13,2,6,10,3,4,11]) n0 (ZbL jL i z) (ZbP m s bs v w S G)=Y L Cs zK (some [13,2,6,10,3,4,11]) n0 (ZbL jL i (z+1)) (ZbP m s bs v w S G):=by
 have hT:=hC.there;have hP:=hC.pres;have hw:=zB (i:=z) (by omega);have hcz:(z:Int)<m.kr.length:=by omega
 have hci:(i:Int)<s.agents.length:=by omega
 have hcb:(i:Int)<bs.length:=by omega
 have hD:=@ZbY.same n0 out S G hS m s bs v w (ZbL jL i (z+1));rw[<-hD];generalize hag:s.agents[i]=a at *;generalize hbg:bs[i]=b at *;simp only[zf,snC,agC]at hT hP;rw[hD];rw[ZfM zK.eq_1]
 conv=>rhs;rw[<-hD]
 simp[ZbL,ZbP,zf,snC,agC,hi,hb,hci,hcb,hz,hcz,hag,hbg,hT,hP,hw,zg,zH,-jN]
def ZcM(n:Nat)(S:Cl):Prop:=∃q out,S=ZbW q out/\n<=q+6
theorem ZbY.app{n0:Nat}{out:List z2T}{S:Cl}{G N:Mem}(h:ZbY n0 out S G)(hN:∀x∈N,PB x){m:zD}{s:SnV}{bs:List AgV}{v w:Nat}{E:Env}(hE:E.all (fun x=>x.2.below n0)=true):∃G',jN n0 E (ZbP m s bs v w S (G++N))=ZbP m s bs v w S G'/\ZbY n0 out S G':=by
 cases h with
 |nil hG h=>exact⟨G,Zdj h (.inl rfl) hG hE,.nil hG h⟩
 |own q hq hG hn =>
  have hql:q<G.length:=by by_cases c:q<G.length;exact c;rw[jK (by omega)]at hq;cases hq
  rcases hn with hn|hn
  ·exact⟨G,Zdj hn (.inr ⟨q,out,rfl,hql⟩) hG hE,.own q hq hG (.inl hn)⟩
  ·refine⟨G++N,ZcJ hn.1 hn.2,.own q (by rw[jw hql,hq]) ?_ (.inr hn)⟩;intro x hx;rcases jt.1 hx with hx|hx
   ·exact hG x hx
   ·exact hN x hx
theorem Zd5{m:zD}{s:SnV}{bs:List AgV}{i z:Nat}(hi:i<s.agents.length)(hb:i<bs.length)(yz:s.agents.length<=8)(hbl:bs.length=s.agents.length)(hz:z<m.kr.length)(hzn:m.kr.length<=100){x:z2T}(hC:ZeW m s i z s.agents[i] bs[i] true x)(jL:List Int){n0 v w:Nat}{out:List z2T}{S:Cl}{G:Mem}(hS:ZbY n0 out S G)(hol:out.length<=1000) :
  ∃(v':Nat) (S':Cl) (G':Mem),ZbY n0 (out++[x]) S' G'/\(∀k,ZcM k S->ZcM k S') /\
  Y L Cs zK (some [13,2,6,10,3,4,11]) n0 (ZbL jL i z) (ZbP m s bs v w S G)=Y L Cs zK (some [13,2,6,10,3,4,11]) n0 (ZbL jL i (z+1)) (ZbP m s bs v' w S' G'):=by
 have hT:=hC.there;have hP:=hC.pres;obtain⟨y,ws,hSt,hy1,hy2⟩:=hC.stay;have hw:=zB (i:=z) (by omega);have hcz:(z:Int)<m.kr.length:=by omega
 have hci:(i:Int)<s.agents.length:=by omega
 have hcb:(i:Int)<bs.length:=by omega
 have hsix:=hS.six;have jZ:=room32 hol;generalize hag:s.agents[i]=a at *;generalize hbg:bs[i]=b at *;simp only[zf,snC,agC]at hT hP;have htk:(z2H out).take out.length=z2H out:=jE (by simp);have hsn:=z5U out x;have hb1:∀y:z2T,PB (ZcV y):=fun y n=>by simp[pbw,Blk.below]
 have hE1:∀(x:Option Blk) (N:Mem),(G++x::N)[G.length]?=some x:=fun x N=>by simp
 have hE2:∀(x y:Option Blk) (N:Mem),(G++x::y::N)[G.length+1]?=some y:=fun x y N=>by simp
 have hEs:∀(x y:Option Blk) (N:Mem),(G++x::N).set G.length y=G++y::N:=fun x y N=>by rw[ky _ _ (jq _)];simp
 cases hS with
 |nil hG hn =>
  subst hn;have fin:∀u:Nat,ZbY (G.length+6) ([]++[x]) (ZbW (G.length+2) [x]) (G++[bxv u 4 (z29 x),ZcV x,ZcC [x]]):=fun u=>by
   refine .own (G.length+2) (by simp) ?_ (.inr ⟨by omega,by omega⟩);intro y hy;rcases jt.1 hy with hy|hy
   ·exact hG y hy
   ·simp only[jB,qu,or_false]at hy;rcases hy with rfl|rfl|rfl
    ·exact ZeG _ _
    ·exact hb1 _
    ·exact ZeF _
  cases ws with
  |true =>
   obtain rfl:=hy1 rfl;refine⟨v+1,_,_,fin 1,fun k ⟨_,_,e,_⟩=>absurd e (by simp),?_⟩;have key:Y L Cs zK (some [13,2,6,10,3,4,11]) (G.length+6) (ZbL jL i z) (ZbP m s bs v w .jd G)=Y L Cs zK (some [13,2,6,10,3,4,11]) (G.length+6) (ZbL jL i (z+1)) (jN (G.length+6) (ZbL jL i (z+1)) (ZbP m s bs (v+1) w (.slice (G.length+2+6) 1 4 0 1 none) (G++[bxv 1 4 (z29 x),ZcV x,ZcV x]))):=by
    rw[ZfM zK.eq_1];simp (maxSteps:=1000000) [ZbL,ZbP,zf,snC,agC,z29,hi,hb,hci,hcb,hz,hcz,hag,hbg,hT,hP,hSt,hw,hE1,hE2,hEs,zg,zH,-jN];rfl
   exact key.trans (congrArg _ (ZcJ (q:=G.length+2) (out:=[_]) (by omega) (by omega)))
  |false =>
   obtain⟨r,hR,rfl⟩:=hy2 rfl;simp only[zf,agC]at hR;refine⟨v+1,_,_,fin 2,fun k ⟨_,_,e,_⟩=>absurd e (by simp),?_⟩;have key:Y L Cs zK (some [13,2,6,10,3,4,11]) (G.length+6) (ZbL jL i z) (ZbP m s bs v w .jd G)=Y L Cs zK (some [13,2,6,10,3,4,11]) (G.length+6) (ZbL jL i (z+1)) (jN (G.length+6) (ZbL jL i (z+1)) (ZbP m s bs (v+1) w (.slice (G.length+2+6) 1 4 0 1 none) (G++[bxv 2 4 (z29 ⟨i,z,s.tick,r⟩),ZcV ⟨i,z,s.tick,r⟩,ZcV ⟨i,z,s.tick,r⟩]))):=by
    rw[ZfM zK.eq_1];simp (maxSteps:=1000000) [ZbL,ZbP,zf,snC,agC,z29,hi,hb,hci,hcb,hz,hcz,hag,hbg,hT,hP,hSt,hR,hw,hE1,hE2,hEs,zg,zH,-jN];rfl
   exact key.trans (congrArg _ (ZcJ (q:=G.length+2) (out:=[_]) (by omega) (by omega)))
 |own q hq hG hn =>
  have hql:q<G.length:=by by_cases c:q<G.length;exact c;rw[jK (by omega)]at hq;cases hq
  have hq':∀N:Mem,(G++N)[q]?=some (ZcC out):=fun N=>by rw[jw hql,hq]
  have v9:∀(N:Mem) (x:Option Blk),(G++N).set q x=G.set q x++N:=fun N x=>k9 _ _ hql
  have fin:ZbY n0 (out++[x]) (ZbW q (out++[x])) (G.set q (ZcC (out++[x]))):=by
   refine .own q (kg hql) ?_ (by simpa using hn);intro y hy;rcases qc hy with hy|rfl
   ·exact hG y hy
   ·exact ZeF _
  have hPB:∀u:Nat,∀y∈[bxv u 4 (z29 x),ZcV x],PB y:=fun u y hy=>by
   simp only[jB,qu,or_false]at hy;rcases hy with rfl|rfl
   ·exact ZeG _ _
   ·exact hb1 _
  have hkeep:∀(o:List z2T) (k:Nat),ZcM k (ZbW q out)->ZcM k (ZbW q o):=fun o k ⟨q',o',e,h⟩=>⟨q,o,rfl,by simp only[ZbW,Cl.slice.injEq]at e;omega⟩
  simp only[ZcC]at hq';cases ws with
  |true =>
   obtain rfl:=hy1 rfl;have key:Y L Cs zK (some [13,2,6,10,3,4,11]) n0 (ZbL jL i z) (ZbP m s bs v w (ZbW q out) G)=Y L Cs zK (some [13,2,6,10,3,4,11]) n0 (ZbL jL i (z+1)) (jN n0 (ZbL jL i (z+1)) (ZbP m s bs (v+1) w (ZbW q (out++[x])) (G.set q (ZcC (out++[x]))++[bxv 1 4 (z29 x),ZcV x]))):=by
    clear fin hG hn hq;rw[ZfM zK.eq_1];simp[ZbL,ZbP,zf,snC,agC,z29,hi,hb,hci,hcb,hz,hcz,hag,hbg,hT,hP,hSt,hw,hE1,hE2,hEs,hq',v9,htk,hsn,jZ,ZbW,ZcC,ZcV,jr,zg,zH,-jN]
   obtain⟨G',h1,h2⟩:=fin.app (hPB 1) (m:=m) (s:=s) (bs:=bs) (v:=v+1) (w:=w) (ZcP jL i (z+1) hsix);exact⟨v+1,_,G',h2,hkeep _,by rw[key,h1]⟩
  |false =>
   obtain⟨r,hR,rfl⟩:=hy2 rfl;simp only[zf,agC]at hR;have key:Y L Cs zK (some [13,2,6,10,3,4,11]) n0 (ZbL jL i z) (ZbP m s bs v w (ZbW q out) G)=Y L Cs zK (some [13,2,6,10,3,4,11]) n0 (ZbL jL i (z+1)) (jN n0 (ZbL jL i (z+1)) (ZbP m s bs (v+1) w (ZbW q (out++[⟨i,z,s.tick,r⟩])) (G.set q (ZcC (out++[⟨i,z,s.tick,r⟩]))++[bxv 2 4 (z29 ⟨i,z,s.tick,r⟩),ZcV ⟨i,z,s.tick,r⟩]))):=by
    clear fin hG hn hq;rw[ZfM zK.eq_1];simp[ZbL,ZbP,zf,snC,agC,z29,hi,hb,hci,hcb,hz,hcz,hag,hbg,hT,hP,hSt,hR,hw,hE1,hE2,hEs,hq',v9,htk,hsn,jZ,ZbW,ZcC,ZcV,jr,zg,zH,-jN]
   obtain⟨G',h1,h2⟩:=fin.app (hPB 2) (m:=m) (s:=s) (bs:=bs) (v:=v+1) (w:=w) (ZcP jL i (z+1) hsix);exact⟨v+1,_,G',h2,hkeep _,by rw[key,h1]⟩
theorem ZbY.to{n1 n0:Nat}{out:List z2T}{S:Cl}{G:Mem}(h:ZbY n1 out S G)(hk:ZcM n0 S)(h6:6<=n0):ZbY n0 out S G:=by
 obtain⟨q,o,e,hn⟩:=hk;cases h with
 |nil hG h=>exact absurd e (by simp)
 |own q' hq hG hn' =>
  simp only[ZbW,Cl.slice.injEq]at e;exact .own q' hq hG (.inr ⟨h6,by omega⟩)
def ltI(x y:z2T):Prop:=x.qU<y.qU\/x.qU=y.qU/\x.kp<y.kp
structure ZbX(n nz:Nat)(tick:Int)(i z:Nat)(out:List z2T):Prop where
 asc:out.Pairwise ltI
 low:∀x∈out,x.qU<i\/x.qU=i/\x.kp<z
 rng:∀x∈out,0<=x.qU/\x.qU<n/\0<=x.kp/\x.kp<nz
 val:∀x∈out,0<=x.since/\x.since<=tick/\0<=x.ux/\x.ux<=100
 len:out.length<=nz*i+z
theorem ZbX.skip{n nz:Nat}{tick:Int}{i z:Nat}{out:List z2T}(h:ZbX n nz tick i z out):ZbX n nz tick i (z+1) out :=
 ⟨h.asc,fun x hx=>by have:=h.low x hx;omega,h.rng,h.val,by have:=h.len;omega⟩
theorem ZbX.next{n nz:Nat}{tick:Int}{i z:Nat}{out:List z2T}(h:ZbX n nz tick i z out)(hz:z<=nz):ZbX n nz tick (i+1) 0 out :=
 ⟨h.asc,fun x hx=>by have:=h.low x hx;omega,h.rng,h.val,by have:=h.len;rw[Nat.mul_add];omega⟩
theorem ZbX.put{n nz:Nat}{tick:Int}{i z:Nat}{out:List z2T}(h:ZbX n nz tick i z out){x:z2T}(hi:i<n)(hz:z<nz)(h1:x.qU=i)(h2:x.kp=z)(hv:0<=x.since/\x.since<=tick/\0<=x.ux/\x.ux<=100):ZbX n nz tick i (z+1) (out++[x]):=by
 refine⟨?_,?_,?_,?_,by have:=h.len;simp;omega⟩
 ·rw[jW];refine⟨h.asc,by simp,fun a ha b hb=>?_⟩;simp only[jz]at hb;subst hb;have:=h.low a ha;unfold ltI;omega
 ·intro y hy;rcases jt.1 hy with hy|hy
  ·have:=h.low y hy;omega
  ·simp only[jz]at hy;subst hy;omega
 ·intro y hy;rcases jt.1 hy with hy|hy
  ·exact h.rng y hy
  ·simp only[jz]at hy;subst hy;omega
 ·intro y hy;rcases jt.1 hy with hy|hy
  ·exact h.val y hy
  ·simp only[jz]at hy;subst hy;exact hv
theorem Zej{m:zD}{s:SnV}(h:z31 m s=0):∀x∈s.ins,0<=x.since/\x.since<=s.tick/\0<=x.ux/\x.ux<=100:=by
 intro x hx;unfold z31 at h;split at h
 ·exact absurd h (by decide)
 ·split at h
  ·exact absurd h (by decide)
  ·split at h
   ·exact absurd h (by decide)
   ·rename_i hn;have:¬zIY s.tick x=true:=fun hb=>hn (jQ.2 ⟨x,hx,hb⟩)
    unfold zIY at this;simp at this;omega
theorem Zer{m:zD}{zs:List Zon}{ss:List Sgn}(hF:z7y m zs ss){s:SnV}(hs:KSn m s)(hc:z31 m s=0)(i z:Nat)(hi:i<s.agents.length)(hz:z<zs.length){b:AgV}(hb:WAg m b)(ht:thA s.tick s.agents[i]=true) :
  ∃x:z2T,ZeW m s i z s.agents[i] b (Zb7 m zs s.agents[i] b z) x/\x.qU=i/\x.kp=z/\(0<=x.since/\x.since<=s.tick/\0<=x.ux/\x.ux<=100):=by
 have ha:=hs.ags _ (ja hi);have hT:=z56 s i hi;rw[ht]at hT;have hP:=z4G hF ha hb z;have hS:=Zdi s.ins hs.ins i z;obtain⟨r,hr,hR⟩:=z7f hF ha z hz s.tick hs.tick.1;cases hq:ZdS s.ins i z with
 |none =>
  rw[hq]at hS;exact⟨⟨i,z,s.tick,r⟩,⟨hT,hP,⟨_,_,hS,fun h=>absurd h (by simp),fun _=>⟨r,hR,rfl⟩⟩⟩,rfl,rfl,hs.tick.1,kG _,hr.1,hr.2⟩
 |some k =>
  rw[hq]at hS;obtain⟨hk,hp,_⟩:=jM.1 hq;have e:Zdu s.ins i z=s.ins[k]:=by unfold Zdu;rw[hq];simp[hk]
  unfold Zc7 at hp;simp only[jh,decide_eq_true_eq]at hp;exact⟨Zdu s.ins i z,⟨hT,hP,⟨_,_,hS,fun _=>rfl,fun h=>absurd h (by simp)⟩⟩,by rw[e];exact hp.1,by rw[e];exact hp.2,by rw[e];exact Zej hc _ (ja hk)⟩
theorem ZdQ{m:zD}{zs:List Zon}{ss:List Sgn}(hF:z7y m zs ss){s:SnV}(hs:KSn m s)(hc:z31 m s=0)(hl:s.agents.length<=7){bs:List AgV}{i:Nat}(hi:i<s.agents.length)(hbl:bs.length=s.agents.length)(hb:i<bs.length)(hw:WAg m bs[i])(ht:thA s.tick s.agents[i]=true)(jL:List Int)(n0 w:Nat) :
  ∀(f z:Nat) (v:Nat) (out:List z2T) (S:Cl) (G:Mem),z+f=m.kr.length->ZbY n0 out S G->ZbX s.agents.length m.kr.length s.tick i z out->∃(v':Nat) (um:List z2T) (S':Cl) (G':Mem),ZbY n0 um S' G'/\(∀k,ZcM k S->ZcM k S')/\ZbX s.agents.length m.kr.length s.tick i m.kr.length um /\
   Y L Cs zK (some [13,2,6,10,3,4,11]) n0 (ZbL jL i z) (ZbP m s bs v w S G)=some (.exit 2,(68,.w (Bo false))::ZbL jL i m.kr.length,ZbP m s bs v' w S' G'):=by
 have hzz:=hF.full.zd.z;have hzn:m.kr.length=zs.length:=by rw[hzz];simp
 have hz2:=hF.zn2;intro f;induction f with
 |zero =>
  intro z v out S G hz hS hO;obtain rfl:z=m.kr.length:=by omega
  refine⟨v,out,S,G,hS,fun _ h=>h,hO,?_⟩;rw[ZfM zK.eq_1];simp[ZbL,ZbP,zf]
 |succ f ih =>
  intro z v out S G hz hS hO;obtain⟨x,hC,x1,x2,x3⟩:=Zer hF hs hc i z hi (by omega) hw ht;cases hp:Zb7 m zs s.agents[i] bs[i] z with
  |false =>
   rw[hp]at hC;rw[ZdP hi hb (by omega) hbl (by omega) (by omega) hC jL hS];exact ih (z+1) v out S G (by omega) hS hO.skip
  |true =>
   rw[hp]at hC;have hlen:=hO.len;have hmul:m.kr.length*i<=2*7:=u5 (by omega) (by omega);obtain⟨v1,S1,G1,g1,g2,g3⟩:=Zd5 hi hb (by omega) hbl (by omega) (by omega) hC jL (v:=v) (w:=w) hS (by omega);obtain⟨v2,vF,S2,G2,k1,k2,k3,k4⟩:=ih (z+1) v1 (out++[x]) S1 G1 (by omega) g1 (hO.put hi (by omega) x1 x2 x3);exact⟨v2,vF,S2,G2,k1,fun k h=>k2 k (g2 k h),k3,g3.trans k4⟩
abbrev ZcO(jL:List Int)(i:Nat):Env:=[(6,.w (Pt 2)),(2,.w (.c (.jc (zu jL)))),(10,.w (Pt 4)),(3,.w (Pt 0)),(4,.w (Pt 1)),(11,.w (W i))]
theorem Zdv(bs:List AgV)(i:Nat)(b:AgV):(Zbn bs).set i (agC b)=Zbn (bs.set i b):=by simp[Zbn,yr]
theorem ZdR{m:zD}{s:SnV}{bs:List AgV}{i:Nat}(hi:i<s.agents.length)(ht:thA s.tick s.agents[i]=false)(jL:List Int)(n0 v w:Nat)(S:Cl)(G:Mem) :
  Y L Cs zK (some [13,2,6,10,3,4,11]) n0 (ZbL jL i 0) (ZbP m s bs v w S G)=some (.exit 2,(68,.w (Bo false))::ZbL jL i 0,ZbP m s bs v w S G):=by
 have hT:=z56 s i hi;rw[ht]at hT;simp only[snC]at hT;rw[ZfM zK.eq_1];by_cases hz:0<m.kr.length
 ·have hz':(0:Int)<m.kr.length:=by omega
  simp[ZbL,ZbP,zf,snC,hT,hz,hz',zg,zH,-jN]
 ·have hz':¬(0:Int)<m.kr.length:=by omega
  simp[ZbL,ZbP,zf,snC,hT,hz,hz',zg,zH,-jN]
theorem Zd6{m:zD}{zs:List Zon}{ss:List Sgn}(hF:z7y m zs ss){s:SnV}(hs:KSn m s)(hc:z31 m s=0)(hl:s.agents.length<=7){bs:List AgV}{i:Nat}(hi:i<s.agents.length)(hbl:bs.length=s.agents.length)(hb:i<bs.length)(hw:WAg m bs[i])(jL:List Int)(n0 w:Nat)(v:Nat)(out:List z2T)(S:Cl)(G:Mem)(hS:ZbY n0 out S G)(hO:ZbX s.agents.length m.kr.length s.tick i 0 out) :
  ∃(z' v':Nat) (um:List z2T) (S':Cl) (G':Mem),ZbY n0 um S' G'/\(∀k,ZcM k S->ZcM k S')/\ZbX s.agents.length m.kr.length s.tick (i+1) 0 um /\
   Y L Cs zK (some [13,2,6,10,3,4,11]) n0 (ZbL jL i 0) (ZbP m s bs v w S G)=some (.exit 2,(68,.w (Bo false))::ZbL jL i z',ZbP m s bs v' w S' G'):=by
 cases ht:thA s.tick s.agents[i]with
 |false=>exact⟨0,v,out,S,G,hS,fun _ h=>h,hO.next (by omega),ZdR hi ht jL n0 v w S G⟩
 |true =>
  obtain⟨v',um,S',G',h1,h2,h3,h4⟩:=ZdQ hF hs hc hl hi hbl hb hw ht jL n0 w m.kr.length 0 v out S G (by omega) hS hO;exact⟨_,v',um,S',G',h1,h2,h3.next (by omega),h4⟩
theorem ZdN{m:zD}{zs:List Zon}{ss:List Sgn}(hF:z7y m zs ss){s:SnV}(hs:KSn m s)(hc:z31 m s=0)(hl:s.agents.length<=7){bs:List AgV}{i:Nat}(hi:i<s.agents.length)(hbl:bs.length=s.agents.length)(jL:List Int)(hin:∀a∈jL,zk0 a)(n0 v w:Nat)(out:List z2T)(S:Cl)(G:Mem)(hS:ZbY n0 out S G)(hO:ZbX s.agents.length m.kr.length s.tick i 0 out) :
  ∃(b:AgV) (v':Nat) (um:List z2T) (S':Cl) (G':Mem),MvS m zs ss s.tick (jL.getD i 0) s.agents[i] b/\ZbY n0 um S' G'/\ZbX s.agents.length m.kr.length s.tick (i+1) 0 um /\
   Y L Cs Zbw (some [6,2,10,3,4,11]) n0 (ZcO jL i) (ZbP m s bs v w S G)=Y L Cs Zbw (some [6,2,10,3,4,11]) n0 (ZcO jL (i+1)) (ZbP m s (bs.set i b) v' (w+1) S' G'):=by
 have AB:zk0 (jL.getD i 0):=by
  rw[jo];by_cases c:i<jL.length
  ·simp[c];exact hin _ (ja c)
  ·simp[c];unfold zk0;omega
 obtain⟨b,hm,hR⟩:=ZeC hF.full hs hc i hi (jL.getD i 0) AB;have hbs:i<(bs.set i b).length:=by simp;omega
 have hbl2:(bs.set i b).length=s.agents.length:=by simpa using hbl
 have h1:ZbY (G.length+6) out S G:=by
  cases hS with
  |nil hG h=>exact .nil hG rfl
  |own q hq hG hn=>exact .own q hq hG (.inl rfl)
 obtain⟨z',v',um,S',G',g1,g2,g3,g4⟩:=Zd6 hF hs hc hl hi hbl2 hbs (by simp;exact hm.wag) jL (G.length+6) (w+1) v out S G h1 hO;have g5:ZbY n0 um S' G':=by
  cases hS with
  |nil hG h=>rw[h];exact g1
  |own q hq hG hn =>
   rcases hn with hn|hn
   ·rw[hn];exact g1
   ·exact g1.to (g2 n0 ⟨q,out,rfl,hn.2⟩) hn.1
 have hD:=@ZbY.same n0 um S' G' g5 m s (bs.set i b) v' (w+1) (ZcO jL (i+1));refine⟨b,v',um,S',G',hm,g5,g3,?_⟩;have hw:=zB (i:=i) (by omega);have hci:(i:Int)<s.agents.length:=by omega
 have hcb:(i:Int)<bs.length:=by omega
 have hib:i<bs.length:=by omega
 have hrs:=Zdv bs i b;clear hO h1 g1 g2 g3 g5 hS hm;simp only[zf,snC]at hR
 conv=>rhs;rw[<-hD]
 clear hD;have hD0:=ZcT (m:=m) (s:=s) (bs:=bs.set i b) (v:=v) (w:=w+1) (n:=G.length+6) (S:=S) (G:=G) (E:=ZbL jL i 0) rfl;have e6:G.length+1+1+1+1+1+1=G.length+6:=rfl;simp only[ZbL,ZbP,zf,snC,Zdk,uM,jg]at g4 hD0;rw[ZfM Zbw.eq_1];by_cases c:i<jL.length
 ·have e:jL.getD i 0=jL[i]:=by simp[c]
  have c':(i:Int)<jL.length:=by omega
  rw[e]at hR;simp only[agC]at hrs hR;simp[ZcO,ZbP,zf,snC,agC,hi,hci,hib,hcb,c,c',hR,hrs,hw,e6,hD0,g4,Zdk,uM,zg,zH,-jN]
 ·have e:jL.getD i 0=0:=by simp[c]
  have c':¬(i:Int)<jL.length:=by omega
  rw[e]at hR;simp only[agC]at hrs hR;simp[ZcO,ZbP,zf,snC,agC,hi,hci,hib,hcb,c,c',hR,hrs,hw,e6,hD0,g4,Zdk,uM,zg,zH,-jN]
theorem ZdO{m:zD}{zs:List Zon}{ss:List Sgn}(hF:z7y m zs ss){s:SnV}(hs:KSn m s)(hc:z31 m s=0)(hl:s.agents.length<=7)(jL:List Int)(hin:∀a∈jL,zk0 a)(n0:Nat):∀(f i v w:Nat) (bs:List AgV) (out:List z2T) (S:Cl) (G:Mem),i+f=s.agents.length->bs.length=s.agents.length ->
  (∀(j:Nat) (h1:j<s.agents.length) (h2:j<bs.length),j<i->MvS m zs ss s.tick (jL.getD j 0) s.agents[j] bs[j])->ZbY n0 out S G->ZbX s.agents.length m.kr.length s.tick i 0 out ->
  ∃(bs':List AgV) (v' w':Nat) (um:List z2T) (S':Cl) (G':Mem),bs'.length=s.agents.length/\(∀(j:Nat) (h1:j<s.agents.length) (h2:j<bs'.length),MvS m zs ss s.tick (jL.getD j 0) s.agents[j] bs'[j])/\ZbY n0 um S' G'/\ZbX s.agents.length m.kr.length s.tick s.agents.length 0 um /\
   Y L Cs Zbw (some [6,2,10,3,4,11]) n0 (ZcO jL i) (ZbP m s bs v w S G)=some (.exit 0,[(39,.w (Bo false)),(2,.w (.c (.jc (zu jL)))),(6,.w (Pt 2)),(10,.w (Pt 4)),(3,.w (Pt 0)),(4,.w (Pt 1)),(11,.w (W s.agents.length))],ZbP m s bs' v' w' S' G'):=by
 intro f;induction f with
 |zero =>
  intro i v w bs out S G hi hbl hM hS hO;obtain rfl:i=s.agents.length:=by omega
  refine⟨bs,v,w,out,S,G,hbl,fun j h1 h2=>hM j h1 h2 h1,hS,hO,?_⟩;rw[ZfM Zbw.eq_1];simp[ZcO,ZbP,snC]
 |succ f ih =>
  intro i v w bs out S G hi hbl hM hS hO;obtain⟨b,v1,out1,S1,G1,g1,g2,g3,g4⟩:=ZdN hF hs hc hl (show i<s.agents.length by omega) hbl jL hin n0 v w out S G hS hO;rw[g4];refine ih (i+1) v1 (w+1) (bs.set i b) out1 S1 G1 (by omega) (by simpa using hbl) (fun j h1 h2 hj=>?_) g2 g3;by_cases c:j=i
  ·subst c;simpa using g1
  ·rw[List.getElem_set_ne (by omega)];exact hM j h1 (by simpa using h2) (by omega)
theorem Zcc(l:List CrV)(a:CrV):ZbD (l++[a])=ZbD l++[crC a]:=by simp[ZbD]
abbrev Zb6(out:List CrV):Option Blk:=some (own 6 (ZbD out))
abbrev ZeK(c:CrV):Option Blk:=some { box:=false,esz:=6,rows:=[crC c],gen:=1,fz:=false,ver:=1 }
abbrev syF(fz:Bool)(u:Nat)(ins:List z2T):Option Blk:=some { box:=false,esz:=4,rows:=z2H ins,gen:=ins.length,fz:=fz,ver:=u }
abbrev agF(fz:Bool)(w:Nat)(bs:List AgV):Option Blk:=some { box:=false,esz:=7,rows:=Zbn bs,gen:=bs.length,fz:=fz,ver:=w }
abbrev ZbT(m:zD)(s:SnV)(bs:List AgV)(v:Nat)(fz:Bool)(w:Nat)(S:Cl)(G:Mem)(out:List CrV):Mem:=bx 5 (zf m)::bx 3 (snC s)::bx 3 [I 0,.jd,.jd]::gb 6::bxv v 3 [I (s.tick+1),.slice 5 bs.length 7 0 bs.length none,S]::agF fz w bs::(G++[Zb6 out])
theorem Ze0{m:zD}{s:SnV}{bs:List AgV}{v w n:Nat}{fz:Bool}{S:Cl}{G N:Mem}{out:List CrV}{E:Env}(hn:n=G.length+7)(hS:S=.jd\/∃q out,S=ZbW q out/\q<G.length)(hG:∀x∈G,PB x)(hE:E.all (fun x=>x.2.below n)=true) :
  jN n E (bx 5 (zf m)::bx 3 (snC s)::bx 3 [I 0,.jd,.jd]::gb 6::bxv v 3 [I (s.tick+1),.slice 5 bs.length 7 0 bs.length none,S]::agF fz w bs::(G++Zb6 out::N))=ZbT m s bs v fz w S G out:=by
 subst hn;have hGb:∀x∈G,(match x with |some b=>!b.box||b.rows.all fun r=>r.all (Eng.below (G.length+7)) |none=>true)=true:=fun x hx=>by
  have:=hG x hx (G.length+7);cases x with
  |none=>rfl
  |some b=>simpa [pbw,Blk.below]using this
 have e0:G++Zb6 out::N=(G++[Zb6 out])++N:=by simp
 unfold jN;split
 ·rename_i h;have hN:N=[]:=jO.1 (by simp only[jm,jr]at h;omega);subst hN;rfl
 ·rw[if_pos]
  ·rw[e0];simp[Ad,jE]
  ·rw[hE,kq];have e:List.take (G.length+7) (bx 5 (zf m)::bx 3 (snC s)::bx 3 [I 0,.jd,.jd]::gb 6::bxv v 3 [I (s.tick+1),.slice 5 bs.length 7 0 bs.length none,S]::agF fz w bs::(G++Zb6 out::N))=ZbT m s bs v fz w S G out:=by
    rw[e0];simp[Ad,jE]
   rw[e];rcases hS with rfl |⟨q,o,rfl,hq⟩
   ·simp[zH,Blk.below,Eng.below,uX,zf,snC];exact hGb
   ·simp[zH,Blk.below,Eng.below,uX,zf,snC];exact⟨by omega,hGb⟩
inductive ZcF (fz:Bool):List z2T->Cl->Mem->Prop
 |nil {G:Mem} (hG:∀x∈G,PB x):ZcF fz [] .jd G
 |own (q u:Nat) {ins:List z2T} {G:Mem} (hq:G[q]?=some (syF fz u ins)) (hG:∀x∈G,PB x):ZcF fz ins (ZbW q ins) G
theorem ZcF.at{fz:Bool}{ins:List z2T}{S:Cl}{G:Mem}(h:ZcF fz ins S G):(S=.jd\/∃q out,S=ZbW q out/\q<G.length)/\∀x∈G,PB x:=by
 cases h with
 |nil hG=>exact⟨.inl rfl,hG⟩
 |own q u hq hG=>exact⟨.inr ⟨q,ins,rfl,by by_cases c:q<G.length;exact c;rw[jK (by omega)]at hq;cases hq⟩,hG⟩
abbrev ZcI(g:Nat)(zl:List Int)(i j k:Nat)(out:List CrV):Env:=[(16,.w (.c (sl (g+6) 6 (ZbD out)))),(20,.w (W k)),(3,.w (Pt 0)),(6,.w (Pt 2)),(4,.w (Pt 1)),(17,.w (W i)),(18,.w (W j)),(19,.w (.c (.jc (zu zl)))),(10,.w (Pt 4))]
theorem DF{n:Nat}(h:n<=1000):(n+1)*64<=140737488355328:=by omega
theorem ZdL{m:zD}{s:SnV}{bs:List AgV}{ins:List z2T}(hil:ins.length<=1000)(v w i j k:Nat)(zl:List Int)(hk:k<zl.length)(hzl:zl.length<=1000)(out:List CrV)(hol:out.length<=1000){S:Cl}{G:Mem}(hS:ZcF true ins S G) :
  ∃c:CrV,(c.a=i/\(∀x∈c.who,x=i\/x=j)/\c.who.length<=2)/\Y L Cs Zbu (some [16,20,3,6,4,17,18,19,10]) (G.length+7) (ZcI G.length zl i j k out) (ZbT m s bs v true w S G out)=Y L Cs Zbu (some [16,20,3,6,4,17,18,19,10]) (G.length+7) (ZcI G.length zl i j (k+1) (out++[c])) (ZbT m s bs v true w S G (out++[c])):=by
 obtain⟨l,hwl,hW⟩:=ZeY ⟨s.tick+1,bs,ins⟩ hil i j zl[k];refine⟨⟨s.tick,i,j,-1,zl[k],l⟩,⟨rfl,hwl⟩,?_⟩;clear hwl;obtain⟨hS1,hS2⟩:=hS.at;have hw:=zB (i:=k) (by omega);have hck:(k:Int)<zl.length:=by omega
 have jZ:=DF hol;have hsn:=Zcc out ⟨s.tick,i,j,-1,zl[k],l⟩;have hE1:∀(x:Option Blk) (N:Mem),(G++x::N)[G.length]?=some x:=fun x N=>by simp
 have hEs:∀(x y:Option Blk) (N:Mem),(G++x::N).set G.length y=G++y::N:=fun x y N=>by rw[ky _ _ (jq _)];simp
 have htk:(ZbD out).take out.length=ZbD out:=jE (by simp);have hta:(Zbn bs).take bs.length=Zbn bs:=z63 bs;have hEb:(ZcI G.length zl i j (k+1) (out++[⟨s.tick,i,j,-1,zl[k],l⟩])).all (fun x=>x.2.below (G.length+7))=true:=by
  simp[AV.below,WV.below,WV.cells,Eng.below,uX]
 have hD:=Ze0 (m:=m) (s:=s) (bs:=bs) (v:=v) (w:=w) (fz:=true) (N:=[ZeK ⟨s.tick,i,j,-1,zl[k],l⟩]) (out:=out++[⟨s.tick,i,j,-1,zl[k],l⟩]) rfl hS1 hS2 hEb;rw[<-hD];clear hD hEb;generalize hz:zl[k]=z at *;cases hS with
 |nil hG =>
  rw[ZfM Zbu.eq_1];simp only[snC,show z2H []=[] from rfl]at hW;simp[ZcI,ZbT,zf,snC,hk,hck,hz,hW,hw,jZ,hsn,hE1,hEs,htk,hta,Zb6,own,ZeK,crC,jr,zg,zH,zX,-jN]
 |own q u hq hG =>
  have hql:q<G.length:=by by_cases c:q<G.length;exact c;rw[jK (by omega)]at hq;cases hq
  have hq':∀N:Mem,(G++N)[q]?=some (syF true u ins):=fun N=>by rw[jw hql,hq]
  have v9:∀(N:Mem) (x:Option Blk),(G++N).set q x=G.set q x++N:=fun N x=>k9 _ _ hql
  have hti:=z62 ins;simp only[snC]at hW;rw[ZfM Zbu.eq_1];simp[ZcI,ZbT,zf,snC,hk,hck,hz,hW,hw,jZ,hsn,hE1,hEs,hq',v9,htk,hta,hti,Zb6,own,ZeK,crC,jr,zg,zH,zX,-jN]
theorem ZdM{m:zD}{s:SnV}{bs:List AgV}{ins:List z2T}(hil:ins.length<=1000)(v w i j:Nat)(zl:List Int)(hzl:zl.length<=1000){S:Cl}{G:Mem}(hS:ZcF true ins S G):∀(f k:Nat) (out:List CrV),k+f=zl.length->out.length+f<=1000 ->
  ∃cs:List CrV,cs.length=f/\(∀c∈cs,c.a=i/\(∀x∈c.who,x=i\/x=j)/\c.who.length<=2)/\Y L Cs Zbu (some [16,20,3,6,4,17,18,19,10]) (G.length+7) (ZcI G.length zl i j k out) (ZbT m s bs v true w S G out)=some (.exit 8,[(163,.w (Bo false)),(16,.w (.c (sl (G.length+6) 6 (ZbD (out++cs))))),(20,.w (W zl.length)),(3,.w (Pt 0)),(6,.w (Pt 2)),(4,.w (Pt 1)),(17,.w (W i)),(18,.w (W j)),(19,.w (.c (.jc (zu zl)))),(10,.w (Pt 4))],ZbT m s bs v true w S G (out++cs)):=by
 intro f;induction f with
 |zero =>
  intro k out hk _;obtain rfl:k=zl.length:=by omega
  refine⟨[],rfl,by simp,?_⟩;rw[ZfM Zbu.eq_1];simp[ZcI]
 |succ f ih =>
  intro k out hk hol;obtain⟨c,h1,h2⟩:=ZdL (m:=m) (s:=s) (bs:=bs) hil v w i j k zl (by omega) hzl out (by omega) hS;obtain⟨cs,g1,g2,g3⟩:=ih (k+1) (out++[c]) (by omega) (by simp;omega);refine⟨c::cs,by simp[g1],?_,?_⟩
  ·intro x hx;rcases jB.1 hx with rfl|hx
   ·exact h1
   ·exact g2 x hx
  ·rw[h2,g3];simp
abbrev Zb0(g i j:Nat)(out:List CrV):Env:=[(18,.w (W j)),(6,.w (Pt 2)),(10,.w (Pt 4)),(17,.w (W i)),(4,.w (Pt 1)),(3,.w (Pt 0)),(16,.w (.c (sl (g+6) 6 (ZbD out))))]
def ZcG(m:zD)(zs:List Zon)(s:SnV)(bs:List AgV)(i j:Nat):Prop:=∃(h1:i<s.agents.length) (h2:j<s.agents.length) (h3:i<bs.length) (h4:j<bs.length),thA s.tick s.agents[i]=true/\thA s.tick s.agents[j]=true /\
 ((∃l,l<m.je.length/\lnB m s.agents[i] s.agents[j] bs[i] bs[j] l=true)\/(∃z,z<zs.length/\ZcH m zs s.agents[i] s.agents[j] bs[i] bs[j] z=true))
def Zg9(m:zD)(zs:List Zon)(s:SnV)(bs:List AgV)(i j:Nat):Prop:=∃(h1:i<s.agents.length) (h2:j<s.agents.length) (h3:i<bs.length) (h4:j<bs.length),thA s.tick s.agents[i]=true/\thA s.tick s.agents[j]=true /\
 ((∃l:Nat,l<m.je.length/\lnB m s.agents[i] s.agents[j] bs[i] bs[j] l=true/\s.agents[i].s-ZbS m s.agents[i].jf l<s.agents[j].s-ZbS m s.agents[j].jf l)\/(∃z,z<zs.length/\ZcH m zs s.agents[i] s.agents[j] bs[i] bs[j] z=true))
def CrW(m:zD)(zs:List Zon)(s:SnV)(bs:List AgV)(i j:Nat)(c:CrV):Prop:=c.a=i/\(∀x∈c.who,x=i\/x=j)/\c.who.length<=2/\((i:Int)∈c.who->i≠j->Zg9 m zs s bs i j)
theorem ZdK{m:zD}{s:SnV}{bs:List AgV}{i j:Nat}(hi:i<s.agents.length)(hj:j<s.agents.length)(yz:s.agents.length<=8)(ht:thA s.tick s.agents[i]=false\/thA s.tick s.agents[j]=false)(v w:Nat)(fz:Bool)(out:List CrV){ins:List z2T}{S:Cl}{G:Mem}(hS:ZcF fz ins S G) :
  Y L Cs Zbr (some [18,6,10,17,4,3,16]) (G.length+7) (Zb0 G.length i j out) (ZbT m s bs v fz w S G out)=Y L Cs Zbr (some [18,6,10,17,4,3,16]) (G.length+7) (Zb0 G.length i (j+1) out) (ZbT m s bs v fz w S G out):=by
 have hT1:=z56 s i hi;have hT2:=z56 s j hj;have hw:=zB (i:=j) (by omega);have hcj:(j:Int)<s.agents.length:=by omega
 have hD:jN (G.length+7) (Zb0 G.length i (j+1) out) (ZbT m s bs v fz w S G out)=ZbT m s bs v fz w S G out:=by
  unfold jN;rw[if_pos];simp
 simp only[snC]at hT1 hT2;rw[<-hD];rw[hD,ZfM Zbr.eq_1]
 conv=>rhs;rw[<-hD]
 clear hD;cases h1:thA s.tick s.agents[i]with
 |false =>
  rw[h1]at hT1;simp[Zb0,ZbT,zf,snC,hj,hcj,hT1,hw,zg,zH,-jN]
 |true =>
  have h2:thA s.tick s.agents[j]=false:=by
   rcases ht with h|h
   ·rw[h1]at h;exact absurd h (by decide)
   ·exact h
  rw[h1]at hT1;rw[h2]at hT2;simp[Zb0,ZbT,zf,snC,hj,hcj,hT1,hT2,hw,zg,zH,-jN]
theorem ZdJ{m:zD}{zs:List Zon}{ss:List Sgn}(hF:z7y m zs ss){s:SnV}{bs:List AgV}{ins:List z2T}(hbl:bs.length=s.agents.length)(hil:ins.length<=1000){i j:Nat}(hi:i<s.agents.length)(hj:j<s.agents.length)(yz:s.agents.length<=8)(hws:∀a∈s.agents,WAg m a)(hwb:∀a∈bs,WAg m a)(ht1:thA s.tick s.agents[i]=true)(ht2:thA s.tick s.agents[j]=true)(v w:Nat)(fz:Bool)(out:List CrV)(hol:out.length+10<=1000){S:Cl}{G:Mem}(hS:ZcF fz ins S G) :
  ∃(w':Nat) (G':Mem) (cs:List CrV),G'.length=G.length/\ZcF true ins S G'/\cs.length<=3/\(∀c∈cs,CrW m zs s bs i j c)/\(ZcG m zs s bs i j->cs≠[]) /\
  Y L Cs Zbr (some [18,6,10,17,4,3,16]) (G.length+7) (Zb0 G.length i j out) (ZbT m s bs v fz w S G out)=Y L Cs Zbr (some [18,6,10,17,4,3,16]) (G.length+7) (Zb0 G.length i (j+1) (out++cs)) (ZbT m s bs v true w' S G' (out++cs)):=by
 have h:=hF.full.qe;have hT1:=z56 s i hi;have hT2:=z56 s j hj;rw[ht1]at hT1;rw[ht2]at hT2;have hw:=zB (i:=j) (by omega);have hcj:(j:Int)<s.agents.length:=by omega
 have hb1:i<bs.length:=by omega
 have hb2:j<bs.length:=by omega
 obtain⟨c1,hl1,ha1,hn1,hL⟩:=Zen h s ⟨s.tick+1,bs,ins⟩ i j hi hj hb1 hb2 (hws _ (ja hi)) (hws _ (ja hj)) (hwb _ (ja hb1)) (hwb _ (ja hb2));obtain⟨zl,⟨hzl,hzn,hzw⟩,hZ⟩:=z6X hF s ⟨s.tick+1,bs,ins⟩ hbl i j hi hj (hws _ (ja hi)) (hws _ (ja hj)) (hwb _ (ja hb1)) (hwb _ (ja hb2));have hz2:=hF.zn2;have hta:(Zbn bs).take bs.length=Zbn bs:=z63 bs;have htk:(ZbD out).take out.length=ZbD out:=jE (by simp);have hE1:∀(H:Mem) (x:Option Blk) (N:Mem),(H++x::N)[H.length]?=some x:=fun H x N=>by simp
 have hEs:∀(H:Mem) (x y:Option Blk) (N:Mem),(H++x::N).set H.length y=H++y::N:=fun H x y N=>by rw[ky _ _ (jq _)];simp
 have jZ:(out.length+1)*64<=140737488355328:=by omega
 have AZ:out.length*64<=140737488355328:=by omega
 obtain⟨w',hw'⟩:∃w',w'=if fz=true then w else w+1:=⟨_,rfl⟩
 obtain⟨G',hS',hGl,hGe⟩:∃G',ZcF true ins S G'/\G'.length=G.length/\((S=.jd/\ins=[]/\G'=G)\/∃q u u',S=ZbW q ins/\q<G.length/\G[q]?=some (syF fz u ins)/\u'=(if fz=true then u else u+1)/\G'=G.set q (syF true u' ins)):=by
  cases hS with
  |nil hG=>exact⟨G,.nil hG,rfl,.inl ⟨rfl,rfl,rfl⟩⟩
  |own q u hq hG =>
   have hql:q<G.length:=by by_cases c:q<G.length;exact c;rw[jK (by omega)]at hq;cases hq
   refine⟨G.set q (syF true (if fz=true then u else u+1) ins),.own q _ (kg hql) ?_,by simp,.inr ⟨q,u,_,rfl,hql,hq,rfl,rfl⟩⟩;intro x hx;rcases qc hx with hx|rfl
   ·exact hG x hx
   ·exact fun n=>by simp[pbw,Blk.below]
 obtain⟨c2,hl2,ha2,h3⟩:=ZdM (m:=m) (s:=s) (bs:=bs) hil v w' i j zl (by omega) hS' zl.length 0 (out++c1) (by omega) (by simp;omega);refine⟨w',G',c1++c2,hGl,hS',by simp;omega,?_,?_,?_⟩
 ·intro c hc;rcases jt.1 hc with hc|hc
  ·obtain⟨e1,l,e2,e3,e4⟩:=ha1 c hc;refine⟨e1,fun x hx=>?_,by rw[e4];simp,fun hx hne=>⟨hi,hj,hb1,hb2,ht1,ht2,.inl ⟨l,e2,e3,?_⟩⟩⟩
   ·rw[e4]at hx;have hx:=jz.1 hx;unfold Zgf at hx;split at hx
    ·exact .inl hx
    ·exact .inr hx
   ·rw[e4]at hx;have hx:=jz.1 hx;unfold Zgf at hx;split at hx
    ·assumption
    ·omega
  ·refine⟨(ha2 c hc).1,(ha2 c hc).2.1,(ha2 c hc).2.2,fun _ _=>⟨hi,hj,hb1,hb2,ht1,ht2,.inr (hzw ?_)⟩⟩;rintro rfl;rw[js]at hl2;rw[jO.1 hl2]at hc;exact absurd hc (by simp)
 ·rintro⟨_,_,_,_,_,_,hx⟩ hn;have hn:=uG.1 hn;rcases hx with hx|hx
  ·exact hn1 hx hn.1
  ·refine hzn hx (jO.1 ?_);rw[<-hl2,hn.2];rfl
 obtain⟨hS1,hS2⟩:=hS'.at;have hEb:(Zb0 G'.length i (j+1) (out++(c1++c2))).all (fun x=>x.2.below (G'.length+7))=true:=by
  simp[AV.below,WV.below,WV.cells,Eng.below,uX]
 have hD:=Ze0 (m:=m) (s:=s) (bs:=bs) (v:=v) (w:=w') (fz:=true) (N:=[]) (out:=out++(c1++c2)) rfl hS1 hS2 hEb;have hD3:jN (G'.length+7) (ZcI G'.length zl i j 0 (out++c1)) (ZbT m s bs v true w' S G' (out++c1))=ZbT m s bs v true w' S G' (out++c1):=by
  unfold jN;rw[if_pos];simp
 have e7:G.length+1+1+1+1+1+1+1=G.length+7:=rfl;rw[hGl]at hD h3 hD3
 conv=>rhs;rw[<-hD]
 clear hD hEb hS1 hS2;rw[<-jF];simp only[ZcI,ZbT,agF,zf,snC,sl,own,Zb6,ZcD,jr,jg]at h3 hD3;simp only[zf,snC]at hT1 hT2 hL hZ;clear hS hS' hn1 hzn hzw ha1 ha2 hws hwb;rw[ZfM Zbr.eq_1];rcases hGe with⟨rfl,rfl,rfl⟩ |⟨q,u,u',rfl,hql,hq,rfl,rfl⟩
 ·simp only[show z2H []=[] from rfl]at hL hZ
  match c1,hl1 with
  |[],_ =>
   simp only[show ZbD []=[] from rfl]at hL;simp only[kN,js,kH]at h3 hD3;cases fz<;>simp only[jI,↓reduceIte]at hw'<;>subst hw'<;>simp (maxSteps:=1000000) [Zb0,ZbT,zf,snC,hj,hcj,hT1,hT2,hL,hZ,e7,hD3,h3,hw,hE1,hEs,hta,htk,jZ,AZ,hGl,agF,Zb6,own,jr,zg,zH,zX,-jN]
  |[c],_ =>
   have hsn:=Zcc out c;have C9:out.length+(c2.length+1)=out.length+1+c2.length:=by omega
   simp only[show ZbD [c]=[crC c] from rfl,crC]at hL;simp only[hsn,crC,jm,js,jH]at h3 hD3;cases fz<;>simp only[jI,↓reduceIte]at hw'<;>subst hw'<;>simp (maxSteps:=1000000) [Zb0,ZbT,zf,snC,hj,hcj,hT1,hT2,hL,hZ,e7,hD3,h3,hw,hE1,hEs,hta,htk,jZ,AZ,hGl,agF,Zb6,own,jr,zg,zH,zX,-jN,hsn,C9,crC]
  |_::_::_,hl1=>simp at hl1
 ·have hq':∀N:Mem,(G++N)[q]?=some (syF fz u ins):=fun N=>by rw[jw hql,hq]
  have v9:∀(N:Mem) (x:Option Blk),(G++N).set q x=G.set q x++N:=fun N x=>k9 _ _ hql
  have hq2:∀(N:Mem) (x:Option Blk),(G.set q x++N)[q]?=some x:=fun N x=>by rw[jw (by simpa using hql),kg hql]
  have CD:∀(z:Option Blk) (x:Option Blk) (N:Mem),(G.set q z++x::N)[G.length]?=some x:=fun z x N=>by
   simp
  have CB:∀(z:Option Blk) (x y:Option Blk) (N:Mem),(G.set q z++x::N).set G.length y=G.set q z++y::N:=fun z x y N=>by
   simp
  have hti:=z62 ins;simp only[syF]at hq';cases fz with
  |false =>
   simp only[jI,↓reduceIte]at hw' h3 hD3 ⊢;subst hw'
   match c1,hl1 with
   |[],_ =>
    simp only[show ZbD []=[] from rfl]at hL;simp only[kN,js,kH]at h3 hD3;simp (maxSteps:=1000000) [Zb0,ZbT,zf,snC,hj,hcj,hT1,hT2,hL,hZ,e7,hD3,h3,hw,hE1,hEs,CD,CB,hq',v9,hq2,hti,hta,htk,jZ,AZ,agF,syF,Zb6,own,jr,zg,zH,zX,-jN]
   |[c],_ =>
    have hsn:=Zcc out c;have C9:out.length+(c2.length+1)=out.length+1+c2.length:=by omega
    simp only[show ZbD [c]=[crC c] from rfl,crC]at hL;simp only[hsn,crC,jm,js,jH]at h3 hD3;simp (maxSteps:=1000000) [Zb0,ZbT,zf,snC,hj,hcj,hT1,hT2,hL,hZ,e7,hD3,h3,hw,hE1,hEs,CD,CB,hq',v9,hq2,hti,hta,htk,jZ,AZ,agF,syF,Zb6,own,jr,zg,zH,zX,-jN,hsn,C9,crC]
   |_::_::_,hl1=>simp at hl1
  |true =>
   have hself:G.set q (syF true u ins)=G:=by
    refine uV fun k=>?_
    by_cases c:k=q
    ·subst c;rw[kg hql,hq]
    ·rw[jJ (by omega)]
   simp only[↓reduceIte]at hw' h3 hD3 ⊢;rw[hself]at h3 hD3 ⊢;subst hw'
   match c1,hl1 with
   |[],_ =>
    simp only[show ZbD []=[] from rfl]at hL;simp only[kN,js,kH]at h3 hD3;simp (maxSteps:=1000000) [Zb0,ZbT,zf,snC,hj,hcj,hT1,hT2,hL,hZ,e7,hD3,h3,hw,hE1,hEs,CD,CB,hq',v9,hq2,hti,hta,htk,jZ,AZ,agF,syF,Zb6,own,jr,zg,zH,zX,-jN]
   |[c],_ =>
    have hsn:=Zcc out c;have C9:out.length+(c2.length+1)=out.length+1+c2.length:=by omega
    simp only[show ZbD [c]=[crC c] from rfl,crC]at hL;simp only[hsn,crC,jm,js,jH]at h3 hD3;simp (maxSteps:=1000000) [Zb0,ZbT,zf,snC,hj,hcj,hT1,hT2,hL,hZ,e7,hD3,h3,hw,hE1,hEs,CD,CB,hq',v9,hq2,hti,hta,htk,jZ,AZ,agF,syF,Zb6,own,jr,zg,zH,zX,-jN,hsn,C9,crC]
   |_::_::_,hl1=>simp at hl1
theorem ZcG.there{m:zD}{zs:List Zon}{s:SnV}{bs:List AgV}{i j:Nat}(h:ZcG m zs s bs i j)(hi:i<s.agents.length)(hj:j<s.agents.length):thA s.tick s.agents[i]=true/\thA s.tick s.agents[j]=true:=by
 obtain⟨_,_,_,_,h1,h2,_⟩:=h;exact⟨h1,h2⟩
theorem ZdI{m:zD}{zs:List Zon}{ss:List Sgn}(hF:z7y m zs ss){s:SnV}{bs:List AgV}{ins:List z2T}(hbl:bs.length=s.agents.length)(hil:ins.length<=1000){i:Nat}(hi:i<s.agents.length)(yz:s.agents.length<=8)(hws:∀a∈s.agents,WAg m a)(hwb:∀a∈bs,WAg m a)(v g:Nat){S:Cl}:∀(f j:Nat) (w:Nat) (fz:Bool) (out:List CrV) (G:Mem),G.length=g->j+f=s.agents.length->out.length+3*f+10<=1000->ZcF fz ins S G ->
  ∃(w':Nat) (fz':Bool) (G':Mem) (cs:List CrV),G'.length=g/\ZcF fz' ins S G'/\cs.length<=3*f/\(∀c∈cs,∃k,j<=k/\CrW m zs s bs i k c)/\(∀k,j<=k->k<s.agents.length->ZcG m zs s bs i k->cs≠[]) /\
  Y L Cs Zbr (some [18,6,10,17,4,3,16]) (g+7) (Zb0 g i j out) (ZbT m s bs v fz w S G out)=some (.exit 6,(133,.w (Bo false))::Zb0 g i s.agents.length (out++cs),ZbT m s bs v fz' w' S G' (out++cs)):=by
 intro f;induction f with
 |zero =>
  intro j w fz out G hg hj ho hS;obtain rfl:j=s.agents.length:=by omega
  refine⟨w,fz,G,[],hg,hS,by simp,by simp,fun k h1 h2=>by omega,?_⟩;rw[ZfM Zbr.eq_1];simp[Zb0,ZbT,snC]
 |succ f ih =>
  intro j w fz out G hg hj ho hS;have hjl:j<s.agents.length:=by omega
  by_cases ht:thA s.tick s.agents[i]=true/\thA s.tick s.agents[j]=true
  ·obtain⟨w1,G1,c1,g1,g2,g3,g4,g5,g6⟩:=ZdJ hF hbl hil hi hjl yz hws hwb ht.1 ht.2 v w fz out (by omega) hS;rw[hg]at g6;obtain⟨w2,fz2,G2,c2,k1,k2,k3,k4,k5,k6⟩:=ih (j+1) w1 true (out++c1) G1 (by omega) (by omega) (by simp;omega) g2;refine⟨w2,fz2,G2,c1++c2,k1,k2,by simp;omega,?_,?_,?_⟩
   ·intro c hc;rcases jt.1 hc with hc|hc
    ·exact⟨j,jq _,g4 c hc⟩
    ·obtain⟨k,h1,h2⟩:=k4 c hc;exact⟨k,by omega,h2⟩
   ·intro k h1 h2 h3 hn;have hn:=uG.1 hn;rcases qN h1 with e|e
    ·subst e;exact g5 h3 hn.1
    ·exact k5 k e h2 h3 hn.2
   ·rw[<-jF];exact g6.trans k6
  ·have hst:=ZdK hi hjl yz (by
    cases h1:thA s.tick s.agents[i]with
    |false=>exact .inl rfl
    |true =>
     cases h2:thA s.tick s.agents[j]with
     |false=>exact .inr rfl
     |true=>exact absurd ⟨h1,h2⟩ ht) v w fz (m:=m) (bs:=bs) out hS
   rw[hg]at hst;obtain⟨w2,fz2,G2,c2,k1,k2,k3,k4,k5,k6⟩:=ih (j+1) w fz out G hg (by omega) (by omega) hS;refine⟨w2,fz2,G2,c2,k1,k2,by omega,fun c hc=>(k4 c hc).imp fun k h=>⟨by omega,h.2⟩,?_,hst.trans k6⟩;intro k h1 h2 h3;rcases qN h1 with e|e
   ·subst e;exact absurd (h3.there hi hjl) ht
   ·exact k5 k e h2 h3
abbrev Zc2(g i:Nat)(out:List CrV):Env:=[(6,.w (Pt 2)),(10,.w (Pt 4)),(17,.w (W i)),(4,.w (Pt 1)),(3,.w (Pt 0)),(16,.w (.c (sl (g+6) 6 (ZbD out))))]
theorem ZdH{m:zD}{zs:List Zon}{ss:List Sgn}(hF:z7y m zs ss){s:SnV}{bs:List AgV}{ins:List z2T}(hbl:bs.length=s.agents.length)(hil:ins.length<=1000)(yz:s.agents.length<=7)(hws:∀a∈s.agents,WAg m a)(hwb:∀a∈bs,WAg m a)(v g:Nat){S:Cl}:∀(f i:Nat) (w:Nat) (fz:Bool) (out:List CrV) (G:Mem),G.length=g->i+f=s.agents.length->out.length+21*f+10<=1000->ZcF fz ins S G ->
  ∃(w':Nat) (fz':Bool) (G':Mem) (cs:List CrV),G'.length=g/\ZcF fz' ins S G'/\cs.length<=21*f/\(∀c∈cs,∃u k,u<k/\CrW m zs s bs u k c)/\(∀u k,i<=u->u<k->k<s.agents.length->ZcG m zs s bs u k->∃c∈cs,c.a=u) /\
  Y L Cs ZbK (some [6,10,17,4,3,16]) (g+7) (Zc2 g i out) (ZbT m s bs v fz w S G out)=some (.exit 4,(124,.w (Bo false))::Zc2 g s.agents.length (out++cs),ZbT m s bs v fz' w' S G' (out++cs)):=by
 intro f;induction f with
 |zero =>
  intro i w fz out G hg hi ho hS;obtain rfl:i=s.agents.length:=by omega
  refine⟨w,fz,G,[],hg,hS,by simp,by simp,fun u k h1 h2 h3=>by omega,?_⟩;rw[ZfM ZbK.eq_1];simp[Zc2,ZbT,snC]
 |succ f ih =>
  intro i w fz out G hg hi ho hS;have BD:i<s.agents.length:=by omega
  obtain⟨w1,fz1,G1,c1,g1,g2,g3,g4,g5,g6⟩:=ZdI hF hbl hil BD (by omega) hws hwb v g (s.agents.length-(i+1)) (i+1) w fz out G hg (by omega) (by omega) hS;obtain⟨w2,fz2,G2,c2,k1,k2,k3,k4,k5,k6⟩:=ih (i+1) w1 fz1 (out++c1) G1 g1 (by omega) (by simp;omega) g2;refine⟨w2,fz2,G2,c1++c2,k1,k2,by simp;omega,?_,?_,?_⟩
  ·intro c hc;rcases jt.1 hc with hc|hc
   ·obtain⟨k,h1,h2⟩:=g4 c hc;exact⟨i,k,by omega,h2⟩
   ·exact k4 c hc
  ·intro u k h1 h2 h3 h4;rcases qN h1 with e|e
   ·subst e;have:=g5 k h2 h3 h4;obtain⟨c,hc⟩:=List.exists_mem_of_ne_nil _ this;exact⟨c,j6 _ hc,(g4 c hc).choose_spec.2.1⟩
   ·obtain⟨c,hc,e2⟩:=k5 u k e h2 h3 h4;exact⟨c,kL _ hc,e2⟩
  ·rw[<-jF,<-k6];clear ih k6 k5 k4 g5 g4 k3 g3 hws hwb;have hw:=zB (i:=i) (by omega);have hci:(i:Int)<s.agents.length:=by omega
   have w1':=ku ((i:Int)+1);have hD1:jN (g+7) (Zb0 g i (i+1) out) (ZbT m s bs v fz w S G out)=ZbT m s bs v fz w S G out:=by
    unfold jN;rw[if_pos];simp;omega
   have hD2:jN (g+7) (Zc2 g (i+1) (out++c1)) (ZbT m s bs v fz1 w1 S G1 (out++c1))=ZbT m s bs v fz1 w1 S G1 (out++c1):=by
    unfold jN;rw[if_pos];simp;omega
   conv=>rhs;rw[<-hD2]
   clear hD2;have hgl:G.length=g:=hg;have e7:g+1+1+1+1+1+1+1=g+7:=rfl;have hcast:((i+1:Nat):Int)=(i:Int)+1:=by omega
   simp only[Zb0,ZbT,agF,zf,snC,sl,own,Zb6,ZcD,jr,hcast]at g6 hD1;rw[ZfM ZbK.eq_1];simp (maxSteps:=1000000) [Zc2,ZbT,agF,zf,snC,sl,own,Zb6,jr,BD,hci,hw,hgl,e7,hD1,g6,zg,zH,-jN]
theorem ZcL{n:Nat}{E:Env}{M:Mem}(h:M.length<=n):jN n E M=M:=by
 unfold jN;rw[if_pos h]
theorem ZdZ(ins:List z2T):∀x∈cpT ins,PB x:=by
 intro x hx;unfold cpT at hx;split at hx
 ·cases hx
 ·simp only[jz]at hx;subst hx;exact fun n=>by simp[pbw,Blk.below]
theorem ZbY.toq{n0:Nat}{out:List z2T}{S:Cl}{G:Mem}(h:ZbY n0 out S G):ZcF false out S G:=by
 cases h with
 |nil hG _=>exact .nil hG
 |own q hq hG _=>exact .own q _ hq hG
theorem Zd0{m:zD}{zs:List Zon}{ss:List Sgn}(hF:z7y m zs ss){s:SnV}(hs:KSn m s)(hc:z31 m s=0)(hl:s.agents.length<=7)(ht:s.tick<1099511627776)(jL:List Int)(hin:∀a∈jL,zk0 a) :
  ∃(bs:List AgV) (ins:List z2T) (cs:List CrV),bs.length=s.agents.length/\(∀(j:Nat) (h1:j<s.agents.length) (h2:j<bs.length),MvS m zs ss s.tick (jL.getD j 0) s.agents[j] bs[j])/\ZbX s.agents.length m.kr.length s.tick s.agents.length 0 ins/\cs.length<=200 /\
   (∀c∈cs,∃u k,u<k/\CrW m zs s bs u k c)/\(∀u k,u<k->k<s.agents.length->ZcG m zs s bs u k->∃c∈cs,c.a=u) /\
   R L Cs Zco [.a (zf m),.a (snC s),.c (.jc (zu jL))] []=some (.t [.a (snC ⟨s.tick+1,bs,ins⟩),.c (.jc (ZbD cs)),W 0],[]):=by
 have h:=hF.full.qe;have hC:=z5f h s hs;rw[hc]at hC;have hP:=Zeo s.tick s.agents hs.some hl s.ins hs.ins (fun a ha=>⟨((hs.ags a ha).on h).2.1,((hs.ags a ha).on h).2.2⟩);have hzn:m.kr.length=zs.length:=by rw[hF.full.zd.z];simp
 have hz2:=hF.zn2;obtain⟨bs,v1,w1,ins,S,G,hbl,hM,hS,hO,h2⟩:=ZdO hF hs hc hl jL hin ((cpT s.ins).length+6) s.agents.length 0 2 s.agents.length s.agents [] .jd (cpT s.ins) (by omega) rfl (fun j _ _ h=>absurd h (by omega)) (.nil (ZdZ _) rfl) ⟨List.Pairwise.nil,by simp,by simp,by simp,by simp⟩;have hil:ins.length<=1000:=by
  have h1:=hO.len;have:m.kr.length*s.agents.length<=2*7:=u5 (by omega) (by omega);omega
 have hwb:∀a∈bs,WAg m a:=by
  intro a ha;obtain⟨j,hj,e⟩:=qf ha;rw[<-e];exact(hM j (by omega) hj).wag
 obtain⟨w3,fz,G3,cs,hg3,hS3,hcl,hcw,hcr,h5⟩:=ZdH hF hbl hil hl hs.ags hwb (v1+1) G.length s.agents.length 0 w1 false [] G rfl (by omega) (by simp;omega) hS.toq;refine⟨bs,ins,cs,hbl,hM,hO,by omega,hcw,fun u k h1 h2 h3=>hcr u k (by omega) h1 h2 h3,?_⟩;have c1:(s.tick==1099511627776)=false:=beq_false_of_ne (by omega);have htick:=hs.tick;have hw:=ku (s.tick+1);have hta:(Zbn bs).take bs.length=Zbn bs:=z63 bs;have htc:(ZbD cs).take cs.length=ZbD cs:=jE (by simp);have hti:=z62 ins;have hE1:∀(x:Option Blk) (N:Mem),(G3++x::N)[G.length]?=some x:=fun x N=>by rw[<-hg3];simp
 have hEs:∀(x y:Option Blk) (N:Mem),(G3++x::N).set G.length y=G3++y::N:=fun x y N=>by rw[<-hg3,ky _ _ (jq _)];simp
 clear hO hM hcr hcw hwb;simp only[zf,snC]at hC hP;simp only[ZcO,ZbP,Zdk,zf,snC,jg]at h2;simp only[Zc2,ZbT,agF,zf,snC,sl,own,Zb6,ZcD,jg,jk,js,show ZbD []=[] from rfl]at h5;rw[zUa Zcr rfl];cases hS3 with
 |nil hG =>
  by_cases hi:s.ins=[]
  ·simp only[Zbs,cpT,hi,↓reduceIte,js,jH,show z2H []=[] from rfl]at hP hC h2 h5;cases fz<;>simp (maxSteps:=1000000) [ZbE,zf,snC,hC,hP,c1,hi,h2,hw,h5,ZcL,hta,htc,hE1,hEs,zg,zX,zH,-jN,show z2H []=[] from rfl]
  ·simp only[Zbs,cpT,hi,↓reduceIte,jm,js,jH,Nat.reduceAdd]at hP h2;cases fz<;>simp (maxSteps:=1000000) [ZbE,zf,snC,hC,hP,c1,hi,h2,hw,h5,ZcL,hta,htc,hE1,hEs,zg,zX,zH,-jN,show z2H []=[] from rfl]
 |own q u hq hG =>
  have hql:q<G3.length:=by by_cases c:q<G3.length;exact c;rw[jK (by omega)]at hq;cases hq
  have hq':∀N:Mem,(G3++N)[q]?=some (syF fz u ins):=fun N=>by rw[jw hql,hq]
  have v9:∀(N:Mem) (x:Option Blk),(G3++N).set q x=G3.set q x++N:=fun N x=>k9 _ _ hql
  have CD:∀(z:Option Blk) (x:Option Blk) (N:Mem),(G3.set q z++x::N)[G.length]?=some x:=fun z x N=>by
   have h0:(G3.set q z).length=G.length:=by simpa using hg3
   rw[<-h0];simp
  have CB:∀(z:Option Blk) (x y:Option Blk) (N:Mem),(G3.set q z++x::N).set G.length y=G3.set q z++y::N:=fun z x y N=>by
   have h0:(G3.set q z).length=G.length:=by simpa using hg3
   rw[<-h0,ky _ _ (jq _)];simp
  simp only[syF]at hq';by_cases hi:s.ins=[]
  ·simp only[Zbs,cpT,hi,↓reduceIte,js,jH,show z2H []=[] from rfl]at hP hC h2 h5;cases fz<;>simp (maxSteps:=1000000) [ZbE,zf,snC,hC,hP,c1,hi,h2,hw,h5,ZcL,hta,htc,hE1,hEs,zg,zX,zH,-jN,show z2H []=[] from rfl,hq',v9,CD,CB,hti]
  ·simp only[Zbs,cpT,hi,↓reduceIte,jm,js,jH,Nat.reduceAdd]at hP h2;cases fz<;>simp (maxSteps:=1000000) [ZbE,zf,snC,hC,hP,c1,hi,h2,hw,h5,ZcL,hta,htc,hE1,hEs,zg,zX,zH,-jN,show z2H []=[] from rfl,hq',v9,CD,CB,hti]
theorem Zck{m:zD}{s:SnV}{k:zci}:z4P m s k=true<->z31 m s=0/\zdf m k=0/\s.tick=k.tick/\z7p (s.agents.getD 0 z3O) k.ego=true/\∀(i:Nat) (hi:i<s.agents.length),0<i->thA s.tick s.agents[i]=true->Zd4 m k s.agents[i]:=by
 have key:(List.range s.agents.length).any (z4z m s k)=false<->∀(i:Nat) (hi:i<s.agents.length),0<i->thA s.tick s.agents[i]=true->Zd4 m k s.agents[i]:=by
  rw[kK];constructor
  ·intro h i hi h0 ht p hp;have:=h i (kP.2 hi);have hg:s.agents.getD i z3O=s.agents[i]:=by simp[hi]
   unfold z4z at this;rw[hg,ht,decide_eq_true h0,kq,kq,uC,kK]at this;have:=this p hp;unfold unc at this;simp only[uC,Bool.not_eq_false',jQ]at this;exact this
  ·intro h i hi;have hi:=kP.1 hi;have hg:s.agents.getD i z3O=s.agents[i]:=by simp[hi]
   unfold z4z;rw[hg];intro hb;simp only[jh,decide_eq_true_eq,jQ]at hb;obtain⟨⟨h0,ht⟩,p,hp,hu⟩:=hb;obtain⟨b,hb,hc⟩:=h i hi h0 ht p hp;unfold unc at hu;rw[kR,kK]at hu;exact hu b hb hc
 unfold z4P;simp only[jh,decide_eq_true_eq,kR];rw[key];constructor
 ·rintro⟨⟨⟨⟨a,b⟩,c⟩,d⟩,e⟩;exact⟨a,b,c,d,e⟩
 ·rintro⟨a,b,c,d,e⟩;exact⟨⟨⟨⟨a,b⟩,c⟩,d⟩,e⟩
theorem Zdg{m:zD}{zs:List Zon}{ss:List Sgn}(hf:zmq m zs ss){a:AgV}(ha:WAg m a):zaK m (z42 m a)=zaK m (a.jf.getD 0 0):=by
 obtain⟨x,t,er,hx,hxs,ht⟩:=Zb8 hf ha.jf;rcases ht with rfl |⟨y,rfl,hy,hyo,hys,hky⟩
 ·rw[(Zdh (m:=m) er).2.1,er];rfl
 ·obtain⟨a0s,a1s,a2,a3⟩:=ZcN (m:=m) er;rw[er];show _=zaK m x;by_cases hc:z8 m x<=a.s
  ·rw[(a2 hc).2,hky]
  ·rw[(a3 (by omega)).2]
theorem ZdX{n nz:Nat}{tick:Int}{i z:Nat}{ins:List z2T}(h:ZbX n nz tick i z ins):((List.range ins.length).any (z5F n nz ins))=false/\ins.any (zIY (tick+1))=false:=by
 constructor
 ·rw[kK];intro j hj hb;have hj:=kP.1 hj;have hg:ins.getD j z3A=ins[j]:=by simp[hj]
  have hr:=h.rng _ (ja hj);unfold z5F at hb;rw[hg]at hb;simp only[qd,decide_eq_true_eq]at hb;rcases hb with(((hb|hb)|hb)|hb)|hb
  ·omega
  ·omega
  ·omega
  ·omega
  ·cases j with
   |zero=>exact absurd hb (by simp)
   |succ j =>
    have hp:=ug.1 h.asc j (j+1) (by omega) hj (by omega);have hg2:ins.getD j z3A=ins[j]:=by simp[show j<ins.length by omega]
    have hg3:ins.getD (j+1) z3A=ins[j+1]:=by simp[hj]
    simp only[hg2,hg3]at hb;unfold z7a at hb;unfold ltI at hp;simp only[qd,jh,decide_eq_true_eq]at hb;omega
 ·rw[kK];intro x hx hb;have:=h.val x hx;unfold zIY at hb;simp only[qd,decide_eq_true_eq]at hb;omega
structure CnI(m:zD)(sg:Bool)(i:Nat)(s:SnV)(k:zci):Prop where
 ks:KSn m s
 few:s.agents.length<=7
 cov:z4P m s k=true
 tick:s.tick=i
 free:∀h:0<s.agents.length,s.agents[0].uZ=false
 all:sg=true->∀(j:Nat) (hj:j<s.agents.length),0<j->s.agents[j].uZ=true
 apart:∀(j:Nat) (h0:0<s.agents.length) (hj:j<s.agents.length),0<j->thA s.tick s.agents[j]=true->ZbU m s.agents[0] s.agents[j]=false
 hold:sg=true->∀(j:Nat) (hj:j<s.agents.length),0<j->thA s.tick s.agents[j]=true->ZdG m k s.agents[j]
 shi:k.ego.shi<=9000000+2000*i
theorem Zd7{t:Int}{a:AgV}(h1:a.start<=t)(h2:a.gone=false):thA t a=true:=by
 unfold thA;simp[h1,h2]
theorem Zeh{m:zD}{zs:List Zon}{ss:List Sgn}(hf:zmq m zs ss)(hz:m.kr.length<=2){s:SnV}(hs:KSn m s)(hc:z31 m s=0)(hl:s.agents.length<=7)(ht:s.tick<1099511627776){jL:List Int}{bs:List AgV}{ins:List z2T}(hbl:bs.length=s.agents.length)(hM:∀(j:Nat) (h1:j<s.agents.length) (h2:j<bs.length),MvS m zs ss s.tick (jL.getD j 0) s.agents[j] bs[j])(hO:ZbX s.agents.length m.kr.length s.tick s.agents.length 0 ins) :
  KSn m ⟨s.tick+1,bs,ins⟩/\z31 m ⟨s.tick+1,bs,ins⟩=0/\(∀(j:Nat) (h1:j<s.agents.length) (h2:j<bs.length),bs[j].start=s.agents[j].start/\bs[j].jf=s.agents[j].jf/\bs[j].len=s.agents[j].len/\bs[j].uZ=s.agents[j].uZ):=by
 have Ao:∀(j:Nat) (h1:j<s.agents.length) (h2:j<bs.length),bs[j].start=s.agents[j].start/\bs[j].jf=s.agents[j].jf/\bs[j].len=s.agents[j].len/\bs[j].uZ=s.agents[j].uZ:=by
  intro j h1 h2;have h:=hM j h1 h2;cases hth:thA s.tick s.agents[j]with
  |true =>
   have:=(h.here hth).1;exact⟨this.start,this.jf,this.len,this.uZ⟩
  |false=>rw[h.Da hth];exact⟨rfl,rfl,rfl,rfl⟩
 have htk:=hs.tick;have hwb:∀a∈bs,WAg m a:=by
  intro a ha;obtain⟨j,hj,e⟩:=qf ha;rw[<-e];exact(hM j (by omega) hj).wag
 refine⟨⟨by simp only;omega,hwb,?_,by simp only;omega,by have:=hs.some;simp only;omega,?_,?_⟩,?_,Ao⟩
 ·intro a ha hlt;obtain⟨j,hj,e⟩:=qf ha;simp only at hj hlt;have hjs:j<s.agents.length:=by omega
  have h1:=Ao j hjs hj;have e:bs[j]=a:=e;rw[<-e]at hlt ⊢;have haw:thA s.tick s.agents[j]=false:=by
   cases hth:thA s.tick s.agents[j]with
   |false=>rfl
   |true =>
    have:=(ZcK hth).2;omega
  rw[(hM j hjs hj).Da haw];exact hs.lat _ (ja hjs) (by omega)
 ·show(bs[0]'_).start=0;rw[(Ao 0 hs.some (by have:=hs.some;omega)).1];exact hs.first
 ·have h1:=hO.len;have:m.kr.length*s.agents.length<=2*7:=u5 (by omega) (by omega);simp only;omega
 ·obtain⟨i1,i2⟩:=ZdX hO;have hag:bs.any (fun a=>decide (z3z m a≠0))=false:=by
   rw[kK];intro a ha;obtain⟨j,hj,e⟩:=qf ha;have hjs:j<s.agents.length:=by omega
   have hwa:=hs.ags _ (ja hjs);have hv:=ZcX hc _ (ja hjs);have hwj:=hwb a ha;have hb:0<=a.v/\a.v<=zeR (zaK m (z42 m a)):=by
    rw[<-e]at hwj ⊢;have h:=hM j hjs hj;cases hth:thA s.tick s.agents[j]with
    |false=>rw[h.Da hth];exact hv
    |true =>
     have hm:=(h.here hth).1;have h1:=hm.pos;have h2:=hm.hi.2;rw[Zdg hf hwa]at h2;rw[Zdg hf hwj,hm.jf];exact⟨h1,h2⟩
   unfold z3z;rw[if_pos hb];simp
  unfold z31;simp only[hag,hbl,i1,i2,jI,↓reduceIte]
theorem ZeT{m:zD}{zs:List Zon}{ss:List Sgn}(hf:zmq m zs ss){a0 a0':AgV}{k:zci}{act tick:Int}(ha:WAg m a0)(hob:a0.uZ=false)(hM:MvS m zs ss tick act a0 a0')(hth:thA tick a0=true)(hego:z7p a0 k.ego=true) :
  Zd2 m a0.jf a0.len a0 a0' k (zaN m a0.jf k.ego act)/\z7p a0' (zaN m a0.jf k.ego act)=true:=by
 obtain⟨hm,hv⟩:=hM.here hth;have hv:=hv hob;rw[Zdg hf ha]at hv;have hv:a0'.v=zcD m a0.jf act a0.v:=hv;unfold z7p at hego ⊢;simp only[jh,decide_eq_true_eq]at hego ⊢;have m1:=zEJ m a0.jf act hego.2.1;have m2:=zEJ m a0.jf act hego.2.2;have hs:=hm.s;have hp:=hm.pos;have hl:=ha.len;unfold zaN;simp only;refine⟨⟨rfl,ha.jf,rfl,hm.len,by omega,by omega,by omega,by omega,by simp only;omega,by simp only;omega⟩,by omega⟩
theorem ZeV{m:zD}{zs:List Zon}{ss:List Sgn}(hF:z7y m zs ss)(hmz:Zcv m zs){sg:Bool}{i:Nat}(hi:i<=100){s:SnV}{k:zci}(hI:CnI m sg i s k)(qs:0<s.agents.length){jL:List Int}{bs:List AgV}{ins:List z2T}(hbl:bs.length=s.agents.length)
  (hM:∀(j:Nat) (h1:j<s.agents.length) (h2:j<bs.length),MvS m zs ss s.tick (jL.getD j 0) s.agents[j] bs[j]) (hO:ZbX s.agents.length m.kr.length s.tick s.agents.length 0 ins)
  (hcr:∀j,0<j->j<s.agents.length->¬ZcG m zs s bs 0 j) (hto:∀(j:Nat) (h0:0<bs.length) (hj:j<bs.length),0<j->thA (s.tick+1) bs[j]=true->ZbU m bs[0] bs[j]=false)
  (hlen:1<=s.agents[0].s-s.agents[0].len) (A6:s.agents[0].gone=false) :
  zm6 m s.agents[0].jf s.agents[0].len k (jL.getD 0 0)=0/\CnI m sg (i+1) ⟨s.tick+1,bs,ins⟩ (zpg m zs ss s.agents[0].jf s.agents[0].len k (zaN m s.agents[0].jf k.ego (jL.getD 0 0)) sg):=by
 have hf:=hF.full;have h:=hf.qe;have hs:=hI.ks;have htk:=hI.tick;have hzl:m.kr.length<=2:=by rw[hf.zd.z];have:=hF.zn2;simp;exact this
 obtain⟨q1,q2,q3,q4,q5⟩:=Zck.1 hI.cov;have hb0:0<bs.length:=by omega
 obtain⟨t1,t2,t3⟩:=Zeh hf hzl hs q1 hI.few (by omega) hbl hM hO;have ha0:=hs.ags _ (ja qs);have hg0:s.agents.getD 0 z3O=s.agents[0]:=by simp[qs]
 rw[hg0]at q4;have Cc:=hs.first;have BA:thA s.tick s.agents[0]=true:=Zd7 (by omega) A6;obtain⟨ho,he⟩:=ZeT hf ha0 (hI.free qs) (hM 0 qs hb0) BA q4;have hr:=ha0.jf;have hl:=ha0.len;have hshi:=hI.shi;have hsp:(zaN m s.agents[0].jf k.ego (jL.getD 0 0)).shi<=k.ego.shi+2000:=by
  obtain⟨x,t,er,hx,_,_⟩:=Zb8 hf hr;have:=zge h t hx (jL.getD 0 0) k.ego.vhi;rw[<-er]at this;unfold zaN;simp only;omega
 have hE:zm6 m s.agents[0].jf s.agents[0].len k (jL.getD 0 0)=0:=by
  unfold zm6;rw[if_pos q2,if_pos hr,if_pos ⟨hl,by omega,by omega⟩]
 have hK:=zEH hf hr s.agents[0].len k (jL.getD 0 0) sg q2 (by omega) (by omega);have hvb:=zxJ h q2;have Cj:0<=zfx s.agents[0].len (zaN m s.agents[0].jf k.ego (jL.getD 0 0)):=by
  have e1:=ho.eh;have e2:=ho.go;unfold zfx;omega
 have hr0:bs[0].jf=s.agents[0].jf:=(t3 0 qs hb0).2.1;generalize hee:zaN m s.agents[0].jf k.ego (jL.getD 0 0)=e at *;have hag:∀(j:Nat) (hj:j<bs.length),0<j->thA (s.tick+1) bs[j]=true->Zd4 m (zpg m zs ss s.agents[0].jf s.agents[0].len k e sg) bs[j]/\(sg=true->ZdG m (zpg m zs ss s.agents[0].jf s.agents[0].len k e sg) bs[j]):=by
  intro j hj hj0 hth;have hjs:j<s.agents.length:=by omega
  have ha:=hs.ags _ (ja hjs);have hMj:=hM j hjs hj;refine Zei hf ho hr0 hvb sg hK hMj.wag (hto j hb0 hj hj0 hth) ?_;intro p hp o h1 h2;cases hts:thA s.tick s.agents[j]with
  |true =>
   obtain⟨hm,_⟩:=hMj.here hts;have hnc:=hcr j hj0 hjs;rw[q3]at hm;refine ZeS hf hmz ho hvb (fun l hl=>?_) (fun z hz=>?_) (hI.apart j qs hjs hj0 hts) ha sg (fun hsg=>hI.all hsg j hjs hj0) hm (q5 j hjs hj0 hts) (fun hsg=>hI.hold hsg j hjs hj0 hts) hp h1 h2
   ·cases hc:lnB m s.agents[0] s.agents[j] bs[0] bs[j] l with
    |false=>rfl
    |true=>exact absurd ⟨qs,hjs,hb0,hj,BA,hts,.inl ⟨l,hl,hc⟩⟩ hnc
   ·cases hc:ZcH m zs s.agents[0] s.agents[j] bs[0] bs[j] z with
    |false=>rfl
    |true=>exact absurd ⟨qs,hjs,hb0,hj,BA,hts,.inr ⟨z,hz,hc⟩⟩ hnc
  |false =>
   have hab:=hMj.Da hts;rw[hab]at hth hp ⊢;obtain⟨g1,g2⟩:=ZcK hth;have hlt:s.tick<s.agents[j].start:=by
    apply kO;intro hc;have:=Zd7 (t:=s.tick) (a:=s.agents[j]) (by omega) g1;rw[hts]at this;exact absurd this (by decide)
   exact ZeU hf Cj sg ha (hs.lat _ (ja hjs) hlt) (ZcX q1 _ (ja hjs)) hp h1 h2
 refine⟨hE,⟨t1,by have:=hI.few;simp only;omega,?_,by simp only;omega,?_,?_,?_,?_,?_⟩⟩
 ·refine Zck.2 ⟨t2,hK,?_,?_,?_⟩
  ·show s.tick+1=k.tick+1;omega
  ·show z7p (bs.getD 0 z3O) e=true;have:bs.getD 0 z3O=bs[0]:=by simp[hb0]
   rw[this];exact he
  ·intro j hj hj0 hth;exact(hag j hj hj0 hth).1
 ·intro _;show(bs[0]'_).uZ=false;rw[(t3 0 qs hb0).2.2.2];exact hI.free qs
 ·intro hsg j hj hj0;simp only at hj ⊢;rw[(t3 j (by omega) hj).2.2.2];exact hI.all hsg j (by omega) hj0
 ·intro j h0 hj hj0 hth;exact hto j h0 hj hj0 hth
 ·intro hsg j hj hj0 hth;exact(hag j hj hj0 hth).2 hsg
 ·show e.shi<=9000000+2000*((i+1:Nat):Int);omega
theorem ZgB{m:zD}{r:List Int}{bar:Int}{b:zk}{lo hi:Int}{cap:Bool}{o:Int}(h0:0<=o)(h1:lo<=o)(h2:o<=hi)(h3:o<=z8 m b.lane)(hc:cap=false\/zgo r b.lane=none) :
  ∃z∈zbA m r bar b lo hi cap,z.1.lane=b.lane/\z.1.lo<=o/\o<=z.1.hi/\z.2=false:=by
 have ht:zcj m r bar b.lane hi cap=min hi (z8 m b.lane):=by
  unfold zcj;rcases hc with rfl|hc
  ·cases zgo r b.lane with
   |none=>rfl
   |some i=>simp
  ·rw[hc]
 have qV:zcV r b.lane cap=false:=by
  unfold zcV;rcases hc with rfl|hc
  ·rfl
  ·rw[hc];simp
 refine⟨(zhO m r bar b lo hi cap,zcV r b.lane cap),?_,rfl,?_,?_,qV⟩
 ·unfold zbA;rw[if_pos ?_]
  ·simp
  ·unfold stays;have e1:lo<=z8 m b.lane:=by omega
   have e2:max 0 lo<=zcj m r bar b.lane hi cap:=by omega
   rw[decide_eq_true e1,decide_eq_true e2];rfl
 ·show max 0 lo<=o;omega
 ·show o<=zcj m r bar b.lane hi cap;omega
theorem ZgS{m:zD}{zs:List Zon}{ss:List Sgn}(hf:zmq m zs ss){a a':AgV}{k:zci}(hm:Mvd m (zeA zs ss (z42 m a) k.tick) a a')(sg:Bool)(hob:sg=true->a.uZ=true){x st:Int}(hx:0<=x/\x<m.je.length)(hkx:zaK m x=zaK m (z42 m a))
  (hfr:st<=a.s->a.s<st+z8 m x->z42 m a=x/\jU m a.jf (z4R m a)=st) {b:zk} (hb:VB m b) (hl:b.lane=x) (hp:max 0 (a.s-a.len-st)<=min (a.s-st) (z8 m x)) (h1:b.lo<=max 0 (a.s-a.len-st)) (h2:min (a.s-st) (z8 m x)<=b.hi) (hv1:b.vlo<=a.v) (hv:a.v<=b.vhi)
  (hh:sg=true->b.lane=z42 m a->b.lo<=frF m a->frF m a<=b.hi->b.hold=0\/frF m a+zet a.v (zd4 (zaK m (z42 m a)))<b.hold) :
  (mvF m zs ss k sg b).lo<=(mvF m zs ss k sg b).hi/\(min (a'.s-st) (z8 m x)<=(mvF m zs ss k sg b).hi)/\(a.s-st<=z8 m x->a'.s-st<=(mvF m zs ss k sg b).hi)/\(z8 m x<=a.s-st->z8 m x+a'.v<=(mvF m zs ss k sg b).hi):=by
 obtain⟨e1,e2,e3,e4,e5⟩:=Zc6 m zs ss k sg b;obtain⟨s1,s2⟩:=Zdm hm (by rw[hl];exact hkx) hv1 hv;have hs:=hm.s;have hlo:=hb.lo;have qI:=hm.pos;have hst:=zVc (BQ (zu9 hf.qe hx)).1 a'.v.toNat a'.v (by omega);have hup:(mvF m zs ss k sg b).lo<=b.lo+a'.v:=by
  rw[e2];split<;>omega
 rcases e5 with⟨f1,f2⟩ |⟨hsg,line,f1,f2,f3,f4⟩
 ·rw[f1];omega
 ·obtain⟨l1,l2⟩:=ZdD hf hm (hob hsg) hx hfr hb hl hp h1 h2 hv (hh hsg) f1 f2;have hbl:b.hi<line:=by
   unfold zcY at f2;simp only[jh,decide_eq_true_eq]at f2;exact f2.1
  rw[f3];omega
theorem Zg0{m:zD}{zs:List Zon}{ss:List Sgn}{r:List Int}{len:Int}{k:zci}{e:Ego}{sg:Bool}{c:zk}(hc:c∈zkr m k.ego len r k.jV){z:LB}(hz:z∈zn0 m zs ss r (zfx len e) e.slo len k sg c):zlJ z∈zfV m zs ss r len k e sg:=by
 unfold zfV zhM;exact kQ.2 ⟨c,hc,kJ.2 ⟨z,hz,rfl⟩⟩
theorem Zgd{m:zD}{zs:List Zon}{ss:List Sgn}{r:List Int}{len:Int}{k:zci}{e:Ego}{sg:Bool}{x:Int}{b:zk}(hc:b∈zkr m k.ego len r k.jV)(hl:b.lane=x){o:Int}(h0:0<=o)(hon:o<=z8 m x)(h1:b.lo<=o)(hle:(mvF m zs ss k sg b).lo<=(mvF m zs ss k sg b).hi)(h2:o<=(mvF m zs ss k sg b).hi)
  (qV:zfP m r len k b=false\/zgo r x=none):∃s∈zfV m zs ss r len k e sg,s.lane=x/\s.lo<=o/\o<=s.hi/\s.cap=false:=by
 obtain⟨e1,_⟩:=Zc6 m zs ss k sg b;obtain⟨z,hz,z1,z2,z3,z4⟩:=ZgB (m:=m) (r:=r) (bar:=zfx len e) (b:=mvF m zs ss k sg b) (lo:=b.lo) (hi:=(mvF m zs ss k sg b).hi) (cap:=zfP m r len k b) h0 h1 h2 (by rw[e1,hl];exact hon) (by rw[e1,hl];exact qV);refine⟨zlJ z,Zg0 hc ?_,by rw[<-hl,<-e1];exact z1,z2,z3,z4⟩;unfold zn0;rw[if_pos hle];unfold zlZ;exact j6 _ hz
theorem ZgA{m:zD}{zs:List Zon}{ss:List Sgn}{r:List Int}{len:Int}{k:zci}{e:Ego}{sg:Bool}{x y:Int}(hy:y∈zS m x){b:zk}(hc:b∈zkr m k.ego len r k.jV)(hl:b.lane=x){o:Int}(h0:0<=o)(hon:o<=z8 m y)(h1:b.lo<=z8 m x)(hle:(mvF m zs ss k sg b).lo<=(mvF m zs ss k sg b).hi)(h2:o+z8 m x<=(mvF m zs ss k sg b).hi)
  (qV:zhq m r e.slo x y (zfP m r len k b)=false\/zgo r y=none):∃s∈zfV m zs ss r len k e sg,s.lane=y/\s.lo<=o/\o<=s.hi/\s.cap=false:=by
 obtain⟨e1,_⟩:=Zc6 m zs ss k sg b;obtain⟨z,hz,z1,z2,z3,z4⟩:=ZgB (m:=m) (r:=r) (bar:=zfx len e) (b:=za6 (mvF m zs ss k sg b) y) (lo:=b.lo-z8 m x) (hi:=(mvF m zs ss k sg b).hi-z8 m x) (cap:=zhq m r e.slo x y (zfP m r len k b)) h0 (by omega) (by omega) hon qV;refine⟨zlJ z,Zg0 hc ?_,z1,z2,z3,z4⟩;unfold zn0;rw[if_pos hle];unfold zlZ;refine kL _ ?_;rw[e1,hl,if_neg (by omega),kQ];refine⟨y,hy,?_⟩;unfold zg3;rw[e1,hl];exact hz
theorem Zgs{m:zD}{zs:List Zon}{ss:List Sgn}(hf:zmq m zs ss){a:AgV}(ha:WAg m a){j:Nat}(hj:j<a.jf.length):(jU m a.jf j<=a.s->a.s<jU m a.jf j+z8 m a.jf[j]->z42 m a=a.jf[j]/\jU m a.jf (z4R m a)=jU m a.jf j)/\(a.jf[j]=z42 m a->frF m a=a.s-jU m a.jf j)/\zaK m a.jf[j]=zaK m (z42 m a)/\(0<=a.jf[j]/\a.jf[j]<m.je.length):=by
 obtain⟨x,t,er,hx,hxs,ht⟩:=Zb8 hf ha.jf;have hon:=(ha.on hf.qe).1 _ (ja hj);rw[Zdg hf ha];rcases ht with rfl |⟨y,rfl,hy,hyo,hys,hky⟩
 ·obtain⟨a1,a2,a3⟩:=Zdh (m:=m) er;obtain rfl:j=0:=by rw[er]at hj;simp at hj;exact hj
  have ex:a.jf[0]=x:=by simp[er]
  refine⟨fun _ _=>⟨by rw[a2,ex],by rw[a1]⟩,fun _=>by unfold frF;rw[a1],by rw[ex,er];rfl,hon⟩
 ·obtain⟨a0s,a1s,a2,a3⟩:=ZcN (m:=m) er;have hxy:x≠y:=fun h=>hys (h ▸ hxs)
  have j01:j=0\/j=1:=by rw[er]at hj;simp at hj;omega
  rcases j01 with rfl|rfl
  ·have ex:a.jf[0]=x:=by simp[er]
   refine⟨fun g1 g2=>?_,fun hon=>?_,by rw[ex,er];rfl,hon⟩
   ·rw[a0s,ex]at g2;exact⟨by rw[(a3 (by omega)).2,ex],by rw[(a3 (by omega)).1]⟩
   ·by_cases hc:z8 m x<=a.s
    ·exact absurd ((ex.symm.trans hon).trans (a2 hc).2) hxy
    ·unfold frF;rw[(a3 (by omega)).1]
  ·have ex:a.jf[1]=y:=by simp[er]
   refine⟨fun g1 g2=>?_,fun hon=>?_,by rw[ex,er];exact hky,hon⟩
   ·rw[a1s]at g1;exact⟨by rw[(a2 g1).2,ex],by rw[(a2 g1).1]⟩
   ·by_cases hc:z8 m x<=a.s
    ·unfold frF;rw[(a2 hc).1]
    ·exact absurd ((a3 (by omega)).2.symm.trans (hon.symm.trans ex)) hxy
theorem ZfT{m:zD}{zs:List Zon}{ss:List Sgn}(hf:zmq m zs ss){r:List Int}{len:Int}{a0 a a0' a':AgV}{k:zci}{e:Ego}(ho:Zd2 m r len a0 a0' k e)(hvb:∀b∈k.jV,VB m b)(hto:ZbU m a0 a=false)
  (ha:WAg m a) (sg:Bool) (hob:sg=true->a.uZ=true) (hm:Mvd m (zeA zs ss (z42 m a) k.tick) a a') (hc:Zd4 m k a) (hh:sg=true->ZdG m k a) {j:Nat} (hj:j<a.jf.length)
  (hp:max 0 (a.s-a.len-jU m a.jf j)<=min (a.s-jU m a.jf j) (z8 m a.jf[j])) :
  (∀(i:Nat) (hi:i<r.length),r[i]=a.jf[j]->Zcy m a0 a (jU m r i) (jU m a.jf j) (z8 m a.jf[j])) /\
  ∃c∈zkr m k.ego len r k.jV,VB m c/\c.lane=a.jf[j]/\c.lo<=max 0 (a.s-a.len-jU m a.jf j)/\min (a.s-jU m a.jf j) (z8 m a.jf[j])<=c.hi /\
   (mvF m zs ss k sg c).lo<=(mvF m zs ss k sg c).hi/\(min (a'.s-jU m a.jf j) (z8 m a.jf[j])<=(mvF m zs ss k sg c).hi)/\(a.s-jU m a.jf j<=z8 m a.jf[j]->a'.s-jU m a.jf j<=(mvF m zs ss k sg c).hi):=by
 obtain⟨hfr,hfr2,hk,hon⟩:=Zgs hf ha hj;have hl0':0<=a0.len:=by have:=ho.ln;have:=ho.l0;omega
 have hA:∀(i:Nat) (hi:i<r.length),r[i]=a.jf[j]->Zcy m a0 a (jU m r i) (jU m a.jf j) (z8 m a.jf[j]):=by
  intro i hi hE;have:=ZcU hto (i:=i) (j:=j) (by rw[ho.rt];exact hi) hj (by simp only[ho.rt];exact hE) hl0' hp;rw[ho.rt]at this;exact this
 obtain⟨b,hb,c,hcm,cv,c1,c2,c3,c4,c5,b1,b2,b3,b4⟩:=ZcA hvb ho hc hj rfl rfl hp hA;obtain⟨g1,g2,g3,_⟩:=ZgS hf hm sg hob hon hk hfr cv c1 hp c2 c3 c4 c5 (fun hsg hl d1 d2=>by
  have hf1:=hfr2 (by rw[<-c1];exact hl);have hv1:=cv.hi;rw[c1]at hv1;rw[b4];exact hh hsg b hb (by rw[b1,<-c1];exact hl) (by omega) (by omega))
 exact⟨hA,c,hcm,cv,c1,c2,c3,g1,g2,g3⟩
theorem ZfS{l:List Int}{x:Int}{i:Nat}(h:Zb5 l x=some i):∃hi:i<l.length,l[i]=x:=zfT h
theorem ZgH{m:zD}{zs:List Zon}(hmz:Zcv m zs){r:List Int}{len:Int}{a0 a a0' a':AgV}{k:zci}{e:Ego}(ho:Zd2 m r len a0 a0' k e)(hzn:∀z,z<zs.length->ZcH m zs a0 a a0' a' z=false)
  {p q x:Int} (er:r=[p,q]) (hr:a.jf=[x,q]) (hp0:0<=p) (hx0:0<=x) (hpx:p≠x) (hq:q∈zS m p) (hxq:q∈zS m x) (hslo:z8 m p<=e.slo) (h1:a.s-a.len<=z8 m x) (h2:z8 m x<=a'.s):z8 m p<a0.s-a0.len:=by
 obtain⟨z,hz,⟨P,hP,P1,P2,P3⟩,hZp,hZx⟩:=hmz p x q hp0 hx0 hpx hq hxq;have e8:=ho.el;have hnz:=hzn z hz;have hpa:=Zdl (m:=m) (b:=a') hr hz hP P1 P2 (by omega) (by omega);apply kO;intro hc;have hpo:=Zdl (m:=m) (b:=a0') (by rw[ho.rt,er]) hz hP P1 P2 (by omega) (by omega);have hgz:zs.getD z Zde=zs[z]:=by simp[hz]
 unfold ZcH at hnz;rw[hpa,hpo,hgz,ho.rt,er,hr,Zda hZp,Zda hZx]at hnz;simp at hnz;exact hpx hnz
theorem ZgY{m:zD}{zs:List Zon}{ss:List Sgn}(hf:zmq m zs ss)(hmz:Zcv m zs){r:List Int}{len:Int}{a0 a a0' a':AgV}{k:zci}{e:Ego}(ho:Zd2 m r len a0 a0' k e)(h00:0<=a0.s)(hvb:∀b∈k.jV,VB m b)
  (hzn:∀z,z<zs.length->ZcH m zs a0 a a0' a' z=false) (hto:ZbU m a0 a=false)
  (ha:WAg m a) (sg:Bool) (hob:sg=true->a.uZ=true) (hm:Mvd m (zeA zs ss (z42 m a) k.tick) a a') (hc:Zd4 m k a) (hh:sg=true->ZdG m k a)
  (hap:∀s∈zfV m zs ss r len k e sg,apP m r e.shi s=false) {l:Nat} (hl:l<m.je.length) (h1:(Zb5 a0.jf l).isSome=true) (h2:(Zb5 a.jf l).isSome=true)
  (hw:a0.s-ZbS m a0.jf l<a.s-ZbS m a.jf l) (hf0:0<=a0'.s-ZbS m a0.jf l) (hg:0<=a'.s-ZbS m a.jf l) (CL:a0.s-ZbS m a0.jf l-a0.len<=z8 m l) (Bn:a'.s-ZbS m a.jf l-a'.len<=z8 m l) (Cx:a'.s-ZbS m a.jf l-a'.len<=a0'.s-ZbS m a0.jf l):False:=by
 obtain⟨i0,hi0⟩:=qz.1 h1;obtain⟨j,hj0⟩:=qz.1 h2;obtain⟨hil,hix⟩:=ZfS hi0;obtain⟨hjl,hjx⟩:=ZfS hj0;have ex:ZbS m a0.jf l=jU m r i0:=by rw[<-ho.rt];exact(ZbZ (show zgo a0.jf l=some i0 from hi0)).1
 have ey:ZbS m a.jf l=jU m a.jf j:=(ZbZ (show zgo a.jf l=some j from hj0)).1;rw[ex]at hw hf0 CL Cx;rw[ey]at hw hg Bn Cx;have hri:zgo r l=some i0:=by rw[<-ho.rt];exact hi0
 have hlo:0<=(l:Int)/\(l:Int)<m.je.length:=⟨by omega,by omega⟩;have hnl:=zcX hf.qe hlo;have hs:=hm.s;have qI:=hm.pos;have hln':=hm.len;have hla:=ha.len;have e1:=ho.sl;have e2:=ho.sh;have e3:=ho.ln;have e4:=ho.eh;have e5:=ho.go;have e7:=ho.l0;have hl0':0<=a0.len:=by omega
 have no:∀o,o<=a0'.s-jU m r i0->¬∃s∈zfV m zs ss r len k e sg,s.lane=(l:Int)/\s.lo<=o/\o<=s.hi/\s.cap=false:=by
  rintro o ho1 ⟨s,hsm,s1,s2,s3,s4⟩;have:=hap s hsm;unfold apP at this;rw[s1,hri,s4]at this;simp at this;omega
 have hirl:i0<r.length:=by rw[<-ho.rt];exact hil
 have hirx:r[i0]=(l:Int):=by simp only[<-ho.rt];exact hix
 obtain⟨x,t,er,hx,hxs,ht⟩:=Zb8 hf ha.jf;have hs0:=ha.s.1;by_cases hp:max 0 (a.s-a.len-jU m a.jf j)<=min (a.s-jU m a.jf j) (z8 m l)
 ·
  obtain⟨free,c,hcm,cv,c1,c2,c3,g1,g2,_⟩:=ZfT hf ho hvb hto ha sg hob hm hc hh hjl (by rw[hjx];exact hp);rw[hjx]at c1 c3 g2;have hA:=free i0 hirl (by rw[hirx,hjx]);rw[hjx]at hA;unfold Zcy at hA;refine no (max 0 (a'.s-jU m a.jf j-a'.len)) (by omega) (Zgd hcm c1 (by omega) (by omega) (by omega) g1 (by omega) (.inl ?_));cases uW:zfP m r len k c with
  |false=>rfl
  |true =>
   exfalso;unfold zfP at uW;rw[c1,hri]at uW;simp only[jh,decide_eq_true_eq]at uW;omega
 ·
  have hj1:j=1/\a.s<jU m a.jf 1:=by
   rcases ht with rfl |⟨y,rfl,hy,hyo,hys,hky⟩
   ·obtain⟨a1,a2,a3⟩:=Zdh (m:=m) er;obtain rfl:j=0:=by rw[er]at hjl;simp at hjl;exact hjl
    rw[a3]at hp Bn;omega
   ·obtain⟨a0s,a1s,a2,a3⟩:=ZcN (m:=m) er;have j01:j=0\/j=1:=by rw[er]at hjl;simp at hjl;omega
    rcases j01 with rfl|rfl
    ·rw[a0s]at hp Bn;omega
    ·refine⟨rfl,?_⟩;omega
  obtain⟨rfl,hlt⟩:=hj1;rcases ht with rfl |⟨y,rfl,hy,hyo,hys,hky⟩
  ·rw[er]at hjl;simp at hjl
  ·obtain⟨a0s,a1s,a2,a3⟩:=ZcN (m:=m) er;have hxy:x≠y:=fun h=>hys (h ▸ hxs)
   have exl:(l:Int)=y:=by rw[<-hjx];simp[er]
   rw[a1s]at hlt hw hg Bn Cx hp;have hnx:=zcX hf.qe hx;have hj00:0<a.jf.length:=by rw[er];simp
   have ex0:a.jf[0]=x:=by simp[er]
   obtain⟨_,c,hcm,cv,c1,c2,c3,g1,_,g3⟩:=ZfT hf ho hvb hto ha sg hob hm hc hh hj00 (by rw[ex0,a0s];omega);rw[ex0,a0s]at c3 g3;rw[ex0]at c1;rw[a0s]at c2;have g3:=g3 (by omega);obtain⟨p,t0,er0,hp0',hps,ht0⟩:=Zb8 hf ho.ok;have hpy:p≠y:=fun h=>hys (h ▸ hps)
   rcases ht0 with rfl |⟨q,rfl,hq,hqm,hqs,_⟩
   ·rw[er0,exl]at hri;unfold zgo at hri;simp[kS,hpy]at hri
   rw[er0,exl]at hri;obtain⟨rfl,rfl⟩:=Zez hri hpy;have st1:jU m r 1=z8 m p:=by rw[er0];simp[jU,zW]
   rw[st1]at hw hf0 CL Cx;rw[exl]at Bn;refine no (max 0 (a'.s-z8 m x-a'.len)) (by rw[st1];omega) ?_;rw[exl];have hc2':=cv.hi;rw[c1]at hc2';refine ZgA hy hcm c1 (by omega) (by rw[exl]at hnl;omega) (by have:=cv.le;omega) g1 (by omega) (.inl ?_);cases qV:zhq m r e.slo x q (zfP m r len k c)with
   |false=>rfl
   |true =>
    exfalso;by_cases hpx:p=x
    ·subst hpx;have uW:zfP m r len k c=true:=by
      unfold zhq at qV;rw[qd]at qV;rcases qV with h|h
      ·rw[jh]at h;unfold zcV at h;simp at h;exact h.2.1
      ·unfold zb2 zbi at h;rw[er0,Zcz,ZcS hpy]at h;simp at h
     have st0:jU m r 0=0:=by rw[er0];simp[jU,zW]
     unfold zfP at uW;rw[c1,er0,Zcz,<-er0]at uW;simp only[jh,decide_eq_true_eq,st0]at uW;omega
    ·have hslo:z8 m p<=e.slo:=by
      have hnf:zbi r x q=false:=by
       unfold zbi;rw[er0];have:zgo [p,q] x=none:=by
        unfold zgo;simp[kS,hpx,qK hxy]
       rw[this]
      unfold zhq zb2 at qV;rw[hnf,er0,ZcS hpy,<-er0]at qV;simp only[st1]at qV;simpa using qV
     have:=ZgH hmz ho hzn er0 er hp0'.1 hx.1 hpx hq hy hslo (by omega) (by omega);omega
theorem Zgi(st:Int)(z:Nat)(x:Int):∀(l:List Prt) (k:Nat) (p:Pss),p∈zLB st z x k l->∃(i:Nat) (hi:i<l.length),l[i].lane=x/\p=⟨z,((k+i:Nat):Int),st+l[i].lo,st+l[i].hi⟩
 |[],_,p,h=>by cases h
 |q::l,k,p,h=>by
  unfold zLB at h;have rest:p∈zLB st z x (k+1) l->∃(i:Nat) (hi:i<(q::l).length),(q::l)[i].lane=x/\p=⟨z,((k+i:Nat):Int),st+(q::l)[i].lo,st+(q::l)[i].hi⟩:=fun h=>by
   obtain⟨i,hi,h1,h2⟩:=Zgi st z x l (k+1) p h;exact⟨i+1,by simpa using hi,h1,by rw[h2];simp;omega⟩
  split at h
  ·rename_i hq;rcases jB.1 h with h|h
   ·exact⟨0,by simp,hq,by rw[h];rfl⟩
   ·exact rest h
  ·exact rest h
theorem Zgh(st x:Int):∀(l:List Zon) (z:Nat) (p:Pss),p∈zLA st x z l->∃(j:Nat) (hj:j<l.length) (i:Nat) (hi:i<l[j].parts.length),l[j].parts[i].lane=x/\p=⟨((z+j:Nat):Int),i,st+l[j].parts[i].lo,st+l[j].parts[i].hi⟩
 |[],_,p,h=>by cases h
 |q::l,z,p,h=>by
  unfold zLA at h;rcases jt.1 h with h|h
  ·obtain⟨i,hi,h1,h2⟩:=Zgi st z x q.parts 0 p h;exact⟨0,by simp,i,hi,h1,by rw[h2];simp⟩
  ·obtain⟨j,hj,i,hi,h1,h2⟩:=Zgh st x l (z+1) p h;exact⟨j+1,by simpa using hj,i,hi,h1,by rw[h2];simp;omega⟩
theorem Zf3(m:zD)(zs:List Zon):∀(r:List Int) (a:Int) (p:Pss),p∈zKh m zs a r->∃(n:Nat) (hn:n<r.length) (j:Nat) (hj:j<zs.length) (i:Nat) (hi:i<zs[j].parts.length),zs[j].parts[i].lane=r[n]/\p=⟨j,i,(zW m a r).getD n 0+zs[j].parts[i].lo,(zW m a r).getD n 0+zs[j].parts[i].hi⟩
 |[],_,p,h=>by cases h
 |x::r,a,p,h=>by
  unfold zKh at h;rcases jt.1 h with h|h
  ·obtain⟨j,hj,i,hi,h1,h2⟩:=Zgh a x zs 0 p h;exact⟨0,by simp,j,hj,i,hi,h1,by rw[h2];simp[zW]⟩
  ·obtain⟨n,hn,j,hj,i,hi,h1,h2⟩:=Zf3 m zs r (a+z8 m x) p h;exact⟨n+1,by simpa using hn,j,hj,i,hi,h1,by rw[h2];simp[zW]⟩
theorem Zgj(m:zD)(zs:List Zon):∀(r:List Int) (a:Int) (n:Nat) (hn:n<r.length) (j:Nat) (hj:j<zs.length) (P:Prt),P∈zs[j].parts->P.lane=r[n]->∃p∈zKh m zs a r,p.kp=j/\p.lo=(zW m a r).getD n 0+P.lo/\p.hi=(zW m a r).getD n 0+P.hi
 |[],_,n,hn,_,_,_,_,_=>absurd hn (by simp)
 |x::r,a,n,hn,j,hj,P,hP,hl=>by
  unfold zKh;cases n with
  |zero =>
   obtain⟨p,hp,e1,e2,e3⟩:=Zdn a x (by simpa using hl) zs 0 j hj hP;exact⟨p,j6 _ hp,by simpa using e1,by simpa [zW]using e2,by simpa [zW]using e3⟩
  |succ n =>
   obtain⟨p,hp,e1,e2,e3⟩:=Zgj m zs r (a+z8 m x) n (by simpa using hn) j hj P hP (by simpa using hl);exact⟨p,kL _ hp,e1,by simpa [zW]using e2,by simpa [zW]using e3⟩
theorem Zgz(sw:List Swp)(en:Int):∀(l:List Prt) (i:Nat),zNK sw en i l=false->∀(k:Nat) (hk:k<l.length),((i+k:Nat):Int)≠en->sw.any (inS l[k])=false
 |[],_,_,k,hk,_=>absurd hk (by simp)
 |p::l,i,h,k,hk,hne=>by
  unfold zNK at h;rw[yb]at h;cases k with
  |zero =>
   have h1:=h.1;rw[decide_eq_true (by simpa using hne)]at h1;simpa using h1
  |succ k=>exact Zgz sw en l (i+1) h.2 k (by simpa using hk) (by rw[show i+1+k=i+(k+1) by omega];exact hne)
def znK(m:zD)(zs:List Zon)(z:Nat)(r0 r1:List Int)(k:Nat)(P:Prt):Bool :=
 !(r1.contains P.lane)||(decide ((k:Int)≠(zNx (zKh m zs 0 r0) z).1.part)&&(match zgo r0 P.lane with
   |none=>true
   |some i=>decide (P.lo=0)&&((zKh m zs 0 r0).all fun p=>!decide (p.kp=z)||decide (p.hi<=jU m r0 i+P.hi))&&decide (r1.getD 1 (-1)=P.lane) && !(r0.contains (r1.getD 0 0)) &&
     (List.range (zs.getD z Zde).parts.length).any fun q=>decide (((zs.getD z Zde).parts.getD q zto).lane=r1.getD 0 0)&&decide ((q:Int)≠(zNx (zKh m zs 0 r0) z).1.part)&&decide (((zs.getD z Zde).parts.getD q zto).hi=z8 m (r1.getD 0 0))))
def Zg6(zs:List Zon)(z:Nat)(r:List Int):Int:=r.getD ((z6b (zs.getD z Zde) r).getD 0) 0
def znB(m:zD)(zs:List Zon)(r0 r1:List Int):Bool:=(List.range zs.length).all fun z=>!((zKh m zs 0 r0).any fun p=>decide (p.kp=(z:Int)))||(decide (Zg6 zs z r0=Zg6 zs z r1)||(List.range (zs.getD z Zde).parts.length).all fun k=>znK m zs z r0 r1 k ((zs.getD z Zde).parts.getD k zto))
theorem Zge(z:Int):∀(t:List Pss) (w:Pss×Pss×Bool),(w.2.2=true\/∃p∈t,p.kp=z)->(zLV z t w).2.2=true
 |[],w,h=>by
  rcases h with h |⟨p,hp,_⟩
  ·exact h
  ·cases hp
 |p::t,w,h=>by
  unfold zLV;by_cases c:p.kp=z
  ·rw[if_pos c];exact Zge z t _ (.inl rfl)
  ·rw[if_neg c];refine Zge z t w ?_;rcases h with h |⟨q,hq,hz⟩
   ·exact .inl h
   ·rcases jB.1 hq with rfl|hq
    ·exact absurd hz c
    ·exact .inr ⟨q,hq,hz⟩
theorem ZgJ{P:Prt}{s:Swp}(h1:s.cap=false)(h2:s.lane=P.lane)(h3:s.lo<=P.hi)(h4:P.lo<=s.hi):inS P s=true:=by
 unfold inS;rw[h1,decide_eq_true h2,decide_eq_true h3,decide_eq_true h4];rfl
theorem ZfR{m:zD}{zs:List Zon}{a b:AgV}{z:Nat}(h:Zb7 m zs a b z=true):∃p∈zKh m zs 0 a.jf,p.kp=(z:Int)/\a.s-a.len<=p.hi/\p.lo<=b.s:=by
 unfold Zb7 at h;obtain⟨p,hp,h⟩:=jQ.1 h;unfold z5u at h;simp only[jh,decide_eq_true_eq]at h;exact⟨p,hp,h.1.1,h.1.2,h.2⟩
theorem ZfX{m:zD}{zs:List Zon}{a b:AgV}{z:Nat}{p:Pss}(hp:p∈zKh m zs 0 a.jf)(h1:p.kp=(z:Int))(h2:a.s-a.len<=p.hi)(h3:p.lo<=b.s):Zb7 m zs a b z=true:=by
 unfold Zb7;refine jQ.2 ⟨p,hp,?_⟩;unfold z5u;rw[decide_eq_true h1,decide_eq_true h2,decide_eq_true h3];rfl
theorem ZgU{m:zD}{zs:List Zon}{ss:List Sgn}(hf:zmq m zs ss){r:List Int}{len:Int}{a0 a a0' a':AgV}{k:zci}{e:Ego}(ho:Zd2 m r len a0 a0' k e)(hvb:∀b∈k.jV,VB m b)(hto:ZbU m a0 a=false)
  (ha:WAg m a) (sg:Bool) (hob:sg=true->a.uZ=true) (hm:Mvd m (zeA zs ss (z42 m a) k.tick) a a') (hc:Zd4 m k a) (hh:sg=true->ZdG m k a)
  (hzn:znB m zs r a.jf=true) (vg:∀z,z<zs.length->ZcH m zs a0 a a0 a z=false) (sw:List Swp) (hsw:∀s∈zfV m zs ss r len k e sg,s∈sw)
  (hal:∀v∈pvV m zs r,alP zs (zKh m zs 0 r) sw e.shi (k.ego.slo-len) v=false):∀z,z<zs.length->ZcH m zs a0 a a0' a' z=false:=by
 intro z hz;cases hzb:ZcH m zs a0 a a0' a' z with
 |false=>rfl
 |true =>
  exfalso;unfold ZcH at hzb;simp only[jh,decide_eq_true_eq]at hzb;obtain⟨z1,z2,z3⟩:=hzb;obtain⟨pp,hpp,p1,p2,p3⟩:=ZfR z1;obtain⟨pj,hpj,j1,j2,j3⟩:=ZfR z2;rw[ho.rt]at hpp z3;obtain⟨n,hn,zj,hzj,i,hi,hPl,hpe⟩:=Zf3 m zs a.jf 0 pj hpj;have ezj:zj=z:=by rw[hpe]at j1;simp only at j1;omega
  subst ezj;have hgz:zs.getD zj Zde=zs[zj]:=by simp[hz]
  have hst:(zW m 0 a.jf).getD n 0=jU m a.jf n:=rfl;rw[hst]at hpe;rw[hpe]at j2 j3;simp only at j2 j3;have hpv:=hf.pv _ (ja hz) _ (ja hi);have hs:=hm.s;have qI:=hm.pos;have e1:=ho.sl;have e2:=ho.sh;have e3:=ho.ln;have e4:=ho.eh;have e7:=ho.l0;have hs0:=ha.s.1;have hla:=ha.len;have hk:∀(q:Nat) (hq:q<zs[zj].parts.length),znK m zs zj r a.jf q zs[zj].parts[q]=true:=by
   intro q hq;unfold znB at hzn;have h1:=jA.1 hzn zj (kP.2 hz);have hvis:((zKh m zs 0 r).any fun p=>decide (p.kp=(zj:Int)))=true:=jQ.2 ⟨pp,hpp,by simpa using p1⟩;rw[hvis,yZ,k7]at h1;simp only[qd,decide_eq_true_eq]at h1;rcases h1 with h1|h1
   ·exact absurd h1 z3
   ·have:=jA.1 h1 q (kP.2 (by rw[hgz];exact hq));have hgq:(zs.getD zj Zde).parts.getD q zto=zs[zj].parts[q]:=by rw[hgz];simp[hq]
    rw[hgq]at this;exact this
  have hki:=hk i hi;have hct:a.jf.contains zs[zj].parts[i].lane=true:=by rw[vU,hPl];exact ja hn
  unfold znK at hki;rw[hct,yZ,k7,jh,decide_eq_true_eq]at hki;obtain⟨hE,hmt⟩:=hki;have C6:(zNx (zKh m zs 0 r) zj).2.2=true:=Zge _ _ _ (.inr ⟨pp,hpp,p1⟩);have hpart:∀p∈zKh m zs 0 r,0<=p.part:=fun p hp=>by
   obtain⟨_,_,_,_,i2,_,_,e⟩:=Zf3 m zs r 0 p hp;rw[e];show(0:Int)<=(i2:Int);omega
  obtain⟨v1,v2,_,_,_⟩:=zOR (zKh m zs 0 r) hpart zj;obtain⟨v3,v4⟩:=v2 C6;have hv:zKn (zKh m zs 0 r) zj∈pvV m zs r:=(zNn _ _ _ _).2 ⟨zj,by omega,by omega,v3,rfl⟩;have hna:=hal _ hv;unfold alP at hna;have hpr:(zKh m zs 0 r).any (zM4 (zKn (zKh m zs 0 r) zj).kp e.shi (k.ego.slo-len))=true:=by
   refine jQ.2 ⟨pp,hpp,?_⟩;unfold zM4;rw[v1,decide_eq_true p1,decide_eq_true (by omega),decide_eq_true (by omega)];rfl
  rw[hpr,kq]at hna;unfold zNf at hna;have hzp:zMh zs (zKn (zKh m zs 0 r) zj).kp=zs[zj].parts:=by
   rw[v1];unfold zMh;simp[hz]
  rw[hzp]at hna;have noP:∀(q:Nat) (hq:q<zs[zj].parts.length),(q:Int)≠(zNx (zKh m zs 0 r) zj).1.part->∀s∈zfV m zs ss r len k e sg,inS zs[zj].parts[q] s=false:=by
   intro q hq hne s hsm;have:=Zgz sw _ _ 0 hna q hq (by rw[v4];simpa using hne);rw[kK]at this;simpa using this s (hsw s hsm)
  have no1:∀o,zs[zj].parts[i].lo<=o->o<=zs[zj].parts[i].hi->¬∃s∈zfV m zs ss r len k e sg,s.lane=zs[zj].parts[i].lane/\s.lo<=o/\o<=s.hi/\s.cap=false:=by
   rintro o o1 o2 ⟨s,hsm,s1,s2,s3,s4⟩;have:=noP i hi hE s hsm;rw[ZgJ s4 s1 (by omega) (by omega)]at this;exact absurd this (by decide)
  obtain⟨x,t,er,hx,hxs,ht⟩:=Zb8 hf ha.jf;rw[hPl]at hpv;by_cases hp:max 0 (a.s-a.len-jU m a.jf n)<=min (a.s-jU m a.jf n) (z8 m a.jf[n])
  ·obtain⟨free,c,hcm,cv,c1,c2,c3,g1,g2,_⟩:=ZfT hf ho hvb hto ha sg hob hm hc hh hn hp;have put:=fun qV=>no1 (max zs[zj].parts[i].lo (max 0 (a.s-a.len-jU m a.jf n))) (by omega) (by omega) (Zgd hcm (c1.trans hPl.symm) (by omega) (by rw[hPl];omega) (by omega) g1 (by omega) qV)
   cases hq:zgo r zs[zj].parts[i].lane with
   |none=>exact put (.inr hq)
   |some i0 =>
    cases uW:zfP m r len k c with
    |false=>exact put (.inl uW)
    |true =>
     rw[hq]at hmt;simp only[jh,decide_eq_true_eq]at hmt;obtain⟨⟨⟨⟨m1,m2⟩,_⟩,_⟩,_⟩:=hmt;have m2:=jA.1 m2 pp hpp;rw[qd,decide_eq_true_eq,kR,decide_eq_false_iff_not]at m2;have m2:=m2.resolve_left (fun h=>h p1);unfold zfP at uW;rw[c1.trans hPl.symm,hq]at uW;simp only[jh,decide_eq_true_eq]at uW;obtain⟨hil,hix⟩:=zfT hq;obtain⟨pq,hpq,x1,x2,x3⟩:=Zgj m zs r 0 i0 hil zj hz _ (ja hi) hix.symm;have Cc:(zW m 0 r).getD i0 0=jU m r i0:=rfl;rw[Cc]at x2 x3;have clo:=cv.lo;have cle:=cv.le;have hz0:=vg zj hz;have f1:Zb7 m zs a0 a0 zj=true:=ZfX (p:=pq) (by rw[ho.rt];exact hpq) x1 (by omega) (by omega);have f2:Zb7 m zs a a zj=true:=ZfX hpj j1 (by rw[hpe];simp only;omega) (by rw[hpe];simp only;omega);unfold ZcH at hz0;rw[f1,f2,kq,kq,ho.rt,decide_eq_true z3]at hz0;exact absurd hz0 (by decide)
  ·have hn1:n=1/\a.s<jU m a.jf 1:=by
    rcases ht with rfl |⟨y,rfl,hy,hyo,hys,hky⟩
    ·obtain⟨a1,a2,a3⟩:=Zdh (m:=m) er;obtain rfl:n=0:=by rw[er]at hn;simp at hn;exact hn
     rw[a3]at hp j2;omega
    ·obtain⟨a0s,a1s,a2,a3⟩:=ZcN (m:=m) er;have n01:n=0\/n=1:=by rw[er]at hn;simp at hn;omega
     rcases n01 with rfl|rfl
     ·rw[a0s]at hp j2;omega
     ·exact⟨rfl,by omega⟩
   obtain⟨rfl,hlt⟩:=hn1;rcases ht with rfl |⟨y,rfl,hy,hyo,hys,hky⟩
   ·rw[er]at hn;simp at hn
   ·obtain⟨a0s,a1s,a2,a3⟩:=ZcN (m:=m) er;have hn0:0<a.jf.length:=by rw[er];simp
    have ex0:a.jf[0]=x:=by simp[er]
    have ey1:a.jf[1]=y:=by simp[er]
    have hnx:=zcX hf.qe hx;rw[a1s]at hlt j2 j3;obtain⟨_,c,hcm,cv,c1,c2,c3,g1,g2,g3⟩:=ZfT hf ho hvb hto ha sg hob hm hc hh hn0 (by rw[ex0,a0s];omega);rw[ex0,a0s]at c3 g2 g3;rw[ex0]at c1;have g3:=g3 (by omega);have clo:=cv.lo;have cle:=cv.le;have chi:=cv.hi;rw[c1]at chi;rw[ey1]at hPl hpv;have put:=fun(qV:zhq m r e.slo x y (zfP m r len k c)=false\/zgo r y=none)=>no1 zs[zj].parts[i].lo (by omega) (by omega) (by
     rw[hPl];exact ZgA hy hcm c1 (by omega) (by omega) (by omega) g1 (by omega) qV)
    cases hq:zgo r y with
    |none=>exact put (.inr hq)
    |some i0 =>
     rw[hPl,hq]at hmt;simp only[jh,decide_eq_true_eq]at hmt;obtain⟨⟨⟨⟨m1,_⟩,_⟩,m4⟩,m5⟩:=hmt;have gx:a.jf.getD 0 0=x:=by rw[er];rfl
     rw[gx]at m4 m5;obtain⟨q,hqr,hq5⟩:=jQ.1 m5;have hqr:=kP.1 hqr;rw[hgz]at hqr hq5;have hgq:zs[zj].parts.getD q zto=zs[zj].parts[q]:=by simp[hqr]
     rw[hgq]at hq5;simp only[jh,decide_eq_true_eq]at hq5;obtain⟨⟨q1,q2⟩,q3⟩:=hq5;have hqv:=hf.pv _ (ja hz) _ (ja hqr);have vm:zgo r x=none:=by
      cases hi2:zgo r x with
      |none=>rfl
      |some i2 =>
       obtain⟨hl2,hx2⟩:=zfT hi2;have:r.contains x=true:=by rw[vU,<-hx2];exact ja hl2
       rw[this]at m4;exact absurd m4 (by decide)
     obtain⟨s,hsm,s1,s2,s3,s4⟩:=Zgd (e:=e) hcm c1 (o:=z8 m x) (by omega) (by omega) (by omega) g1 (by omega) (.inr vm);have:=noP q hqr q2 s hsm;rw[ZgJ s4 (by rw[s1,q1]) (by omega) (by omega)]at this;exact absurd this (by decide)
theorem Zf4:∀{l:List Int},zKs l=0->∀x∈l,x=0
 |[],_,x,hx=>by cases hx
 |a::l,h,x,hx=>by
  unfold zKs at h;by_cases c:a=0
  ·rw[if_pos c]at h;rcases jB.1 hx with rfl|hx
   ·exact c
   ·exact Zf4 h x hx
  ·rw[if_neg c]at h;exact absurd h c
theorem ZgE{m:zD}{zs:List Zon}{ss:List Sgn}(hf:zmq m zs ss){r:List Int}(hr:zdA m r=0){i:Nat}(hi:i<r.length):zgo r r[i]=some i:=by
 obtain⟨x,t,er,hx,hxs,ht⟩:=Zb8 hf hr;rcases ht with rfl |⟨y,rfl,hy,hyo,hys,hky⟩
 ·obtain rfl:i=0:=by rw[er]at hi;simp at hi;exact hi
  simp only[er];exact Zcz _ _
 ·have hxy:x≠y:=fun h=>hys (h ▸ hxs)
  have i01:i=0\/i=1:=by rw[er]at hi;simp at hi;omega
  rcases i01 with rfl|rfl
  ·simp only[er];exact Zcz _ _
  ·simp only[er];exact ZcS hxy
theorem Zgn{m:zD}{a0 a a':AgV}(hto:ZbU m a0 a=false)(hm:a.s<=a'.s/\a'.len=a.len)(h0:0<=a0.len)(hl:0<=a.len){l:Nat}(hn:0<=z8 m l)(h1:(Zb5 a0.jf l).isSome=true)(h2:(Zb5 a.jf l).isSome=true)
  (hw:a0.s-ZbS m a0.jf l<a.s-ZbS m a.jf l) (hf0:0<=a0.s-ZbS m a0.jf l) (CL:a0.s-ZbS m a0.jf l-a0.len<=z8 m l) (Bn:a'.s-ZbS m a.jf l-a'.len<=z8 m l) (Cx:a'.s-ZbS m a.jf l-a'.len<=a0.s-ZbS m a0.jf l):False:=by
 obtain⟨i0,hi0⟩:=qz.1 h1;obtain⟨j,hj0⟩:=qz.1 h2;obtain⟨hil,hix⟩:=ZfS hi0;obtain⟨hjl,hjx⟩:=ZfS hj0;have ex:ZbS m a0.jf l=jU m a0.jf i0:=(ZbZ (show zgo a0.jf l=some i0 from hi0)).1;have ey:ZbS m a.jf l=jU m a.jf j:=(ZbZ (show zgo a.jf l=some j from hj0)).1;rw[ex]at hw hf0 CL Cx;rw[ey]at hw Bn Cx;have hA:=ZcU hto hil hjl (hix.trans hjx.symm) h0 (by rw[hjx];omega);unfold Zcy at hA;rw[hjx]at hA;omega
theorem ZgN{m:zD}{zs:List Zon}{ss:List Sgn}(hf:zmq m zs ss){a0 a a0' a':AgV}(hr0:zdA m a0.jf=0)(hr:zdA m a.jf=0)(e0:a0'.jf=a0.jf)(e1:a'.jf=a.jf)(e2:a0'.len=a0.len)(e3:a'.len=a.len)(g0:a0.s<=a0'.s)(g1:a.s<=a'.s)
  (hl0:0<=a0.len) (hl1:0<=a.len) (h:∀l:Nat,l<m.je.length->lnB m a0 a a0' a' l=false):ZbU m a0' a'=false:=by
 cases ht:ZbU m a0' a' with
 |false=>rfl
 |true =>
  exfalso;unfold ZbU at ht;obtain⟨p,hp,ht⟩:=jQ.1 ht;obtain⟨q,hq,ht⟩:=jQ.1 ht;obtain⟨i,hi,rfl,hpl⟩:=Zb9.1 hp;obtain⟨j,hj,rfl,hql⟩:=Zb9.1 hq;unfold z5a z4Q at ht;simp only[jh,decide_eq_true_eq]at ht;unfold z4Q at hpl hql;simp only at hpl hql;simp only[e0]at hi hpl ht;simp only[e1]at hj hql ht;obtain⟨⟨t1,t2⟩,t3⟩:=ht;have hon:=(zg1 hf.qe hr0).1 _ (ja hi);obtain⟨l,hl⟩:=jx hon.1;have hnl:=zcX hf.qe hon;obtain⟨s1,u1⟩:=ZbZ (m:=m) (ZgE hf hr0 hi);obtain⟨s2,u2⟩:=ZbZ (m:=m) (ZgE hf hr hj);rw[<-t1]at s2 u2 hql t2;rw[hl]at s1 s2 u1 u2 hpl hql t2 t3;have:=h l (by omega);unfold lnB at this;simp only[u1,u2,s1,s2,kq]at this;by_cases hc:a0.s-jU m a0.jf i<a.s-jU m a.jf j
  ·rw[if_pos hc]at this;unfold Zed at this;rw[decide_eq_true (show 0<=a0'.s-jU m a0.jf i by omega),decide_eq_true (show 0<=a'.s-jU m a.jf j by omega),decide_eq_true (show a0.s-jU m a0.jf i-a0.len<=z8 m l by omega),decide_eq_true (show a'.s-jU m a.jf j-a'.len<=z8 m l by omega),decide_eq_true (show a'.s-jU m a.jf j-a'.len<=a0'.s-jU m a0.jf i by omega)]at this;exact absurd this (by decide)
  ·rw[if_neg hc]at this;unfold Zed at this;rw[decide_eq_true (show 0<=a0'.s-jU m a0.jf i by omega),decide_eq_true (show 0<=a'.s-jU m a.jf j by omega),decide_eq_true (show a.s-jU m a.jf j-a.len<=z8 m l by omega),decide_eq_true (show a0'.s-jU m a0.jf i-a0'.len<=z8 m l by omega),decide_eq_true (show a0'.s-jU m a0.jf i-a0'.len<=a'.s-jU m a.jf j by omega)]at this;exact absurd this (by decide)
theorem ZgI{m:zD}{zs:List Zon}{ss:List Sgn}(hf:zmq m zs ss){a0 a:AgV}(hr0:zdA m a0.jf=0)(ha:WAg m a)(hs:a.s=0)(h1:1<=a0.s-a0.len):ZbU m a0 a=false:=by
 cases ht:ZbU m a0 a with
 |false=>rfl
 |true =>
  exfalso;unfold ZbU at ht;obtain⟨p,hp,ht⟩:=jQ.1 ht;obtain⟨q,hq,ht⟩:=jQ.1 ht;obtain⟨i,hi,rfl,hpl⟩:=Zb9.1 hp;obtain⟨j,hj,rfl,hql⟩:=Zb9.1 hq;unfold z5a z4Q at ht;simp only[jh,decide_eq_true_eq]at ht;unfold z4Q at hpl hql;simp only at hpl hql;obtain⟨⟨t1,t2⟩,t3⟩:=ht;have hla:=ha.len;obtain⟨x,t,er,hx,hxs,ht2⟩:=Zb8 hf ha.jf;have hnx:=zcX hf.qe hx;have hj0:a.jf[j]=x/\jU m a.jf j=0:=by
   rcases ht2 with rfl |⟨y,rfl,hy,hyo,hys,hky⟩
   ·obtain⟨a1,a2,a3⟩:=Zdh (m:=m) er;obtain rfl:j=0:=by rw[er]at hj;simp at hj;exact hj
    exact⟨by simp[er],a3⟩
   ·obtain⟨a0s,a1s,a2,a3⟩:=ZcN (m:=m) er;have j01:j=0\/j=1:=by rw[er]at hj;simp at hj;omega
    rcases j01 with rfl|rfl
    ·exact⟨by simp[er],a0s⟩
    ·rw[a1s]at hql;omega
  rw[hj0.1,hj0.2]at hql t2;rw[hj0.2]at t3;rw[hj0.1]at t1;obtain⟨p0,u,er0,hp0,hps,hu⟩:=Zb8 hf hr0;have hi0:jU m a0.jf i=0:=by
   rcases hu with rfl |⟨y,rfl,hy,hyo,hys,hky⟩
   ·obtain⟨a1,a2,a3⟩:=Zdh (m:=m) er0;obtain rfl:i=0:=by rw[er0]at hi;simp at hi;exact hi
    exact a3
   ·obtain⟨a0s,a1s,a2,a3⟩:=ZcN (m:=m) er0;have i01:i=0\/i=1:=by rw[er0]at hi;simp at hi;omega
    rcases i01 with rfl|rfl
    ·exact a0s
    ·exfalso;have:a0.jf[1]=y:=by simp[er0]
     rw[this]at t1;exact hys (t1 ▸ hxs)
  rw[hi0]at hpl t2 t3;omega
end Go.TrRun
