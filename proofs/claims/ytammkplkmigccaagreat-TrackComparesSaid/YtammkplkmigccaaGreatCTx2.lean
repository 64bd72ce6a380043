/- This text proves what functions of this seat's program answer, run by the evaluator; no condition. -/
import Derived.Test.YtammkplkmigccaaGreatCTx1
set_option maxHeartbeats 8000000
set_option linter.unusedVariables false
set_option linter.unusedSimpArgs false
set_option linter.unusedSectionVars false
set_option maxRecDepth 10000
namespace Go.TrRun
open Go Go.Eng
theorem z2C{l:List Int}(h:l≠[]):zu l≠[]:=by simpa [zu]using h
theorem copy0:R L Cs z2u [.a [I 0,.jc (z5 []),.jc []]] []=some (.w (.a [I 0,.jd,.jd]),[]):=by
 rw[zUa z2D rfl];simp[z2v,snC,agC,zg,z5,z2H];rw[zj z4.eq_1];simp[zX,zg,agC,zH]
theorem copy1(a:AgV)(ha:a.jh≠[]/\a.jh.length<=8):R L Cs z2u [.a [I 0,.jc (z5 [a]),.jc []]] []=some (.w (.a [I 0,.slice 0 1 7 0 1 none,.jd]),[some { box:=false,esz:=7,rows:=z5 [a],gen:=1,fz:=false,ver:=1 }]):=by
 have a1:=z2C ha.1;have a2:a.jh.length*8<=140737488355328:=by omega
 have w1:IntKind.i64.wrap 1=1:=rfl;rw[zUa z2D rfl];simp[z2v,snC,agC,zg,z5,z2H];rw[zj z4.eq_1];simp[zX,zg,agC,a1,a2,w1,zH];rw[zj z4.eq_1];simp[zX,zg,agC,a1,a2,w1,zH]
theorem copy2(a b:AgV)(ha:a.jh≠[]/\a.jh.length<=8)(hb:b.jh≠[]/\b.jh.length<=8):R L Cs z2u [.a [I 0,.jc (z5 [a,b]),.jc []]] []=some (.w (.a [I 0,.slice 0 2 7 0 2 none,.jd]),[some { box:=false,esz:=7,rows:=z5 [a,b],gen:=2,fz:=false,ver:=2 }]):=by
 have a1:=z2C ha.1;have a2:a.jh.length*8<=140737488355328:=by omega
 have b1:=z2C hb.1;have b2:b.jh.length*8<=140737488355328:=by omega
 have w1:IntKind.i64.wrap 1=1:=rfl;have w2:IntKind.i64.wrap 2=2:=rfl;rw[zUa z2D rfl];simp[z2v,snC,agC,zg,z5,z2H];rw[zj z4.eq_1];simp[zX,zg,agC,a1,a2,b1,b2,w1,w2,zH];rw[zj z4.eq_1];simp[zX,zg,agC,a1,a2,b1,b2,w1,w2,zH];rw[zj z4.eq_1];simp[zX,zg,agC,a1,a2,b1,b2,w1,w2,zH]
theorem copy3(a b c:AgV)(ha:a.jh≠[]/\a.jh.length<=8)(hb:b.jh≠[]/\b.jh.length<=8)(hc:c.jh≠[]/\c.jh.length<=8):R L Cs z2u [.a [I 0,.jc (z5 [a,b,c]),.jc []]] []=some (.w (.a [I 0,.slice 0 3 7 0 3 none,.jd]),[some { box:=false,esz:=7,rows:=z5 [a,b,c],gen:=3,fz:=false,ver:=3 }]):=by
 have a1:=z2C ha.1;have a2:a.jh.length*8<=140737488355328:=by omega
 have b1:=z2C hb.1;have b2:b.jh.length*8<=140737488355328:=by omega
 have c1:=z2C hc.1;have c2:c.jh.length*8<=140737488355328:=by omega
 have w1:IntKind.i64.wrap 1=1:=rfl;have w2:IntKind.i64.wrap 2=2:=rfl;have w3:IntKind.i64.wrap 3=3:=rfl;rw[zUa z2D rfl];simp[z2v,snC,agC,zg,z5,z2H];rw[zj z4.eq_1];simp[zX,zg,agC,a1,a2,b1,b2,c1,c2,w1,w2,w3,zH];rw[zj z4.eq_1];simp[zX,zg,agC,a1,a2,b1,b2,c1,c2,w1,w2,w3,zH];rw[zj z4.eq_1];simp[zX,zg,agC,a1,a2,b1,b2,c1,c2,w1,w2,w3,zH];rw[zj z4.eq_1];simp[zX,zg,agC,a1,a2,b1,b2,c1,c2,w1,w2,w3,zH]
theorem copy4(a b c d:AgV)(ha:a.jh≠[]/\a.jh.length<=8)(hb:b.jh≠[]/\b.jh.length<=8)(hc:c.jh≠[]/\c.jh.length<=8)(hd:d.jh≠[]/\d.jh.length<=8):R L Cs z2u [.a [I 0,.jc (z5 [a,b,c,d]),.jc []]] []=some (.w (.a [I 0,.slice 0 4 7 0 4 none,.jd]),[some { box:=false,esz:=7,rows:=z5 [a,b,c,d],gen:=4,fz:=false,ver:=4 }]):=by
 have a1:=z2C ha.1;have a2:a.jh.length*8<=140737488355328:=by omega
 have b1:=z2C hb.1;have b2:b.jh.length*8<=140737488355328:=by omega
 have c1:=z2C hc.1;have c2:c.jh.length*8<=140737488355328:=by omega
 have d1:=z2C hd.1;have d2:d.jh.length*8<=140737488355328:=by omega
 have w1:IntKind.i64.wrap 1=1:=rfl;have w2:IntKind.i64.wrap 2=2:=rfl;have w3:IntKind.i64.wrap 3=3:=rfl;have w4:IntKind.i64.wrap 4=4:=rfl;rw[zUa z2D rfl];simp[z2v,snC,agC,zg,z5,z2H];rw[zj z4.eq_1];simp[zX,zg,agC,a1,a2,b1,b2,c1,c2,d1,d2,w1,w2,w3,w4,zH];rw[zj z4.eq_1];simp[zX,zg,agC,a1,a2,b1,b2,c1,c2,d1,d2,w1,w2,w3,w4,zH];rw[zj z4.eq_1];simp[zX,zg,agC,a1,a2,b1,b2,c1,c2,d1,d2,w1,w2,w3,w4,zH];rw[zj z4.eq_1];simp[zX,zg,agC,a1,a2,b1,b2,c1,c2,d1,d2,w1,w2,w3,w4,zH];rw[zj z4.eq_1];simp[zX,zg,agC,a1,a2,b1,b2,c1,c2,d1,d2,w1,w2,w3,w4,zH]
theorem copy5(a b c d e:AgV)(ha:a.jh≠[]/\a.jh.length<=8)(hb:b.jh≠[]/\b.jh.length<=8)(hc:c.jh≠[]/\c.jh.length<=8)(hd:d.jh≠[]/\d.jh.length<=8)(he:e.jh≠[]/\e.jh.length<=8):R L Cs z2u [.a [I 0,.jc (z5 [a,b,c,d,e]),.jc []]] []=some (.w (.a [I 0,.slice 0 5 7 0 5 none,.jd]),[some { box:=false,esz:=7,rows:=z5 [a,b,c,d,e],gen:=5,fz:=false,ver:=5 }]):=by
 have a1:=z2C ha.1;have a2:a.jh.length*8<=140737488355328:=by omega
 have b1:=z2C hb.1;have b2:b.jh.length*8<=140737488355328:=by omega
 have c1:=z2C hc.1;have c2:c.jh.length*8<=140737488355328:=by omega
 have d1:=z2C hd.1;have d2:d.jh.length*8<=140737488355328:=by omega
 have e1:=z2C he.1;have e2:e.jh.length*8<=140737488355328:=by omega
 have w1:IntKind.i64.wrap 1=1:=rfl;have w2:IntKind.i64.wrap 2=2:=rfl;have w3:IntKind.i64.wrap 3=3:=rfl;have w4:IntKind.i64.wrap 4=4:=rfl;have w5:IntKind.i64.wrap 5=5:=rfl;rw[zUa z2D rfl];simp[z2v,snC,agC,zg,z5,z2H];rw[zj z4.eq_1];simp[zX,zg,agC,a1,a2,b1,b2,c1,c2,d1,d2,e1,e2,w1,w2,w3,w4,w5,zH];rw[zj z4.eq_1];simp[zX,zg,agC,a1,a2,b1,b2,c1,c2,d1,d2,e1,e2,w1,w2,w3,w4,w5,zH];rw[zj z4.eq_1];simp[zX,zg,agC,a1,a2,b1,b2,c1,c2,d1,d2,e1,e2,w1,w2,w3,w4,w5,zH];rw[zj z4.eq_1];simp[zX,zg,agC,a1,a2,b1,b2,c1,c2,d1,d2,e1,e2,w1,w2,w3,w4,w5,zH];rw[zj z4.eq_1];simp[zX,zg,agC,a1,a2,b1,b2,c1,c2,d1,d2,e1,e2,w1,w2,w3,w4,w5,zH];rw[zj z4.eq_1];simp[zX,zg,agC,a1,a2,b1,b2,c1,c2,d1,d2,e1,e2,w1,w2,w3,w4,w5,zH]
theorem copy6(a b c d e f:AgV)(ha:a.jh≠[]/\a.jh.length<=8)(hb:b.jh≠[]/\b.jh.length<=8)(hc:c.jh≠[]/\c.jh.length<=8)(hd:d.jh≠[]/\d.jh.length<=8)(he:e.jh≠[]/\e.jh.length<=8)(hf:f.jh≠[]/\f.jh.length<=8):R L Cs z2u [.a [I 0,.jc (z5 [a,b,c,d,e,f]),.jc []]] []=some (.w (.a [I 0,.slice 0 6 7 0 6 none,.jd]),[some { box:=false,esz:=7,rows:=z5 [a,b,c,d,e,f],gen:=6,fz:=false,ver:=6 }]):=by
 have a1:=z2C ha.1;have a2:a.jh.length*8<=140737488355328:=by omega
 have b1:=z2C hb.1;have b2:b.jh.length*8<=140737488355328:=by omega
 have c1:=z2C hc.1;have c2:c.jh.length*8<=140737488355328:=by omega
 have d1:=z2C hd.1;have d2:d.jh.length*8<=140737488355328:=by omega
 have e1:=z2C he.1;have e2:e.jh.length*8<=140737488355328:=by omega
 have f1:=z2C hf.1;have f2:f.jh.length*8<=140737488355328:=by omega
 have w1:IntKind.i64.wrap 1=1:=rfl;have w2:IntKind.i64.wrap 2=2:=rfl;have w3:IntKind.i64.wrap 3=3:=rfl;have w4:IntKind.i64.wrap 4=4:=rfl;have w5:IntKind.i64.wrap 5=5:=rfl;have w6:IntKind.i64.wrap 6=6:=rfl;rw[zUa z2D rfl];simp[z2v,snC,agC,zg,z5,z2H];rw[zj z4.eq_1];simp[zX,zg,agC,a1,a2,b1,b2,c1,c2,d1,d2,e1,e2,f1,f2,w1,w2,w3,w4,w5,w6,zH];rw[zj z4.eq_1];simp[zX,zg,agC,a1,a2,b1,b2,c1,c2,d1,d2,e1,e2,f1,f2,w1,w2,w3,w4,w5,w6,zH];rw[zj z4.eq_1];simp[zX,zg,agC,a1,a2,b1,b2,c1,c2,d1,d2,e1,e2,f1,f2,w1,w2,w3,w4,w5,w6,zH];rw[zj z4.eq_1];simp[zX,zg,agC,a1,a2,b1,b2,c1,c2,d1,d2,e1,e2,f1,f2,w1,w2,w3,w4,w5,w6,zH];rw[zj z4.eq_1];simp[zX,zg,agC,a1,a2,b1,b2,c1,c2,d1,d2,e1,e2,f1,f2,w1,w2,w3,w4,w5,w6,zH];rw[zj z4.eq_1];simp[zX,zg,agC,a1,a2,b1,b2,c1,c2,d1,d2,e1,e2,f1,f2,w1,w2,w3,w4,w5,w6,zH];rw[zj z4.eq_1];simp[zX,zg,agC,a1,a2,b1,b2,c1,c2,d1,d2,e1,e2,f1,f2,w1,w2,w3,w4,w5,w6,zH]
theorem copy7(a b c d e f g:AgV)(ha:a.jh≠[]/\a.jh.length<=8)(hb:b.jh≠[]/\b.jh.length<=8)(hc:c.jh≠[]/\c.jh.length<=8)(hd:d.jh≠[]/\d.jh.length<=8)(he:e.jh≠[]/\e.jh.length<=8)(hf:f.jh≠[]/\f.jh.length<=8)(hg:g.jh≠[]/\g.jh.length<=8):R L Cs z2u [.a [I 0,.jc (z5 [a,b,c,d,e,f,g]),.jc []]] []=some (.w (.a [I 0,.slice 0 7 7 0 7 none,.jd]),[some { box:=false,esz:=7,rows:=z5 [a,b,c,d,e,f,g],gen:=7,fz:=false,ver:=7 }]):=by
 have a1:=z2C ha.1;have a2:a.jh.length*8<=140737488355328:=by omega
 have b1:=z2C hb.1;have b2:b.jh.length*8<=140737488355328:=by omega
 have c1:=z2C hc.1;have c2:c.jh.length*8<=140737488355328:=by omega
 have d1:=z2C hd.1;have d2:d.jh.length*8<=140737488355328:=by omega
 have e1:=z2C he.1;have e2:e.jh.length*8<=140737488355328:=by omega
 have f1:=z2C hf.1;have f2:f.jh.length*8<=140737488355328:=by omega
 have g1:=z2C hg.1;have g2:g.jh.length*8<=140737488355328:=by omega
 have w1:IntKind.i64.wrap 1=1:=rfl;have w2:IntKind.i64.wrap 2=2:=rfl;have w3:IntKind.i64.wrap 3=3:=rfl;have w4:IntKind.i64.wrap 4=4:=rfl;have w5:IntKind.i64.wrap 5=5:=rfl;have w6:IntKind.i64.wrap 6=6:=rfl;have w7:IntKind.i64.wrap 7=7:=rfl;rw[zUa z2D rfl];simp[z2v,snC,agC,zg,z5,z2H];rw[zj z4.eq_1];simp[zX,zg,agC,a1,a2,b1,b2,c1,c2,d1,d2,e1,e2,f1,f2,g1,g2,w1,w2,w3,w4,w5,w6,w7,zH];rw[zj z4.eq_1];simp[zX,zg,agC,a1,a2,b1,b2,c1,c2,d1,d2,e1,e2,f1,f2,g1,g2,w1,w2,w3,w4,w5,w6,w7,zH];rw[zj z4.eq_1];simp[zX,zg,agC,a1,a2,b1,b2,c1,c2,d1,d2,e1,e2,f1,f2,g1,g2,w1,w2,w3,w4,w5,w6,w7,zH];rw[zj z4.eq_1];simp[zX,zg,agC,a1,a2,b1,b2,c1,c2,d1,d2,e1,e2,f1,f2,g1,g2,w1,w2,w3,w4,w5,w6,w7,zH];rw[zj z4.eq_1];simp[zX,zg,agC,a1,a2,b1,b2,c1,c2,d1,d2,e1,e2,f1,f2,g1,g2,w1,w2,w3,w4,w5,w6,w7,zH];rw[zj z4.eq_1];simp[zX,zg,agC,a1,a2,b1,b2,c1,c2,d1,d2,e1,e2,f1,f2,g1,g2,w1,w2,w3,w4,w5,w6,w7,zH];rw[zj z4.eq_1];simp[zX,zg,agC,a1,a2,b1,b2,c1,c2,d1,d2,e1,e2,f1,f2,g1,g2,w1,w2,w3,w4,w5,w6,w7,zH];rw[zj z4.eq_1];simp[zX,zg,agC,a1,a2,b1,b2,c1,c2,d1,d2,e1,e2,f1,f2,g1,g2,w1,w2,w3,w4,w5,w6,w7,zH]
def z32(l:List z45):List (List Cl):=l.map z3N
@[simp] theorem z7n(l:List z45):(z32 l).length=l.length:=by simp[z32]
@[simp] theorem z6D{l:List z45}{i:Nat}(h:i<(z32 l).length):(z32 l)[i]=z3N (l[i]'(by simpa using h)):=by simp[z32]
@[simp] theorem z7t(a:z45):(z3N a).length=6:=rfl
@[simp] theorem z66(l:List AgV):(∀x,x∈z5 l->x.length=7)<->True:=by simp[z5]
def z3C:List Cl:=[I 0,.jc [],.jc []]
def z6t(m:zD):Prop:=∀l:List AgV,0<l.length->l.length<=7->(∀a∈l,KAg m a)->(∀h:0<l.length,l[0].start=0)->∃(e:Int) (ins:List z2T),ins.length<=1000/\(z31 m ⟨0,l,[]⟩=0->l.length=1->e=0)/\R L Cs z3v [.a (zf m),.c (.jc (z5 l))] []=some (.t [.a (if e=0 then snC ⟨0,l,ins⟩ else z3C),W e],[])
def agW(l:List AgV):Cl:=if l=[] then .slice 2 0 7 0 0 none else .jc (z5 l)
abbrev scM(m:zD)(v:Nat)(st:List Cl):Mem:=[bx 5 (zf m),bx 3 [I 0,.jd,.jd],gb 7,bxv v 3 st]
abbrev scE(q:List z45)(l:List AgV)(i:Nat):Env:=[(5,.w (.c (agW l))),(8,.w (W i)),(4,.w (Pt 1)),(1,.w (.c (.jc (z32 q)))),(2,.w (Pt 0)),(6,.w (Pt 3))]
def z6u(m:zD)(l:List AgV)(st:List Cl):Prop:=(∃A B:List (List Cl),st=[I 0,.jc A,.jc B])/\(∀a∈l,KAg m a)/\(∀h:0<l.length,l[0].start=0)/\(l≠[]->∃ins:List z2T,ins.length<=1000/\st=snC ⟨0,l,ins⟩)
theorem z6A{m:zD}{zs:List Zon}{ss:List Sgn}(hF:z7y m zs ss)(hN:z6t m)(q:List z45)(hq:q.length<=7)(v:Nat)(st:List Cl)(hst:z6u m [] st)(i:Nat)(hi:i<q.length):∃(l:List AgV) (v':Nat) (st':List Cl),l.length<=i+1/\z6u m l st'/\Y L Cs z2s (some [5,8,4,1,2,6]) 4 (scE q [] i) (scM m v st)=Y L Cs z2s (some [5,8,4,1,2,6]) 4 (scE q l (i+1)) (scM m v' st'):=by
 have hw:=zB (i:=i) (by omega);obtain⟨a,ha,h0,_,hA⟩:=z5h hF q[i] true;obtain⟨e,ins,vP,_,hNw⟩:=hN [a] (by simp) (by simp) (by simpa using ha) (by intro _;exact h0 rfl);have hci:(i:Int)<q.length:=by omega
 obtain⟨A,B,rfl⟩:=hst.1;simp only[zf,z3N,agC,z5,jT,qd]at hA hNw;by_cases c:e=0
 ·refine⟨[a],v+1,snC ⟨0,[a],ins⟩,by simp,⟨⟨_,_,rfl⟩,by simpa using ha,by intro _;exact h0 rfl,fun _=>⟨ins,vP,rfl⟩⟩,?_⟩;subst c;rw[if_pos rfl]at hNw;rw[zj z2s.eq_1];simp only[snC,z5,jT,qd,agC]at hNw;simp[scE,scM,agW,z3C,zf,z3N,agC,hi,hci,hw,hA,hNw,zg,zH,zX,snC,z5]
 ·refine⟨[],v,_,by simp,hst,?_⟩;have cb:(e==0)=false:=by simp[c]
  rw[if_neg c]at hNw;rw[zj z2s.eq_1];simp only[z3C]at hNw;simp[scE,scM,agW,z3C,zf,z3N,agC,hi,hci,hw,hA,hNw,c,cb,zg,zH,zX]
theorem z64{m:zD}{zs:List Zon}{ss:List Sgn}(hF:z7y m zs ss)(hN:z6t m)(q:List z45)(hq:q.length<=7)(v:Nat)(st:List Cl)(l:List AgV)(hl:l≠[])(hst:z6u m l st)(i:Nat)(hi:i<q.length)(hli:l.length<=i):∃(l':List AgV) (v':Nat) (st':List Cl),l'.length<=i+1/\z6u m l' st'/\Y L Cs z2s (some [5,8,4,1,2,6]) 4 (scE q l i) (scM m v st)=Y L Cs z2s (some [5,8,4,1,2,6]) 4 (scE q l' (i+1)) (scM m v' st'):=by
 have hw:=zB (i:=i) (by omega);have hp:0<l.length:=jD.2 hl;obtain⟨a,ha,h0,_,hA⟩:=z5h hF q[i] false;have uH:∀x∈l++[a],KAg m x:=by
  intro x hx;rcases jB.1 hx with hx|hx
  ·exact hst.2.1 x hx
  ·simp at hx;rw[hx];exact ha
 have hfst:∀h:0<(l++[a]).length,(l++[a])[0].start=0:=by
  intro h;rw[List.getElem_append_left hp];exact hst.2.2.1 hp
 obtain⟨e,ins,vP,_,hNw⟩:=hN (l++[a]) (by simp) (by simp;omega) uH hfst;have hci:(i:Int)<q.length:=by omega
 obtain⟨A,B,rfl⟩:=hst.1;have l8:l.length<8:=by omega
 have l8':(l.length:Int)<8:=by omega
 have l0:((l.length:Int)==0)=false:=beq_false_of_ne (by omega);have lr:z5 l≠[]:=by simpa [z5]using hl
 have room1:l.length*64<=140737488355328:=by omega
 have room2:(l.length+1)*64<=140737488355328:=by omega
 have tk:(z5 l).take l.length=z5 l:=jX (by simp);have tk2:∀r:List Cl,List.take (l.length+1) (z5 l++[r])=z5 l++[r]:=fun r=>jX (by simp)
 have ra:z5 (l++[a])=z5 l++[agC a]:=by simp[z5]
 have lne:l++[a]≠[]:=by simp
 simp only[zf,z3N]at hA hNw;by_cases c:e=0
 ·refine⟨l++[a],v+1,snC ⟨0,l++[a],ins⟩,by simp;omega,⟨⟨_,_,rfl⟩,uH,hfst,fun _=>⟨ins,vP,rfl⟩⟩,?_⟩;subst c;rw[if_pos rfl]at hNw;rw[zj z2s.eq_1];simp only[snC,ra,agC]at hNw hA;simp[scE,scM,agW,hl,lr,z3C,zf,z3N,agC,hi,hci,hw,hA,hNw,l8,l8',l0,room1,room2,tk,tk2,zg,zH,zX,snC,ra]
 ·refine⟨l,v,_,by omega,hst,?_⟩;have cb:(e==0)=false:=by simp[c]
  rw[if_neg c]at hNw;rw[zj z2s.eq_1];simp only[z3C,ra,agC]at hNw hA;simp[scE,scM,agW,hl,lr,z3C,zf,z3N,agC,hi,hci,hw,hA,hNw,c,cb,l8,l8',l0,room1,room2,tk,tk2,zg,zH,zX]
theorem z65{m:zD}{zs:List Zon}{ss:List Sgn}(hF:z7y m zs ss)(hN:z6t m)(q:List z45)(hq:q.length<=7):∀(f i v:Nat) (st:List Cl) (l:List AgV),i+f=q.length->l.length<=i->z6u m l st->∃(l':List AgV) (v':Nat) (st':List Cl) (b:Bool),l'.length<=7/\z6u m l' st'/\Y L Cs z2s (some [5,8,4,1,2,6]) 4 (scE q l i) (scM m v st)=some (.exit 0,[(25,.w (Bo b)),(5,.w (.c (agW l'))),(8,.w (W q.length)),(4,.w (Pt 1)),(1,.w (.c (.jc (z32 q)))),(2,.w (Pt 0)),(6,.w (Pt 3))],scM m v' st'):=by
 intro f;induction f with
 |zero =>
  intro i v st l hi hl hst;obtain rfl:i=q.length:=by omega
  refine⟨l,v,st,false,by omega,hst,?_⟩;obtain⟨A,B,rfl⟩:=hst.1;rw[zj z2s.eq_1];by_cases c:l=[]<;>simp[scE,scM,agW,c,zf,z3C]
 |succ f ih =>
  intro i v st l hi hl hst;by_cases c:l=[]
  ·subst c;obtain⟨l2,v2,st2,h1,h2,h3⟩:=z6A hF hN q hq v st hst i (by omega);rw[h3];exact ih (i+1) v2 st2 l2 (by omega) h1 h2
  ·obtain⟨l2,v2,st2,h1,h2,h3⟩:=z64 hF hN q hq v st l c hst i (by omega) hl;rw[h3];exact ih (i+1) v2 st2 l2 (by omega) h1 h2
abbrev z7j:List Cl:=[I 0,.jd,.jd]
abbrev z4M(fz:Bool)(va:Nat)(l:List AgV):Option Blk:=some { box:=false,esz:=7,rows:=z5 l,gen:=l.length,fz:=fz,ver:=va }
abbrev z4w(fz:Bool)(vb:Nat)(s:List z2T):Option Blk:=some { box:=false,esz:=4,rows:=z2H s,gen:=s.length,fz:=fz,ver:=vb }
abbrev z4k(y:z2T):Option Blk:=some { box:=false,esz:=4,rows:=[z29 y],gen:=1,fz:=false,ver:=1 }
def nwT(q:Nat)(fz:Bool)(vb:Nat)(x y:z2T)(s:List z2T):Mem:=if q=0 then [] else if q=1 then [z4k x,z4w fz vb s] else [z4k x,z4w fz vb s,z4k y]
def nwI(q:Nat)(s:List z2T):Cl:=if q=0 then .jd else .slice 5 s.length 4 0 s.length none
abbrev nwM(m:zD)(l:List AgV)(v q:Nat)(fz:Bool)(va vb:Nat)(x y:z2T)(s:List z2T):Mem:=bx 5 (zf m)::bx 3 z7j::bxv v 3 [I 0,.slice 3 l.length 7 0 l.length none,nwI q s]::z4M fz va l::nwT q fz vb x y s
abbrev z49(l:List AgV)(i z:Nat):Env:=[(10,.w (W z)),(4,.w (Pt 1)),(1,.w (.c (.jc (z5 l)))),(9,.w (W i)),(2,.w (Pt 0)),(6,.w (Pt 2))]
theorem z63(l:List AgV):(z5 l).take l.length=z5 l:=jX (by simp)
theorem z62(l:List z2T):(z2H l).take l.length=z2H l:=jX (by simp)
theorem z5U(l:List z2T)(a:z2T):z2H (l++[a])=z2H l++[z29 a]:=by simp[z2H]
def z46:z2T:=⟨0,0,0,0⟩
structure NwC(m:zD)(l:List AgV):Prop where
 there:∀(s:List z2T) (i:Nat) (hi:i<l.length),R L Cs z3I [.a [I 0,.jc (z5 l),.jc (z2H s)],W i] []=some (.w (Bo (decide ((l[i]'hi).start<=0))),[])
 pres:∀(i:Nat) (hi:i<l.length) (z:Nat),z<m.ke.length->∃b,R L Cs z3B [.a (zf m),.a (agC (l[i]'hi)),.a (agC (l[i]'hi)),W z] []=some (.w (Bo b),[])
 uE:∀(i:Nat) (hi:i<l.length) (z:Nat),z<m.ke.length->∃r,R L Cs z3M [.a (zf m),.a (agC (l[i]'hi)),W z,W 0] []=some (.w (W r),[])
 touch:∀(i j:Nat) (hi:i<l.length) (hj:j<l.length),∃b,R L Cs z3y [.a (zf m),.a (agC (l[i]'hi)),.a (agC (l[j]'hj))] []=some (.w (Bo b),[])
 ke:∀(s:List z2T) (i j:Nat) (hi:i<l.length) (hj:j<l.length),s.length<=1000->∃out:List Int,R L Cs z3H [.a (zf m),.a [I 0,.jc (z5 l),.jc (z2H s)],.a [I 0,.jc (z5 l),.jc (z2H s)],W i,W j] []=some (.w (.c (.jc (zu out))),[])
 gone:∀(i:Nat) (hi:i<l.length),(l[i]'hi).gone=false
 few:l.length<=7
 zn2:m.ke.length<=2
def NwI(q n0 z:Nat)(s:List z2T):Prop:=q=0/\n0=4/\s=[]\/q=1/\n0=4/\1<=z/\s≠[]\/q=2/\n0=4/\2<=z/\s≠[]\/q=1/\n0=6/\s≠[]\/q=2/\n0=7/\s≠[]
theorem z5X{m:zD}{l:List AgV}(h:NwC m l)(i:Nat)(hi:i<l.length)(z v q n0 va vb:Nat)(x y:z2T)(s:List z2T)(hq:NwI q n0 z s)(hz:z=m.ke.length\/z<m.ke.length/\¬(l[i]'hi).start<=0):∃b,
  Y L Cs z7 (some [10,4,1,9,2,6]) n0 (z49 l i z) (nwM m l v q false va vb x y s)=some (.exit 4,[(50,.w (Bo b)),(10,.w (W z)),(4,.w (Pt 1)),(1,.w (.c (.jc (z5 l)))),(9,.w (W i)),(2,.w (Pt 0)),(6,.w (Pt 2))],nwM m l v q false va vb x y s):=by
 have hT:=h.there s i hi;have tk:=z63 l;have tk2:=z62 s;refine⟨false,?_⟩;rcases hz with hz |⟨hz,hs⟩
 ·subst hz;rw[zj z7.eq_1];rcases hq with⟨rfl,rfl,rfl⟩ |⟨rfl,rfl,_,hs⟩ |⟨rfl,rfl,_,hs⟩ |⟨rfl,rfl,hs⟩ |⟨rfl,rfl,hs⟩<;>simp[zf,nwT,nwI]
 ·rw[decide_eq_false hs]at hT;have hcz:(z:Int)<m.ke.length:=by omega
  rw[zj z7.eq_1];rcases hq with⟨rfl,rfl,rfl⟩ |⟨rfl,rfl,_,hs⟩ |⟨rfl,rfl,_,hs⟩ |⟨rfl,rfl,hs⟩ |⟨rfl,rfl,hs⟩<;>first |(simp[zf,nwT,nwI,hz,hcz,hT,tk,tk2,zX,zg];done) |(simp[z2H]at hT;simp[zf,nwT,nwI,hz,hcz,hT,tk,tk2,zX,zg];done)|skip
theorem z6O{m:zD}{l:List AgV}(h:NwC m l)(i:Nat)(hi:i<l.length)(z v q n0 va vb:Nat)(x y:z2T)(s:List z2T)(hl:s.length<=1000)(hb:q≠0->vb=s.length)(hq:NwI q n0 z s)(hz:z<m.ke.length)(hs:(l[i]'hi).start<=0):∃(v' q' vb':Nat) (x' y':z2T) (s':List z2T),s'.length<=s.length+1/\(q'≠0->vb'=s'.length)/\NwI q' n0 (z+1) s' /\
  Y L Cs z7 (some [10,4,1,9,2,6]) n0 (z49 l i z) (nwM m l v q false va vb x y s)=Y L Cs z7 (some [10,4,1,9,2,6]) n0 (z49 l i (z+1)) (nwM m l v' q' false va vb' x' y' s'):=by
 have hT:=h.there s i hi;rw[decide_eq_true hs]at hT;obtain⟨p,hP⟩:=h.pres i hi z hz;obtain⟨r,hR⟩:=h.uE i hi z hz;have htwo:=h.zn2;have v9:=h.few;have tk:=z63 l;have tk2:=z62 s;have hcz:(z:Int)<m.ke.length:=by omega
 have hci:(i:Int)<l.length:=by omega
 have hw:=zB (i:=z) (by omega);have hro:(s.length+1)*32<=140737488355328:=by omega
 have hsn:=z5U s ⟨i,z,0,r⟩;simp only[zf,agC]at hP hR;cases p with
 |false =>
  refine⟨v,q,vb,x,y,s,by omega,hb,?_,?_⟩
  ·rcases hq with⟨rfl,rfl,rfl⟩ |⟨rfl,rfl,_,hs⟩ |⟨rfl,rfl,_,hs⟩ |⟨rfl,rfl,hs⟩ |⟨rfl,rfl,hs⟩<;>simp[*,NwI]<;>omega
  rw[zj z7.eq_1];rcases hq with⟨rfl,rfl,rfl⟩ |⟨rfl,rfl,_,hs⟩ |⟨rfl,rfl,_,hs⟩ |⟨rfl,rfl,hs⟩ |⟨rfl,rfl,hs⟩<;>first |(simp[z49,nwM,zf,agC,nwT,nwI,hi,hci,hz,hcz,hw,hT,hP,tk,tk2,zX,zg,zH];done) |(simp[z2H]at hT;simp[z49,nwM,zf,agC,nwT,nwI,hi,hci,hz,hcz,hw,hT,hP,tk,tk2,zX,zg,zH];done)|skip
 |true =>
  rcases hq with⟨rfl,rfl,rfl⟩ |⟨rfl,rfl,hz1,hs⟩ |⟨rfl,rfl,hz2,hs⟩ |⟨rfl,rfl,hs⟩ |⟨rfl,rfl,hs⟩
  ·refine⟨v+1,1,1,⟨i,z,0,r⟩,y,[⟨i,z,0,r⟩],by simp,by simp,by simp[NwI],?_⟩;simp[z2H]at hT;rw[zj z7.eq_1];simp[z49,nwM,z4k,z4w,jG,zf,agC,z29,z2H,nwT,nwI,hi,hci,hz,hcz,hw,hT,hP,hR,tk,tk2,zX,zg,zH]
  ·obtain rfl:=hb (by omega);refine⟨v+1,2,s.length+1,x,⟨i,z,0,r⟩,s++[⟨i,z,0,r⟩],by simp,by simp,?_,?_⟩
   ·right;right;left;exact⟨rfl,rfl,by omega,by simp⟩
   rw[zj z7.eq_1];simp[z49,nwM,z4k,z4w,jG,zf,agC,z29,nwT,nwI,hi,hci,hz,hcz,hw,hT,hP,hR,hro,hsn,tk,tk2,zX,zg,zH]
  ·omega
  ·obtain rfl:=hb (by omega);refine⟨v+1,1,s.length+1,x,y,s++[⟨i,z,0,r⟩],by simp,by simp,?_,?_⟩
   ·right;right;right;left;exact⟨rfl,rfl,by simp⟩
   rw[zj z7.eq_1];simp[z49,nwM,z4k,z4w,jG,zf,agC,z29,nwT,nwI,hi,hci,hz,hcz,hw,hT,hP,hR,hro,hsn,tk,tk2,zX,zg,zH]
  ·obtain rfl:=hb (by omega);refine⟨v+1,2,s.length+1,x,y,s++[⟨i,z,0,r⟩],by simp,by simp,?_,?_⟩
   ·right;right;right;right;exact⟨rfl,rfl,by simp⟩
   rw[zj z7.eq_1];simp[z49,nwM,z4k,z4w,jG,zf,agC,z29,nwT,nwI,hi,hci,hz,hcz,hw,hT,hP,hR,hro,hsn,tk,tk2,zX,zg,zH]
theorem z6P{m:zD}{l:List AgV}(h:NwC m l)(i:Nat)(hi:i<l.length)(n0 va:Nat):∀(f z v q vb:Nat) (x y:z2T) (s:List z2T),z+f=m.ke.length->s.length+f<=1000->(q≠0->vb=s.length)->NwI q n0 z s->∃(b:Bool) (z' v' q' vb':Nat) (x' y':z2T) (s':List z2T),s'.length<=s.length+f/\(q'≠0->vb'=s'.length)/\NwI q' n0 z' s' /\
  Y L Cs z7 (some [10,4,1,9,2,6]) n0 (z49 l i z) (nwM m l v q false va vb x y s)=some (.exit 4,[(50,.w (Bo b)),(10,.w (W z')),(4,.w (Pt 1)),(1,.w (.c (.jc (z5 l)))),(9,.w (W i)),(2,.w (Pt 0)),(6,.w (Pt 2))],nwM m l v' q' false va vb' x' y' s'):=by
 intro f;induction f with
 |zero =>
  intro z v q vb x y s hz _ hb hq;obtain⟨b,e⟩:=z5X h i hi z v q n0 va vb x y s hq (.inl (by omega));exact⟨b,z,v,q,vb,x,y,s,by omega,hb,hq,e⟩
 |succ f ih =>
  intro z v q vb x y s hz hl hb hq;by_cases hs:(l[i]'hi).start<=0
  ·obtain⟨v1,q1,vb1,x1,y1,s1,h1,h2,h3,h4⟩:=z6O h i hi z v q n0 va vb x y s (by omega) hb hq (by omega) hs;obtain⟨b,z2,v2,q2,vb2,x2,y2,s2,g1,g2,g3,g4⟩:=ih (z+1) v1 q1 vb1 x1 y1 s1 (by omega) (by omega) h2 h3;exact⟨b,z2,v2,q2,vb2,x2,y2,s2,by omega,g2,g3,h4.trans g4⟩
  ·obtain⟨b,e⟩:=z5X h i hi z v q n0 va vb x y s hq (.inr ⟨by omega,hs⟩);exact⟨b,z,v,q,vb,x,y,s,by omega,hb,hq,e⟩
def NwJ(q:Nat)(s:List z2T):Prop:=q=0/\s=[]\/q=1/\s≠[]\/q=2/\s≠[]
theorem NwI.j{q n0 z:Nat}{s:List z2T}(h:NwI q n0 z s):NwJ q s:=by
 rcases h with⟨h1,_,h2⟩ |⟨h1,_,_,h2⟩ |⟨h1,_,_,h2⟩ |⟨h1,_,h2⟩ |⟨h1,_,h2⟩<;>simp[NwJ,h1,h2]
abbrev z5W(l:List AgV)(i:Nat):Env:=[(4,.w (Pt 1)),(1,.w (.c (.jc (z5 l)))),(9,.w (W i)),(2,.w (Pt 0)),(6,.w (Pt 2))]
theorem z6M{m:zD}{l:List AgV}(h:NwC m l)(i:Nat)(hi:i<l.length)(va v q vb:Nat)(x y:z2T)(s:List z2T)(hl:s.length+2<=1000)(hb:q≠0->vb=s.length)(hq:NwJ q s):∃(v' q' vb':Nat) (x' y':z2T) (s':List z2T),s'.length<=s.length+2/\(q'≠0->vb'=s'.length)/\NwJ q' s' /\
  Y L Cs z2M (some [4,1,9,2,6]) 4 (z5W l i) (nwM m l v q false va vb x y s)=Y L Cs z2M (some [4,1,9,2,6]) 4 (z5W l (i+1)) (nwM m l v' q' false va vb' x' y' s'):=by
 have htwo:=h.zn2;have v9:=h.few;have hci:(i:Int)<l.length:=by omega
 have hw:=zB (i:=i) (by omega);obtain⟨n0,hn0,hI⟩:∃n0,n0=(nwM m l v q false va vb x y s).length/\NwI q n0 0 s:=by
  rcases hq with⟨rfl,rfl⟩ |⟨rfl,hs⟩ |⟨rfl,hs⟩
  ·exact⟨4,by simp[nwT],by simp[NwI]⟩
  ·exact⟨6,by simp[nwT],by simp[NwI,hs]⟩
  ·exact⟨7,by simp[nwT],by simp[NwI,hs]⟩
 obtain⟨b,z2,v2,q2,vb2,x2,y2,s2,g1,g2,g3,g4⟩:=z6P h i hi n0 va m.ke.length 0 v q vb x y s (by omega) (by omega) hb hI;refine⟨v2,q2,vb2,x2,y2,s2,by omega,g2,g3.j,?_⟩;rw[zj z2M.eq_1];rcases hq with⟨rfl,rfl⟩ |⟨rfl,hs⟩ |⟨rfl,hs⟩<;>rcases g3.j with⟨rfl,rfl⟩ |⟨rfl,hs2⟩ |⟨rfl,hs2⟩<;>simp[z49,nwM,nwT,nwI]at hn0 g4<;>subst hn0<;>simp[z5W,nwM,nwT,nwI,hi,hci,hw,g4,zH]
theorem z6N{m:zD}{l:List AgV}(h:NwC m l)(va:Nat):∀(f i v q vb:Nat) (x y:z2T) (s:List z2T),i+f=l.length->s.length+2*f<=1000->(q≠0->vb=s.length)->NwJ q s->∃(v' q' vb':Nat) (x' y':z2T) (s':List z2T),s'.length<=s.length+2*f/\(q'≠0->vb'=s'.length)/\NwJ q' s' /\
  Y L Cs z2M (some [4,1,9,2,6]) 4 (z5W l i) (nwM m l v q false va vb x y s)=some (.exit 2,(38,.w (Bo false))::z5W l l.length,nwM m l v' q' false va vb' x' y' s'):=by
 intro f;induction f with
 |zero =>
  intro i v q vb x y s hi _ hb hq;obtain rfl:i=l.length:=by omega
  refine⟨v,q,vb,x,y,s,by omega,hb,hq,?_⟩;rw[zj z2M.eq_1];rcases hq with⟨rfl,rfl⟩ |⟨rfl,hs⟩ |⟨rfl,hs⟩<;>simp[z5W,nwM,nwT,nwI]
 |succ f ih =>
  intro i v q vb x y s hi hl hb hq;obtain⟨v1,q1,vb1,x1,y1,s1,h1,h2,h3,h4⟩:=z6M h i (by omega) va v q vb x y s (by omega) hb hq;obtain⟨v2,q2,vb2,x2,y2,s2,g1,g2,g3,g4⟩:=ih (i+1) v1 q1 vb1 x1 y1 s1 (by omega) (by omega) h2 h3;exact⟨v2,q2,vb2,x2,y2,s2,by omega,g2,g3,h4.trans g4⟩
theorem z6Q{m:zD}{l:List AgV}(h:NwC m l)(M:Mem)(hM:M.length=4):∀(f i:Nat),i+f=l.length ->
  Y L Cs z28 (some [6,2,1,8,4]) 4 [(6,.w (Pt 2)),(2,.w (Pt 0)),(1,.w (.c (.jc (z5 l)))),(8,.w (W i)),(4,.w (Pt 1))] M=some (.exit 0,[(26,.w (Bo false)),(1,.w (.c (.jc (z5 l)))),(2,.w (Pt 0)),(6,.w (Pt 2)),(8,.w (W l.length)),(4,.w (Pt 1))],M):=by
 have v9:=h.few;intro f;induction f with
 |zero =>
  intro i hi;obtain rfl:i=l.length:=by omega
  rw[zj z28.eq_1];simp
 |succ f ih =>
  intro i hi;have hil:i<l.length:=by omega
  have hci:(i:Int)<l.length:=by omega
  have hw:=zB (i:=i) (by omega);have hg:=h.gone i hil;rw[<-ih (i+1) (by omega),zj z28.eq_1];simp[agC,hil,hci,hg,hw,hM]
abbrev z4a(l:List AgV)(i j:Nat):Env:=[(12,.w (W j)),(4,.w (Pt 1)),(6,.w (Pt 2)),(2,.w (Pt 0)),(11,.w (W i)),(1,.w (.c (.jc (z5 l))))]
abbrev nwR(m:zD)(l:List AgV)(v q:Nat)(fz:Bool)(va vb:Nat)(x y:z2T)(s:List z2T):Mem:=bx 5 (zf m)::bxv 1 3 z7j::bxv v 3 [I 0,.slice 3 l.length 7 0 l.length none,nwI q s]::z4M fz va l::nwT q fz vb x y s
theorem z6K{m:zD}{l:List AgV}(h:NwC m l)(i j:Nat)(hi:i<l.length)(hj:j<l.length)(fz:Bool)(va v q vb n0:Nat)(x y:z2T)(s:List z2T)(hl:s.length<=1000)(hq:NwJ q s)(hn:n0=(nwM m l v q fz va vb x y s).length) :
  (∃fz' va' vb',Y L Cs z6 (some [12,4,6,2,11,1]) n0 (z4a l i j) (nwM m l v q fz va vb x y s)=Y L Cs z6 (some [12,4,6,2,11,1]) n0 (z4a l i (j+1)) (nwM m l v q fz' va' vb' x y s)) \/
  (∃fz' va' vb',Y L Cs z6 (some [12,4,6,2,11,1]) n0 (z4a l i j) (nwM m l v q fz va vb x y s)=some (.ret,[(4,.w (Pt 1)),(5,.w (W 12))],nwR m l v q fz' va' vb' x y s)):=by
 have hT:=h.there s i hi;have hU:=h.there s j hj;obtain⟨t,hO⟩:=h.touch i j hi hj;obtain⟨out,hZ⟩:=h.ke s i j hi hj hl;have v9:=h.few;have tk:=z63 l;have tk2:=z62 s;have hci:(i:Int)<l.length:=by omega
 have hcj:(j:Int)<l.length:=by omega
 have hw:=zB (i:=j) (by omega);have r0:z2H []=[]:=rfl;simp only[zf,agC]at hO hZ;by_cases c1:(l[i]'hi).start<=0
 ·rw[decide_eq_true c1]at hT;by_cases c2:(l[j]'hj).start<=0
  ·rw[decide_eq_true c2]at hU;cases t with
   |true =>
    right;refine⟨fz,va,vb,?_⟩;rw[zj z6.eq_1];rcases hq with⟨rfl,rfl⟩ |⟨rfl,hs⟩ |⟨rfl,hs⟩<;>simp[z4a,nwM,nwT,nwI]at hn<;>subst hn<;>(try simp only[r0]at hT hU hZ)<;>cases fz<;>simp[z4a,nwM,nwR,z4k,z4w,z4M,zf,agC,nwT,nwI,hi,hj,hci,hcj,hw,hT,hU,hO,tk,tk2,zX,zg,zH]
   |false =>
    by_cases c3:out=[]
    ·left;subst c3;refine⟨true,if fz then va else va+1,if q=0 then vb else if fz then vb else vb+1,?_⟩;rw[zj z6.eq_1];rcases hq with⟨rfl,rfl⟩ |⟨rfl,hs⟩ |⟨rfl,hs⟩<;>simp[z4a,nwM,nwT,nwI]at hn<;>subst hn<;>(try simp only[r0]at hT hU hZ)<;>cases fz<;>simp[z4a,nwM,nwR,z4k,z4w,z4M,zf,agC,nwT,nwI,hi,hj,hci,hcj,hw,hT,hU,hO,hZ,tk,tk2,zX,zg,zH]
    ·right;have c4:0<out.length:=jD.2 c3;refine⟨true,if fz then va else va+1,if q=0 then vb else if fz then vb else vb+1,?_⟩;rw[zj z6.eq_1];rcases hq with⟨rfl,rfl⟩ |⟨rfl,hs⟩ |⟨rfl,hs⟩<;>simp[z4a,nwM,nwT,nwI]at hn<;>subst hn<;>(try simp only[r0]at hT hU hZ)<;>cases fz<;>simp[z4a,nwM,nwR,z4k,z4w,z4M,zf,agC,nwT,nwI,hi,hj,hci,hcj,hw,hT,hU,hO,hZ,c4,tk,tk2,zX,zg,zH]
  ·rw[decide_eq_false c2]at hU;left;refine⟨fz,va,vb,?_⟩;rw[zj z6.eq_1];rcases hq with⟨rfl,rfl⟩ |⟨rfl,hs⟩ |⟨rfl,hs⟩<;>simp[z4a,nwM,nwT,nwI]at hn<;>subst hn<;>(try simp only[r0]at hT hU hZ)<;>cases fz<;>simp[z4a,nwM,nwR,z4k,z4w,z4M,zf,agC,nwT,nwI,hi,hj,hci,hcj,hw,hT,hU,tk,tk2,zX,zg,zH]
 ·rw[decide_eq_false c1]at hT;left;refine⟨fz,va,vb,?_⟩;rw[zj z6.eq_1];rcases hq with⟨rfl,rfl⟩ |⟨rfl,hs⟩ |⟨rfl,hs⟩<;>simp[z4a,nwM,nwT,nwI]at hn<;>subst hn<;>(try simp only[r0]at hT hU hZ)<;>cases fz<;>simp[z4a,nwM,nwR,z4k,z4w,z4M,zf,agC,nwT,nwI,hi,hj,hci,hcj,hw,hT,hU,tk,tk2,zX,zg,zH]
abbrev z48(l:List AgV)(i:Nat):Env:=[(4,.w (Pt 1)),(6,.w (Pt 2)),(2,.w (Pt 0)),(11,.w (W i)),(1,.w (.c (.jc (z5 l))))]
theorem z6L{m:zD}{l:List AgV}(h:NwC m l)(i:Nat)(hi:i<l.length)(v q n0:Nat)(x y:z2T)(s:List z2T)(hl:s.length<=1000)(hq:NwJ q s)(hn:∀fz va vb,n0=(nwM m l v q fz va vb x y s).length):∀(f j:Nat) (fz:Bool) (va vb:Nat),j+f=l.length ->
  (∃fz' va' vb',Y L Cs z6 (some [12,4,6,2,11,1]) n0 (z4a l i j) (nwM m l v q fz va vb x y s)=some (.exit 8,(90,.w (Bo false))::z4a l i l.length,nwM m l v q fz' va' vb' x y s)) \/
  (0<f/\∃fz' va' vb',Y L Cs z6 (some [12,4,6,2,11,1]) n0 (z4a l i j) (nwM m l v q fz va vb x y s)=some (.ret,[(4,.w (Pt 1)),(5,.w (W 12))],nwR m l v q fz' va' vb' x y s)):=by
 intro f;induction f with
 |zero =>
  intro j fz va vb hj;obtain rfl:j=l.length:=by omega
  left;refine⟨fz,va,vb,?_⟩;rw[zj z6.eq_1];simp[z4a,nwM]
 |succ f ih =>
  intro j fz va vb hj;rcases z6K h i j hi (by omega) fz va v q vb n0 x y s hl hq (hn fz va vb)with⟨f1,a1,b1,e⟩|e
  ·rcases ih (j+1) f1 a1 b1 (by omega)with⟨f2,a2,b2,e2⟩ |⟨_,f2,a2,b2,e2⟩
   ·exact .inl ⟨f2,a2,b2,e.trans e2⟩
   ·exact .inr ⟨by omega,f2,a2,b2,e.trans e2⟩
  ·exact .inr ⟨by omega,e⟩
theorem z68(q:Nat)(fz fz':Bool)(vb vb':Nat)(x y:z2T)(s:List z2T):(nwT q fz vb x y s).length=(nwT q fz' vb' x y s).length:=by
 unfold nwT;split
 ·rfl
 ·split<;>rfl
theorem z6I{m:zD}{l:List AgV}(h:NwC m l)(i:Nat)(hi:i<l.length)(fz:Bool)(va v q vb n0:Nat)(x y:z2T)(s:List z2T)(hl:s.length<=1000)(hq:NwJ q s)(hn:∀fz va vb,n0=(nwM m l v q fz va vb x y s).length) :
  (∃fz' va' vb',Y L Cs z2t (some [4,6,2,11,1]) n0 (z48 l i) (nwM m l v q fz va vb x y s)=Y L Cs z2t (some [4,6,2,11,1]) n0 (z48 l (i+1)) (nwM m l v q fz' va' vb' x y s)) \/
  (1<l.length/\∃fz' va' vb',Y L Cs z2t (some [4,6,2,11,1]) n0 (z48 l i) (nwM m l v q fz va vb x y s)=some (.ret,[(4,.w (Pt 1)),(5,.w (W 12))],nwR m l v q fz' va' vb' x y s)):=by
 have v9:=h.few;have hci:(i:Int)<l.length:=by omega
 have hw:=zB (i:=i) (by omega);rcases z6L h i hi v q n0 x y s hl hq hn (l.length-(i+1)) (i+1) fz va vb (by omega)with⟨f1,a1,b1,e⟩ |⟨hlt,f1,a1,b1,e⟩
 ·left;refine⟨f1,a1,b1,?_⟩;have hn1:=hn fz va vb;rw[zj z2t.eq_1];rcases hq with⟨rfl,rfl⟩ |⟨rfl,hs⟩ |⟨rfl,hs⟩<;>simp[nwM,nwT]at hn1<;>subst hn1<;>simp[z4a,nwM,nwT,nwI]at e<;>simp[z48,nwM,nwT,nwI,hi,hci,hw,e]
 ·right;refine⟨by omega,f1,a1,b1,?_⟩;have hn1:=hn fz va vb;rw[zj z2t.eq_1];rcases hq with⟨rfl,rfl⟩ |⟨rfl,hs⟩ |⟨rfl,hs⟩<;>simp[nwM,nwT]at hn1<;>subst hn1<;>simp[z4a,nwM,nwR,nwT,nwI]at e<;>simp[z48,nwM,nwR,nwT,nwI,hi,hci,hw,e]
theorem z6J{m:zD}{l:List AgV}(h:NwC m l)(v q n0:Nat)(x y:z2T)(s:List z2T)(hl:s.length<=1000)(hq:NwJ q s)(hn:∀fz va vb,n0=(nwM m l v q fz va vb x y s).length):∀(f i:Nat) (fz:Bool) (va vb:Nat),i+f=l.length ->
  (∃fz' va' vb',Y L Cs z2t (some [4,6,2,11,1]) n0 (z48 l i) (nwM m l v q fz va vb x y s)=some (.exit 6,(82,.w (Bo false))::z48 l l.length,nwM m l v q fz' va' vb' x y s)) \/
  (1<l.length/\∃fz' va' vb',Y L Cs z2t (some [4,6,2,11,1]) n0 (z48 l i) (nwM m l v q fz va vb x y s)=some (.ret,[(4,.w (Pt 1)),(5,.w (W 12))],nwR m l v q fz' va' vb' x y s)):=by
 intro f;induction f with
 |zero =>
  intro i fz va vb hi;obtain rfl:i=l.length:=by omega
  left;refine⟨fz,va,vb,?_⟩;rw[zj z2t.eq_1];simp[z48,nwM]
 |succ f ih =>
  intro i fz va vb hi;rcases z6I h i (by omega) fz va v q vb n0 x y s hl hq hn with⟨f1,a1,b1,e⟩|e
  ·rcases ih (i+1) f1 a1 b1 (by omega)with⟨f2,a2,b2,e2⟩ |⟨hlt,f2,a2,b2,e2⟩
   ·exact .inl ⟨f2,a2,b2,e.trans e2⟩
   ·exact .inr ⟨hlt,f2,a2,b2,e.trans e2⟩
  ·exact .inr e
theorem z6Y{m:zD}{l:List AgV}(h:NwC m l)(hl:0<l.length)(e:Int)(hC:R L Cs z3m [.a (zf m),.a [I 0,.jc (z5 l),.jc []]] []=some (.w (W e),[]))
  (hP:R L Cs z2u [.a [I 0,.jc (z5 l),.jc []]] []=some (.w (.a [I 0,.slice 0 l.length 7 0 l.length none,.jd]),[z4M false l.length l])) :
  ∃(e':Int) (ins:List z2T),ins.length<=1000/\(e=0->l.length=1->e'=0)/\R L Cs z3v [.a (zf m),.c (.jc (z5 l))] []=some (.t [.a (if e'=0 then [I 0,.jc (z5 l),.jc (z2H ins)] else [I 0,.jc [],.jc []]),W e'],[]):=by
 have v9:=h.few;have tk:=z63 l;simp only[zf]at hC;by_cases c:e=0
 ·subst c;have h1:=z6Q h (nwM m l 1 0 false l.length 0 z46 z46 []) (by simp[nwT]) l.length 0 (by omega);obtain⟨v,q,vb,x,y,s,g1,g2,g3,h3⟩:=z6N h l.length l.length 0 1 0 0 z46 z46 [] (by omega) (by simp;omega) (fun h=>absurd rfl h) (.inl ⟨rfl,rfl⟩);have hs:s.length<=1000:=by simp at g1;omega
  have tk2:=z62 s;rcases z6J h v q _ x y s hs g3 (fun fz va vb=>show(nwM m l v q false 0 0 x y s).length=_ by simp only[nwM,jM];rw[z68]) l.length 0 false l.length vb (by omega)with⟨f1,a1,b1,h5⟩ |⟨hlt,f1,a1,b1,h5⟩
  ·refine⟨0,s,hs,fun _ _=>rfl,?_⟩;rw[zUa z3l rfl];rcases g3 with⟨rfl,rfl⟩ |⟨rfl,hs2⟩ |⟨rfl,hs2⟩<;>simp[z5W,z48,nwM,nwT,nwI,zf]at h1 h3 h5<;>cases f1<;>simp[z2X,zf,hC,hP,h1,h3,h5,tk,tk2,show z2H []=[] from rfl,zg,zH,zX]
  ·refine⟨12,[],by simp,fun _ h1=>by omega,?_⟩;rw[zUa z3l rfl];rcases g3 with⟨rfl,rfl⟩ |⟨rfl,hs2⟩ |⟨rfl,hs2⟩<;>simp[z5W,z48,nwM,nwR,nwT,nwI,zf]at h1 h3 h5<;>cases f1<;>simp[z2X,zf,hC,hP,h1,h3,h5,tk,tk2,zg,zH,zX]
 ·refine⟨e,[],by simp,fun h0 _=>h0,?_⟩;have cb:(e==0)=false:=by simp[c]
  have cc:(e !=0)=true:=by simp[c]
  rw[zUa z3l rfl];simp[z2X,zf,hC,hP,c,cb,cc,tk,zg,zH,zX]
theorem z7g(l:List AgV)(h0:0<l.length)(hl:l.length<=7)(h:∀a∈l,a.jh≠[]/\a.jh.length<=8):R L Cs z2u [.a [I 0,.jc (z5 l),.jc []]] []=some (.w (.a [I 0,.slice 0 l.length 7 0 l.length none,.jd]),[z4M false l.length l]):=by
 match l,h0,hl,h with
 |[a],_,_,h=>exact copy1 a (h a (by simp))
 |[a,b],_,_,h=>exact copy2 a b (h a (by simp)) (h b (by simp))
 |[a,b,c],_,_,h=>exact copy3 a b c (h a (by simp)) (h b (by simp)) (h c (by simp))
 |[a,b,c,d],_,_,h=>exact copy4 a b c d (h a (by simp)) (h b (by simp)) (h c (by simp)) (h d (by simp))
 |[a,b,c,d,e],_,_,h=>exact copy5 a b c d e (h a (by simp)) (h b (by simp)) (h c (by simp)) (h d (by simp)) (h e (by simp))
 |[a,b,c,d,e,f],_,_,h=>exact copy6 a b c d e f (h a (by simp)) (h b (by simp)) (h c (by simp)) (h d (by simp)) (h e (by simp)) (h f (by simp))
 |[a,b,c,d,e,f,g],_,_,h=>exact copy7 a b c d e f g (h a (by simp)) (h b (by simp)) (h c (by simp)) (h d (by simp)) (h e (by simp)) (h f (by simp)) (h g (by simp))
 |_::_::_::_::_::_::_::_::_,_,hl,_=>simp at hl
theorem z7o{m:zD}{zs:List Zon}{ss:List Sgn}(hF:z7y m zs ss):z6t m:=by
 intro l h0 hl hk hfst;have h:=hF.full.vA;have hz:m.ke.length=zs.length:=by rw[hF.full.zd.z];simp
 have hc:NwC m l:={
  there:=fun s i hi=>z56 ⟨0,l,s⟩ i hi (hk _ (je hi)).here
  pres:=fun i hi z _=>⟨_,z4G hF (hk _ (je hi)) z⟩
  uE:=fun i hi z hzl=>z7f hF (hk _ (je hi)) z (by omega)
  touch:=fun i j hi hj=>⟨_,z55 h (hk _ (je hi)) (hk _ (je hj))⟩
  ke:=fun s i j hi hj _=>z6X hF ⟨0,l,s⟩ i j hi hj (hk _ (je hi)) (hk _ (je hj))
  gone:=fun i hi=>(hk _ (je hi)).here
  few:=hl
  zn2:=by have:=hF.zn2;omega }
 have hC:=z5f h ⟨0,l,[]⟩ ⟨by simp,hk,by simp only;omega,h0,hfst h0,by simp⟩;exact z6Y hc h0 _ hC (z7g l h0 hl fun a ha=>⟨((hk a ha).on h).2.1,((hk a ha).on h).2.2⟩)
theorem z6h{m:zD}(h:zcp m):R L Cs z3m [.a (zf m),.a [I 0,.jc [],.jc []]] []=some (.w (W 6),[]):=by
 have hk:=h.yc;simp only[zf]at hk;rw[zUa z3L rfl];simp[z2I,zf,hk,zg]
theorem z6Z{m:zD}(h:zcp m):R L Cs z3v [.a (zf m),.c (.jc [])] []=some (.t [.a z3C,W 6],[]):=by
 have hC:=z6h h;have hP:=copy0;simp only[zf,z5,qd]at hC hP;rw[zUa z3l rfl];simp[z2X,zf,hC,hP,z3C,zg,zH,zX]
theorem z6o{m:zD}(h:zcp m):∀(l:List Int) (a:Int),(∀x∈l,0<=x/\x<m.jf.length)->a<=zmd m a l
 |[],_,_=>Int.le_refl _
 |x::t,a,ho=>by
  have h1:=zcX h (ho x (by simp));have h2:=z6o h t (a+z8 m x) (fun y hy=>ho y (by simp[hy]));unfold zmd;omega
theorem z6U{m:zD}(h:zcp m){l:List Int}(hr:zdA m l=0):1000<=zmd m 0 l:=by
 obtain⟨hon,hne,hl8⟩:=zg1 h hr;cases l with
 |nil=>exact absurd rfl hne
 |cons x t =>
  have h1:=zcX h (hon x (by simp));have h2:=z6o h t (0+z8 m x) (fun y hy=>hon y (by simp[hy]));unfold zmd;omega
theorem z69{m:zD}(h:zcp m)(a:AgV)(ha:KAg m a)(hv:a.v=0):z31 m ⟨0,[a],[]⟩=0:=by
 have h1:=z5w (zaK m (z42 m a));have:z3z m a=0:=by unfold z3z;rw[hv,if_pos (by omega)]
 simp[z31,this]
theorem z7i{m:zD}{zs:List Zon}{ss:List Sgn}(hF:z7y m zs ss)(q:List z45)(hq:q.length<=7):∃s,KSn m s/\R L Cs z4x [.a (zf m),.c (.jc (z32 q))] []=some (.w (.a (snC s)),[]):=by
 have h:=hF.full.vA;have hN:=z7o hF;have hn:=z6Z h;obtain⟨l,v,st,b,hl,hst,hL⟩:=z65 hF hN q hq q.length 0 1 z3C [] (by omega) (by simp) ⟨⟨_,_,rfl⟩,by simp,fun h=>absurd h (by simp),fun h=>absurd rfl h⟩;obtain⟨A,B,rfl⟩:=hst.1;by_cases c:l=[]
 ·subst c;obtain⟨a,ha,h0,hln,hA⟩:=z5h hF ⟨0,1048576,0,0,0,false⟩ true;have hlen:=hln (by simp);have hb:=z6U h ha.jh;obtain⟨rt,as,av,al,ast,ao,ag⟩:=a;simp only at hlen hb h0;subst hlen;have hka:KAg m ⟨rt,301,0,300,ast,ao,ag⟩:=⟨ha.jh,by simp,ha.start,⟨by simp,by simp only;omega⟩,fun hp=>absurd (h0 (by simp)) (by simp only at hp;omega),ha.here⟩;obtain⟨e,ins,vP,he,hNw⟩:=hN [⟨rt,301,0,300,ast,ao,ag⟩] (by simp) (by simp) (by simpa using hka) (by intro _;exact h0 (by simp));obtain rfl:=he (z69 h _ hka rfl) rfl;refine⟨⟨0,[⟨rt,301,0,300,ast,ao,ag⟩],ins⟩,⟨by simp,by simpa using hka,by simp,by simp,h0 (by simp),vP⟩,?_⟩;simp only[zf,z3N,agC,z3C,z5,jT,qd,scE,scM,agW,↓reduceIte,ji]at hn hA hNw hL;rw[zUa z3U rfl];simp only[snC,z5,jT,qd,agC]at hNw ⊢;have w3:IntKind.i64.wrap 301=301:=rfl;simp[z3k,zf,z3C,hn,hL,hA,hNw,w3,zg,zH,zX]
 ·obtain⟨ins,vP,e⟩:=hst.2.2.2 c;have hp:0<l.length:=jD.2 c;refine⟨⟨0,l,ins⟩,⟨by simp,hst.2.1,by simp only;omega,hp,hst.2.2.1 hp,vP⟩,?_⟩;rw[<-e];simp only[zf,z3C,scE,scM,agW,c,↓reduceIte,ji]at hn hL;have l0:((l.length:Int)==0)=false:=beq_false_of_ne (by omega);have lr:z5 l≠[]:=by simpa [z5]using c
  rw[zUa z3U rfl];simp only[snC]at e;obtain⟨rfl,rfl⟩:A=z5 l/\B=z2H ins:=by simpa using e
  simp[z3k,zf,z3C,hn,hL,l0,lr,c,zg,zH,zX]
theorem z5o{m:zD}(h:zcp m)(s:SnV)(ht:0<=s.tick)(i:Nat)(hi:i<s.agents.length)(ha:KAg m s.agents[i])(h0:i=0->s.agents[i].start=0) :
  R L Cs z3X [.a (zf m),.a (snC s),W i] []=some (.w (W (z3z m s.agents[i])),[]):=by
 have hR:=zos m h.small h.chk s.agents[i].jh (by have:=(ha.on h).2.2;omega);rw[ha.jh]at hR;have hE:=zsq h ha.jh;have hL:=z6v h ha;have hG:=z7c h ha;have hend:=ha.uJ h;obtain⟨h1,h2,h3,h4,h5,h6⟩:=ha;have hon:=KAg.on_ok h ⟨h1,h2,h3,h4,h5,h6⟩;have hk:=zu9 h hon;have hB:=zmo hk;obtain⟨j,hj,ej,ek⟩:=z5b hon;unfold z3z;generalize s.agents[i].s-zb4 m s.agents[i].jh (z4R m s.agents[i])=off at *;generalize z42 m s.agents[i]=x at *;generalize hag:s.agents[i]=a at *;subst ej;have hnum:(decide (a.len<300)=false)/\decide (20000<a.len)=false/\decide (a.start<0)=false/\decide (1099511627776<a.start)=false/\decide (a.s<0)=false/\decide (zmd m 0 a.jh+a.len+2000<a.s)=false:=by
  refine⟨?_,?_,?_,?_,?_,?_⟩<;>simp<;>omega
 obtain⟨n1,n2,n3,n4,n5,n6⟩:=hnum;have w1:=qc (zmd m 0 a.jh+a.len);have w2:=qc (zmd m 0 a.jh+a.len+2000);have AL:(decide (s.tick<a.start) && !(a.s==0))=false:=by
  by_cases c:s.tick<a.start
  ·have:=h5 (by omega);simp[this]
  ·simp[c]
 have hzero:((i:Int)==0 && !(a.start==0))=false:=by
  by_cases c:i=0
  ·simp[h0 c]
  ·simp[c]
 have hob:(decide (s.tick<a.start) && !(a.s==0)||(i:Int)==0 && !(a.start==0))=false:=by rw[AL,hzero];rfl
 have m1:¬a.len<300:=by omega
 have m2:¬20000<a.len:=by omega
 have m3:¬a.start<0:=by omega
 have m4:¬1099511627776<a.start:=by omega
 have m5:¬a.s<0:=by omega
 have m6:¬zmd m 0 a.jh+a.len+2000<a.s:=by omega
 rw[ek]at hB ⊢;simp only[zf,agC,h6]at hR hE hL hG hB;rw[zUa z4J rfl];by_cases c1:a.v<0
 ·have c1':¬(0<=a.v/\a.v<=zeR m.jf[j].kind):=by omega
  rw[if_neg c1'];simp[z2W,zf,snC,hi,hag,agC,zo,hj,hR,hE,hL,hG,hB,h6,w1,w2,m1,m2,m3,m4,m5,m6,c1,zg,zH]
 ·by_cases c2:zeR m.jf[j].kind<a.v
  ·have c1':¬(0<=a.v/\a.v<=zeR m.jf[j].kind):=by omega
   rw[if_neg c1'];simp[z2W,zf,snC,hi,hag,agC,zo,hj,hR,hE,hL,hG,hB,h6,w1,w2,m1,m2,m3,m4,m5,m6,c1,c2,zg,zH]
  ·have c1':(0<=a.v/\a.v<=zeR m.jf[j].kind):=by omega
   rw[if_pos c1'];by_cases d1:s.tick<a.start
   ·have d2:a.s=0:=h5 (by omega);have d3:i≠0:=by intro e;have:=h0 e;omega
    have d3':((i:Int)==0)=false:=by simp[d3]
    have d2b:(a.s !=0)=false:=by simp[d2]
    simp[z2W,zf,snC,hi,hag,agC,zo,hj,hR,hE,hL,hG,hB,h6,w1,w2,m1,m2,m3,m4,m5,m6,c1,c2,d1,d2b,d3',zg,zH]
   ·by_cases d3:i=0
    ·have d4:=h0 d3;have d3b:((i:Int)==0)=true:=by simp[d3]
     have d4b:(a.start !=0)=false:=by simp[d4]
     simp[z2W,zf,snC,hi,hag,agC,zo,hj,hR,hE,hL,hG,hB,h6,w1,w2,m1,m2,m3,m4,m5,m6,c1,c2,d1,d3b,d4b,zg,zH]
    ·have d3':((i:Int)==0)=false:=by simp[d3]
     simp[z2W,zf,snC,hi,hag,agC,zo,hj,hR,hE,hL,hG,hB,h6,w1,w2,m1,m2,m3,m4,m5,m6,c1,c2,d1,d3,d3',zg,zH]
theorem z6d(s:SnV)(x:z2T):R L Cs z4l [.a (z29 x),.c (.ptr 0 0 0 0)] [bx 3 (snC s)]=some (.w (Bo (zIY s.tick x)),[bx 3 (snC s)]):=by
 rw[zUa z44 rfl];unfold zIY;by_cases c1:x.since<0
 ·simp[z3i,snC,z29,c1,zg,zH]
 by_cases c2:s.tick<x.since
 ·simp[z3i,snC,z29,c1,c2,zg,zH]
 by_cases c3:x.uE<0
 ·simp[z3i,snC,z29,c1,c2,c3,zg,zH]
 by_cases c4:100<x.uE<;>simp[z3i,snC,z29,c1,c2,c3,c4,zg,zH]
abbrev z7k:Cl:=.fn z4l [] [.ptr 0 0 0 0]
theorem z5I(s:SnV)(hs:s.ins.length<=1000):R L Cs z3Y [.c (.jc (z2H s.ins)),.c z7k] [bx 3 (snC s)]=some (.w (Bo (s.ins.any (zIY s.tick))),[bx 3 (snC s)]):=by
 obtain⟨k,h1,h2⟩:=z6S s.ins (by omega) z7k (zIY s.tick) [bx 3 (snC s)] (fun x _=>by
  have h:=z6d s x;simp only[snC,z29]at h;simp[h,snC,z29])
 rw[zUa z3Z rfl];simp only[snC]at h1;simp[z3g,h1,h2,snC]
theorem z5P(m:zD)(s:SnV)(hn:s.ins.length<=1000)(i:Nat)(hi:i<s.ins.length) :
  Y L Cs z3d (some [50,49,2,3,51]) 2 [(50,.w (W s.ins.length)),(49,.w (.c (.jc (z2H s.ins)))),(2,.w (Pt 0)),(3,.w (Pt 1)),(51,.w (W i))] [bx 5 (zf m),bx 3 (snC s)] =
    if z5F s.agents.length m.ke.length s.ins i then some (.ret,[(4,.w (W 11))],[bx 5 (zf m),bx 3 (snC s),bxv 1 4 (z29 s.ins[i])])
    else Y L Cs z3d (some [50,49,2,3,51]) 2 [(50,.w (W s.ins.length)),(49,.w (.c (.jc (z2H s.ins)))),(2,.w (Pt 0)),(3,.w (Pt 1)),(51,.w (W (i+1:Nat)))] [bx 5 (zf m),bx 3 (snC s)]:=by
 have hw:=zB (i:=i) (by omega);have hci:(i:Int)<s.ins.length:=by omega
 rw[zj z3d.eq_1];unfold z5F;rw[show s.ins.getD i z3A=s.ins[i] by simp[hi]];by_cases c1:s.ins[i].ks<0
 ·simp[snC,z29,zf,hi,c1,zg,zH]
 by_cases c2:(s.agents.length:Int)<=s.ins[i].ks
 ·simp[snC,z29,zf,hi,c1,c2,zg,zH]
 by_cases c3:s.ins[i].k9<0
 ·simp[snC,z29,zf,hi,c1,c2,c3,zg,zH]
 by_cases c4:(m.ke.length:Int)<=s.ins[i].k9
 ·simp[snC,z29,zf,hi,c1,c2,c3,c4,zg,zH]
 cases i with
 |zero =>
  have w1:IntKind.i64.wrap 1=1:=rfl;simp[snC,z29,zf,hi,w1,c1,c2,c3,c4,zg,zH]
 |succ k =>
  have hk:k<s.ins.length:=by omega
  have wk:=qc (k:Int);simp only[show s.ins.getD (k+1) z3A=s.ins[k+1] by simp[hi],show s.ins.getD k z3A=s.ins[k] by simp[hk]];have kA:(0:Int)<(k:Int)+1:=by omega
  have a0:IntKind.i64.wrap ((k:Int)+1-1)=(k:Int):=by rw[zTd _ (by omega) (by omega)];omega
  have a1:(0:Int)<=(k:Int)+1:=by omega
  have a2:(k:Int)+1<(s.ins.length:Int):=by omega
  have a3:((k:Int)+1).toNat=k+1:=by omega
  have a4:(k:Int)<(s.ins.length:Int):=by omega
  have hw2:=qc ((k:Int)+1+1);generalize hy:s.ins[k]=y at *;generalize hx:s.ins[k+1]=x at *;have hO:=z7h y x;have hg:=z67 x y;simp only[z29]at hO;by_cases c5:0<=z6H y x
  ·rw[<-hg];simp[snC,z29,zf,hi,hx,hy,a0,a1,a2,a3,a4,hk,wk,kA,c1,c2,c3,c4,hO,c5,zg,zH]
  ·rw[<-hg];simp[snC,z29,zf,hi,hx,hy,a0,a1,a2,a3,a4,hk,hw2,wk,kA,c1,c2,c3,c4,hO,c5,zg,zH]
theorem z6z{m:zD}(h:zcp m)(s:SnV)(hs:KSn m s):Y L Cs z3e (some [36,2,3,37]) 2 [(36,.w (W s.agents.length)),(2,.w (Pt 0)),(3,.w (Pt 1)),(37,.w (W 0))] [bx 5 (zf m),bx 3 (snC s)] =
  some (if s.agents.any (fun a=>decide (z3z m a≠0)) then(.ret,[(4,.w (W 2))],[bx 5 (zf m),bx 3 (snC s)]) else(.exit 1,[(38,.w (Bo false)),(3,.w (Pt 1)),(2,.w (Pt 0)),(36,.w (W s.agents.length)),(37,.w (W s.agents.length))],[bx 5 (zf m),bx 3 (snC s)])):=by
 have v9:=hs.few;have hC:∀(i:Nat) (hi:i<s.agents.length),R L Cs z3X [.a (zf m),.a (snC s),W i] []=some (.w (W (z3z m s.agents[i])),[]):=fun i hi=>z5o h s hs.tick.1 i hi (hs.ags _ (je hi)) (by rintro rfl;exact hs.first)
 have:=zpE (L:=L) (Cs:=Cs) (b:=z3e) (live:=some [36,2,3,37]) (n0:=2) s.agents (fun i=>[(36,.w (W s.agents.length)),(2,.w (Pt 0)),(3,.w (Pt 1)),(37,.w (W i))]) [bx 5 (zf m),bx 3 (snC s)] (fun a=>decide (z3z m a≠0)) (.ret,[(4,.w (W 2))],[bx 5 (zf m),bx 3 (snC s)]) (.exit 1,[(38,.w (Bo false)),(3,.w (Pt 1)),(2,.w (Pt 0)),(36,.w (W s.agents.length)),(37,.w (W s.agents.length))],[bx 5 (zf m),bx 3 (snC s)])
  (fun i hi hb=>by
   have hw:=zB (i:=i) (by omega);have hc:=hC i hi;have e0:z3z m s.agents[i]=0:=by simpa using hb
   rw[e0]at hc;simp only[zf,snC]at hc;rw[zj z3e.eq_1];simp[zf,snC,hi,hw,hc])
  (fun i hi hb=>by
   have hc:=hC i hi;have e0:z3z m s.agents[i]=2:=z50 (by simpa using hb);rw[e0]at hc;simp only[zf,snC]at hc;rw[zj z3e.eq_1];simp[zf,snC,hi,hc])
  (by rw[zj z3e.eq_1];simp[snC,zf])
 simpa using this
theorem z6c{m:zD}(h:zcp m)(s:SnV)(hs:KSn m s):R L Cs z5n [.a (zf m),.a (snC s)] []=some (.w (W (z31 m s)),[]):=by
 have hk:=h.chk;have ht:=hs.tick;have v9:=hs.few;have qM:=hs.some;have vP:=hs.ins;have h1:=z6z h s hs;have h2:=zxf (L:=L) (Cs:=Cs) (b:=z3d) (live:=some [50,49,2,3,51]) (n0:=2) (List.range s.ins.length) (fun i=>[(50,.w (W s.ins.length)),(49,.w (.c (.jc (z2H s.ins)))),(2,.w (Pt 0)),(3,.w (Pt 1)),(51,.w (W i))]) [bx 5 (zf m),bx 3 (snC s)] (z5F s.agents.length m.ke.length s.ins) (fun i=>(.ret,[(4,.w (W 11))],[bx 5 (zf m),bx 3 (snC s),bxv 1 4 (z29 (s.ins.getD i z3A))])) (.exit 3,[(52,.w (Bo false)),(3,.w (Pt 1)),(2,.w (Pt 0)),(49,.w (.c (.jc (z2H s.ins)))),(50,.w (W s.ins.length)),(51,.w (W s.ins.length))],[bx 5 (zf m),bx 3 (snC s)])
  (fun i hi hb=>by
   rw[kE]at hi;rw[kN]at hb;rw[z5P m s vP i hi,hb];simp)
  (fun i hi hb=>by
   rw[kE]at hi;rw[kN]at hb;rw[z5P m s vP i hi,hb];simp[hi])
  (by rw[zj z3d.eq_1];simp[snC,zf])
 have h3:=z5I s vP;have t1:¬s.tick<0:=by omega
 have t2:¬1099511627776<s.tick:=by omega
 have t3:((s.agents.length:Int)==0)=false:=beq_false_of_ne (by omega);have t3':s.agents≠[]:=by intro e;simp[e]at qM
 have t4:¬8<s.agents.length:=by omega
 have t4':¬(8:Int)<s.agents.length:=by omega
 unfold z31;simp only[zf,snC,ji]at hk h1 h2 h3;rw[zUa z5t rfl];by_cases c1:s.agents.any (fun a=>decide (z3z m a≠0))
 ·rw[if_pos c1]at h1 ⊢;simp[z3p,zf,snC,hk,t1,t2,t3,t3',t4,t4',h1,zg]
 ·rw[if_neg c1]at h1 ⊢;cases e2:(List.range s.ins.length).findIdx? (z5F s.agents.length m.ke.length s.ins)with
  |some i =>
   rw[zRn _ _ e2];rw[e2]at h2;simp[z3p,zf,snC,hk,t1,t2,t3,t3',t4,t4',h1,h2,zg]
  |none =>
   rw[zRq _ _ e2];rw[e2]at h2;cases e3:s.ins.any (zIY s.tick)with
   |true =>
    rw[e3]at h3;simp[z3p,zf,snC,hk,t1,t2,t3,t3',t4,t4',h1,h2,h3,zg]
   |false =>
    rw[e3]at h3;simp[z3p,zf,snC,hk,t1,t2,t3,t3',t4,t4',h1,h2,h3,zg]
def z4q(p:Spn)(a:AgV)(b:zk):Bool:=decide (b.lane=p.lane)&&decide (b.lo<=p.lo)&&decide (p.hi<=b.hi)&&(decide (b.vlo<=a.v)&&decide (a.v<=b.vhi))
def unc(k:zci)(a:AgV)(p:Spn):Bool:=!k.ju.any (z4q p a)
abbrev z5v:Spn:=⟨0,0,0⟩
def pSn(m:zD)(k:zci)(a:AgV):Spn:=match (z2B m a).findIdx? (unc k a)with |some j=>(z2B m a).getD j z5v |none=>z5v
abbrev z3O:AgV:=⟨[],0,0,0,0,false,false⟩
def z4z(m:zD)(s:SnV)(k:zci)(i:Nat):Bool:=decide (0<i)&&decide ((s.agents.getD i z3O).start<=s.tick)&&(z2B m (s.agents.getD i z3O)).any (unc k (s.agents.getD i z3O))
def z7p(a:AgV)(x:Ego):Bool:=decide (x.slo<=a.s)&&decide (a.s<=x.shi)&&(decide (x.vlo<=a.v)&&decide (a.v<=x.vhi))
def z4P(m:zD)(s:SnV)(k:zci):Bool :=
 decide (z31 m s=0)&&decide (zdf m k=0)&&decide (s.tick=k.tick)&&z7p (s.agents.getD 0 z3O) k.ego && !(List.range s.agents.length).any (z4z m s k)
theorem z4Z{α:Type}{l:List α}{p:α->Bool}{i:Nat}(h:l.findIdx? p=some i):l.any p=true:=by
 obtain⟨h1,h2,_⟩:=jC.1 h;exact kx.2 ⟨_,je h1,h2⟩
theorem z4N{α:Type}{l:List α}{p:α->Bool}(h:l.findIdx? p=none):l.any p=false:=by
 rw[jV]at h;simpa using h
abbrev cvM(p:Spn)(a:AgV):Mem:=[bxv 1 3 (zWX p),bxv 1 7 (agC a)]
abbrev z7v:Cl:=.fn z35 [] [.ptr 0 0 0 0,.ptr 1 0 0 0]
theorem z6g(p:Spn)(a:AgV)(b:zk):R L Cs z35 [.a (ze b),.c (.ptr 0 0 0 0),.c (.ptr 1 0 0 0)] (cvM p a)=some (.w (Bo (z4q p a b)),cvM p a):=by
 have hw:=ziC a.v b.vlo b.vhi;rw[zUa z4X rfl];unfold z4q;generalize (decide (b.vlo<=a.v)&&decide (a.v<=b.vhi))=v at *;by_cases c1:b.lane=p.lane
 ·have b1:(b.lane==p.lane)=true:=by simp[c1]
  have d1:decide (b.lane=p.lane)=true:=by simp[c1]
  by_cases c2:b.lo<=p.lo<;>by_cases c3:p.hi<=b.hi<;>simp[z3x,ze,zWX,agC,b1,d1,c2,c3,hw,zg,zH]
 ·have b1:(b.lane==p.lane)=false:=by simp[c1]
  simp[z3x,ze,zWX,agC,c1,b1,zg,zH]
theorem z4S(p:Spn)(a:AgV)(l:List zk)(hl:l.length<=100000000000):R L Cs z3f [.c (.jc (zI l)),.c z7v] (cvM p a)=some (.w (Bo (l.any (z4q p a))),cvM p a):=by
 obtain⟨k,h1,h2⟩:=z5c l hl z7v (z4q p a) (cvM p a) (fun b _=>by
  have h:=z6g p a b;simp only[cvM,ze,zWX,agC]at h;simp[h,cvM,ze,zWX,agC])
 rw[zUa z3h rfl];simp only[cvM,zWX,agC]at h1;simp[z2O,h1,h2,cvM,zWX,agC]
abbrev coM(m:zD)(s:SnV)(k:zci)(a0:AgV):Mem:=[bx 5 (zf m),bx 3 (snC s),bx 6 (zG k),bxv 1 7 (agC a0),bxv 1 4 (zch k.ego)]
abbrev ciE(m:zD)(s:SnV)(a:AgV)(i j:Nat):Env:=[(74,.w (W (z2B m a).length)),(3,.w (Pt 0)),(4,.w (Pt 1)),(56,.w (.c (.jc (z5 s.agents)))),(57,.w (W s.agents.length)),(58,.w (W i)),(73,.w (.c (.jc (zWx (z2B m a))))),(10,.w (Pt 5)),(5,.w (Pt 2)),(75,.w (W j))]
theorem z6k(m:zD)(s:SnV)(k:zci)(a0:AgV)(hk:k.ju.length<=100000000000)(a:AgV)(i:Nat)(hn:(z2B m a).length<=8):Y L Cs z26 (some [74,3,4,56,57,58,73,10,5,75]) 6 (ciE m s a i 0) (coM m s k a0++[bxv 1 7 (agC a)]) =
  some (if(z2B m a).any (unc k a) then(.ret,[(6,.w (Bo false))],coM m s k a0++[bxv 1 7 (agC a),bxv 1 3 (zWX (pSn m k a))])
   else(.exit 2,[(76,.w (Bo false)),(5,.w (Pt 2)),(10,.w (Pt 5)),(73,.w (.c (.jc (zWx (z2B m a))))),(58,.w (W i)),(57,.w (W s.agents.length)),(56,.w (.c (.jc (z5 s.agents)))),(4,.w (Pt 1)),(3,.w (Pt 0)),(74,.w (W (z2B m a).length)),(75,.w (W (z2B m a).length))],coM m s k a0++[bxv 1 7 (agC a)])):=by
 have hL:=zxf (L:=L) (Cs:=Cs) (b:=z26) (live:=some [74,3,4,56,57,58,73,10,5,75]) (n0:=6) (z2B m a) (fun j=>ciE m s a i j) (coM m s k a0++[bxv 1 7 (agC a)]) (unc k a) (fun j=>(.ret,[(6,.w (Bo false))],coM m s k a0++[bxv 1 7 (agC a),bxv 1 3 (zWX ((z2B m a).getD j z5v))])) (.exit 2,[(76,.w (Bo false)),(5,.w (Pt 2)),(10,.w (Pt 5)),(73,.w (.c (.jc (zWx (z2B m a))))),(58,.w (W i)),(57,.w (W s.agents.length)),(56,.w (.c (.jc (z5 s.agents)))),(4,.w (Pt 1)),(3,.w (Pt 0)),(74,.w (W (z2B m a).length)),(75,.w (W (z2B m a).length))],coM m s k a0++[bxv 1 7 (agC a)])
  (fun j hj hb=>by
   have hw:=zB (i:=j) (by omega);have hcj:(j:Int)<(z2B m a).length:=by omega
   have hC:=z4S (z2B m a)[j] a k.ju hk;unfold unc at hb;have hb:k.ju.any (z4q (z2B m a)[j] a)=true:=by simpa using hb
   rw[hb]at hC;generalize hp:(z2B m a)[j]=p at *;simp only[cvM,zWX,agC]at hC;rw[zj z26.eq_1];simp[ciE,coM,zf,snC,zG,zch,agC,zWX,hj,hcj,hp,hw,hC,zg,zH])
  (fun j hj hb=>by
   have hcj:(j:Int)<(z2B m a).length:=by omega
   have hC:=z4S (z2B m a)[j] a k.ju hk;unfold unc at hb;have hb:k.ju.any (z4q (z2B m a)[j] a)=false:=by simpa using hb
   rw[show(z2B m a).getD j z5v=(z2B m a)[j] by simp[hj]];rw[hb]at hC;generalize hp:(z2B m a)[j]=p at *;simp only[cvM,zWX,agC]at hC;rw[zj z26.eq_1];simp[ciE,coM,zf,snC,zG,zch,agC,zWX,hj,hcj,hp,hC,zg,zH])
  (by rw[zj z26.eq_1];simp[ciE,coM,zf,snC,zG,zch,agC])
 rw[hL];unfold pSn;cases hq:(z2B m a).findIdx? (unc k a)with
 |none=>rw[z4N hq];simp
 |some j=>rw[z4Z hq];simp
abbrev coE(s:SnV)(i:Nat):Env:=[(58,.w (W i)),(57,.w (W s.agents.length)),(56,.w (.c (.jc (z5 s.agents)))),(4,.w (Pt 1)),(5,.w (Pt 2)),(3,.w (Pt 0))]
theorem z6y{m:zD}(h:zcp m)(s:SnV)(hs:KSn m s)(k:zci)(a0:AgV)(hk:k.ju.length<=100000000000):Y L Cs z25 (some [58,57,56,4,5,3]) 5 (coE s 0) (coM m s k a0) =
  some (match (List.range s.agents.length).findIdx? (z4z m s k)with
   |some i=>(.ret,[(6,.w (Bo false))],coM m s k a0++[bxv 1 7 (agC (s.agents.getD i z3O)),bxv 1 3 (zWX (pSn m k (s.agents.getD i z3O)))])
   |none=>(.exit 0,[(59,.w (Bo false)),(58,.w (W s.agents.length)),(57,.w (W s.agents.length)),(56,.w (.c (.jc (z5 s.agents)))),(4,.w (Pt 1)),(5,.w (Pt 2)),(3,.w (Pt 0))],coM m s k a0)):=by
 have v9:=hs.few;refine zxf (L:=L) (Cs:=Cs) (b:=z25) (live:=some [58,57,56,4,5,3]) (n0:=5) (List.range s.agents.length) (fun i=>coE s i) (coM m s k a0) (z4z m s k) (fun i=>(.ret,[(6,.w (Bo false))],coM m s k a0++[bxv 1 7 (agC (s.agents.getD i z3O)),bxv 1 3 (zWX (pSn m k (s.agents.getD i z3O)))])) (.exit 0,[(59,.w (Bo false)),(58,.w (W s.agents.length)),(57,.w (W s.agents.length)),(56,.w (.c (.jc (z5 s.agents)))),(4,.w (Pt 1)),(5,.w (Pt 2)),(3,.w (Pt 0))],coM m s k a0) ?_ ?_ ?_
 ·intro i hi hb;rw[kE]at hi;rw[kN]at hb;have hw:=zB (i:=i) (by omega);have hci:(i:Int)<s.agents.length:=by omega
  have ha:=hs.ags _ (je hi);unfold z4z at hb;rw[show s.agents.getD i z3O=s.agents[i] by simp[hi]]at hb;have hT:=z52 s i hi ha.here;have hB:=z6r h ha;have hbl:=z38 h ha;have hI:=z6k m s k a0 hk s.agents[i] i hbl;generalize hag:s.agents[i]=a at *;rw[zj z25.eq_1];by_cases c0:i=0
  ·subst c0;have w1:IntKind.i64.wrap 1=1:=rfl;simp[coE,coM,zf,snC,zG,zch,agC,hi,hag,w1,zg,zH]
  ·have c0':((i:Int)==0)=false:=by simp[c0]
   have c0p:0<i:=by omega
   by_cases c1:a.start<=s.tick
   ·have hu:(z2B m a).any (unc k a)=false:=by simpa [c0p,c1]using hb
    rw[hu]at hI;rw[decide_eq_true c1]at hT;simp only[ciE,coM,zf,snC,zG,zch,agC,ji,jr,if_false,kw,jP]at hT hB hI;simp[coE,coM,zf,snC,zG,zch,agC,hi,hci,hag,hw,c0,c0',hT,hB,hI,zg,zH]
   ·rw[decide_eq_false c1]at hT;simp only[zf,snC]at hT;simp[coE,coM,zf,snC,zG,zch,agC,hi,hci,hag,hw,c0,c0',hT,zg,zH]
 ·intro i hi hb;rw[kE]at hi;rw[kN]at hb;have hci:(i:Int)<s.agents.length:=by omega
  have ha:=hs.ags _ (je hi);unfold z4z at hb;rw[show s.agents.getD i z3O=s.agents[i] by simp[hi]]at hb ⊢;have hT:=z52 s i hi ha.here;have hB:=z6r h ha;have hbl:=z38 h ha;have hI:=z6k m s k a0 hk s.agents[i] i hbl;generalize hag:s.agents[i]=a at *;simp only[jg,decide_eq_true_eq]at hb;obtain⟨⟨c0,c1⟩,hu⟩:=hb;have c0':((i:Int)==0)=false:=by simp;omega
  have c0n:i≠0:=by omega
  rw[hu]at hI;rw[decide_eq_true c1]at hT;rw[zj z25.eq_1];simp only[ciE,coM,zf,snC,zG,zch,agC,ji,if_true,kw,jP]at hT hB hI;simp[coE,coM,zf,snC,zG,zch,agC,hi,hci,hag,c0n,c0',hT,hB,hI,zg,zH]
 ·rw[kE,zj z25.eq_1];simp[coE,coM,zf,snC,zG,zch]
theorem z5p{m:zD}(h:zcp m)(s:SnV)(hs:KSn m s)(k:zci)(hk:k.ju.length<=100000000000):R L Cs z5e [.a (zf m),.a (snC s),.a (zG k)] []=some (.w (Bo (z4P m s k)),[]):=by
 have h1:=z6c h s hs;have h2:=zuu h k hk;have qM:=hs.some;have h3:=z6y h s hs k s.agents[0] hk;have e0:s.agents.getD 0 z3O=s.agents[0]:=by simp[qM]
 have w1:=ziC s.agents[0].s k.ego.slo k.ego.shi;have w2:=ziC s.agents[0].v k.ego.vlo k.ego.vhi;unfold z4P z7p;rw[e0];simp only[coM]at h3;generalize hag:s.agents[0]=a at *;simp only[coE,zf,snC,zG,zch,agC,ji,kw,jP]at h1 h2 h3;rw[zUa z5j rfl];by_cases c1:z31 m s=0
 ·by_cases c2:zdf m k=0
  ·by_cases c3:s.tick=k.tick
   ·have c3b:(s.tick !=k.tick)=false:=by simp[c3]
    have c3d:decide (s.tick=k.tick)=true:=by simp[c3]
    have c3e:(s.tick==k.tick)=true:=by simp[c3]
    generalize (decide (k.ego.slo<=a.s)&&decide (a.s<=k.ego.shi))=u1 at *;generalize (decide (k.ego.vlo<=a.v)&&decide (a.v<=k.ego.vhi))=u2 at *;rw[c1]at h1;rw[c2]at h2;cases u1 with
    |false=>simp[z2Y,zf,snC,zG,zch,agC,h1,h2,c1,c2,c3b,c3d,c3e,qM,hag,w1,w2,zg,zH]
    |true =>
     cases u2 with
     |false=>simp[z2Y,zf,snC,zG,zch,agC,h1,h2,c1,c2,c3b,c3d,c3e,qM,hag,w1,w2,zg,zH]
     |true =>
      cases hq:(List.range s.agents.length).findIdx? (z4z m s k)with
      |none =>
       rw[hq]at h3;rw[z4N hq];simp[z2Y,zf,snC,zG,zch,agC,h1,h2,h3,c1,c2,c3b,c3d,c3e,qM,hag,w1,w2,zg,zH]
      |some i =>
       rw[hq]at h3;rw[z4Z hq];simp[z2Y,zf,snC,zG,zch,agC,h1,h2,h3,c1,c2,c3b,c3d,c3e,qM,hag,w1,w2,zg,zH]
   ·have c3b:(s.tick !=k.tick)=true:=by simp[c3]
    have c3e:(s.tick==k.tick)=false:=by simp[c3]
    rw[c1]at h1;rw[c2]at h2;simp[z2Y,zf,snC,zG,zch,agC,h1,h2,c1,c2,c3,c3b,c3e,zg,zH]
  ·have c2e:(zdf m k==0)=false:=by simp[c2]
   have c2f:(zdf m k !=0)=true:=by simp[c2]
   rw[c1]at h1;simp[z2Y,zf,snC,zG,zch,agC,h1,h2,c1,c2,c2e,c2f,zg,zH]
 ·have c1e:(z31 m s==0)=false:=by simp[c1]
  have c1f:(z31 m s !=0)=true:=by simp[c1]
  simp[z2Y,zf,snC,zG,zch,agC,h1,c1,c1e,c1f,zg,zH]
theorem z7x(p q:zk):R L Cs z6a [.a (ze p),.a (ze q)] []=some (.w (Bo (inB p q)),[]):=by
 rw[zUa z6j rfl];unfold inB;obtain⟨a1,a2,a3,a4,a5,a6⟩:=p;obtain⟨b1,b2,b3,b4,b5,b6⟩:=q;by_cases c6:b6=0
 ·have d6:(b6==0)=true:=by simp[c6]
  by_cases c1:a1=b1
  ·have d1:(a1==b1)=true:=by simp[c1]
   by_cases c2:b2<=a2<;>by_cases c3:a3<=b3<;>by_cases c4:b4<=a4<;>by_cases c5:a5<=b5<;>simp[z3w,ze,d6,c6,d1,c1,c2,c3,c4,c5,zg,zH]
  ·have d1:(a1==b1)=false:=by simp[c1]
   simp[z3w,ze,d6,c6,d1,c1,zg,zH]
 ·have d6:(b6==0)=false:=by simp[c6]
  by_cases c7:a6=0
  ·have d7:(a6 !=0)=false:=by simp[c7]
   simp[z3w,ze,d6,c6,d7,c7,zg,zH]
  ·have d7:(a6 !=0)=true:=by simp[c7]
   by_cases c8:a6<=b6
   ·by_cases c1:a1=b1
    ·have d1:(a1==b1)=true:=by simp[c1]
     by_cases c2:b2<=a2<;>by_cases c3:a3<=b3<;>by_cases c4:b4<=a4<;>by_cases c5:a5<=b5<;>simp[z3w,ze,d6,c6,d7,c7,c8,d1,c1,c2,c3,c4,c5,zg,zH]
    ·have d1:(a1==b1)=false:=by simp[c1]
     simp[z3w,ze,d6,c6,d7,c7,c8,d1,c1,zg,zH]
   ·simp[z3w,ze,d6,c6,d7,c7,c8,zg,zH]
theorem z6f(p q:zk):R L Cs z3D [.a (ze q),.c (.ptr 0 0 0 0)] [bx 6 (ze p)]=some (.w (Bo (inB p q)),[bx 6 (ze p)]):=by
 have h:=z7x p q;simp only[ze]at h;rw[zUa z4K rfl];simp[z3F,ze,h,zg,zH]
theorem z7s(p:zk)(l:List zk)(hl:l.length<=100000000000):R L Cs z3f [.c (.jc (zI l)),.c (.fn z3D [] [.ptr 0 0 0 0])] [bx 6 (ze p)]=some (.w (Bo (l.any (inB p))),[bx 6 (ze p)]):=by
 obtain⟨k,h1,h2⟩:=z5c l hl (.fn z3D [] [.ptr 0 0 0 0]) (inB p) [bx 6 (ze p)] (fun b _=>by
  have h:=z6f p b;simp only[ze]at h;simp[h,ze])
 rw[zUa z3h rfl];simp only[ze]at h1;simp[z2O,h1,h2,ze]
theorem z6x(p:zk)(b:zci)(hb:b.ju.length<=100000000000):R L Cs z3P [.a (ze p),.c (.ptr 0 0 0 0)] [bx 6 (zG b)]=some (.w (Bo (!(b.ju.any (inB p)))),[bx 6 (zG b)]):=by
 have h:=z7s p b.ju hb;simp only[ze]at h;rw[zUa z4W rfl];simp[z3R,ze,zG,h,zg,zH]
theorem z6i(b:zci)(hb:b.ju.length<=100000000000)(l:List zk)(hl:l.length<=100000000000):R L Cs z3f [.c (.jc (zI l)),.c (.fn z3P [] [.ptr 0 0 0 0])] [bx 6 (zG b)]=some (.w (Bo (l.any fun p=>!(b.ju.any (inB p)))),[bx 6 (zG b)]):=by
 obtain⟨k,h1,h2⟩:=z5c l hl (.fn z3P [] [.ptr 0 0 0 0]) (fun p=>!(b.ju.any (inB p))) [bx 6 (zG b)] (fun p _=>by
  have h:=z6x p b hb;simp only[ze,zG]at h;simp[h,ze,zG])
 rw[zUa z3h rfl];simp only[zG]at h1;simp[z2O,h1,h2,zG]
theorem z4D(a b:zci)(ha:a.ju.length<=100000000000)(hb:b.ju.length<=100000000000):R L Cs z5d [.a (zG a),.a (zG b)] []=some (.w (Bo (zXR a b)),[]):=by
 have h:=z6i b hb a.ju ha;have e:(a.ju.all fun p=>b.ju.any (inB p)) = !(a.ju.any fun p=>!(b.ju.any (inB p))):=by rw[List.not_any_eq_all_not];simp
 rw[zUa z5i rfl];unfold zXR z1D;rw[e];generalize (a.ju.any fun p=>!(b.ju.any (inB p)))=t at *;obtain⟨t1,l1,⟨a1,a2,a3,a4⟩⟩:=a;obtain⟨t2,l2,⟨b1,b2,b3,b4⟩⟩:=b;simp only[zG]at h;by_cases c0:t1=t2
 ·have d0:(t1 !=t2)=false:=by simp[c0]
  by_cases c1:a1<b1<;>by_cases c2:b2<a2<;>by_cases c3:a3<b3<;>by_cases c4:b4<a4<;>simp[z3K,zG,d0,c0,c1,c2,c3,c4,h,zg,zH]
 ·have d0:(t1 !=t2)=true:=by simp[c0]
  simp[z3K,zG,d0,c0,zg,zH]
theorem z6T(a b:List zk)(hl:a.length=b.length)(ha:a.length<=100000000000) :
  Y L Cs z2Z (some [12,0,1,13]) 0 [(12,.w (W a.length)),(0,.w (.c (.jc (zI a)))),(1,.w (.c (.jc (zI b)))),(13,.w (W 0))] [] =
    some (if(a.zip b).any fun x=>decide (x.1≠x.2) then(.ret,[(4,.w (Bo false))],[])
     else(.exit 0,[(14,.w (Bo false)),(1,.w (.c (.jc (zI b)))),(0,.w (.c (.jc (zI a)))),(12,.w (W a.length)),(13,.w (W a.length))],[])):=by
 have hz:(a.zip b).length=a.length:=by simp[hl]
 refine zpE (a.zip b) (fun i=>[(12,.w (W a.length)),(0,.w (.c (.jc (zI a)))),(1,.w (.c (.jc (zI b)))),(13,.w (W i))]) _ _ _ _ ?_ ?_ ?_
 ·intro i h hp;have hi:i<a.length:=by omega
  have hj:i<b.length:=by omega
  have hw:=zB (i:=i) (by omega);simp at hp;rw[zj z2Z.eq_1];simp[hi,hj,hw,zoc,hp]
 ·intro i h hp;have hi:i<a.length:=by omega
  have hj:i<b.length:=by omega
  simp at hp;rw[zj z2Z.eq_1];simp[hi,hj,zoc,hp]
 ·rw[hz,zj z2Z.eq_1];simp
theorem z60(a b:List zk)(ha:a.length<=100000000000):R L Cs z4B [.c (.jc (zI a)),.c (.jc (zI b))] []=some (.w (Bo (decide (a=b))),[]):=by
 rw[zUa z4C rfl];by_cases hl:a.length=b.length
 ·have h:=z6T a b hl ha;have hi:((a.length:Int) !=b.length)=false:=by simp;omega
  rw[zqi hl]at h;by_cases c:a=b
  ·subst c;simp at h;simp[z3a,h]
  ·simp[c]at h;simp[z3a,h,c,hi]
 ·have c:a≠b:=fun h=>hl (by rw[h])
  have hi:((a.length:Int) !=b.length)=true:=by simp;omega
  simp[z3a,c,hi]
theorem z40(a b:zci)(ha:a.ju.length<=100000000000):R L Cs z5E [.a (zG a),.a (zG b)] []=some (.w (Bo (zlN a b)),[]):=by
 have h:=z60 a.ju b.ju ha;rw[zUa z5O rfl];unfold zlN;generalize decide (a.ju=b.ju)=t at *;obtain⟨t1,l1,⟨a1,a2,a3,a4⟩⟩:=a;obtain⟨t2,l2,⟨b1,b2,b3,b4⟩⟩:=b;simp only at h;by_cases c0:t1=t2
 ·have d0:(t1==t2)=true:=by simp[c0]
  by_cases c1:a1=b1
  ·by_cases c2:a2=b2
   ·by_cases c3:a3=b3
    ·by_cases c4:a4=b4
     ·simp[z3j,zG,d0,c0,c1,c2,c3,c4,h,zg,zH]
     ·have hb:(a4==b4)=false:=by simp[c4]
      simp[z3j,zG,d0,c0,c1,c2,c3,c4,hb,zg,zH]
    ·have hb:(a3==b3)=false:=by simp[c3]
     simp[z3j,zG,d0,c0,c1,c2,c3,hb,zg,zH]
   ·have hb:(a2==b2)=false:=by simp[c2]
    simp[z3j,zG,d0,c0,c1,c2,hb,zg,zH]
  ·have hb:(a1==b1)=false:=by simp[c1]
   simp[z3j,zG,d0,c0,c1,hb,zg,zH]
 ·have d0:(t1==t2)=false:=by simp[c0]
  simp[z3j,zG,d0,c0,zg,zH]
theorem z5y(a:zci):zXR a a=true:=by
 have h:a.ju.all (fun p=>a.ju.any (inB p))=true:=by
  rw[jo];intro p hp;rw[kx];refine⟨p,hp,?_⟩;unfold inB;by_cases c:p.hold=0<;>simp[c]
 simp[zXR,z1D,h]
theorem z6V(p:Spn)(a:AgV)(b:zk):z4q p a b=true<->b.lane=p.lane/\b.lo<=p.lo/\p.hi<=b.hi/\b.vlo<=a.v/\a.v<=b.vhi:=by
 unfold z4q;simp[and_assoc]
theorem z5Y{α:Type}(p:α->Bool):∀(l:List α) (i:Nat) (s:Bool),zM6 (fun _ s b=>s||p b) i s l=(s||l.any p)
 |[],_,s=>by simp[zM6]
 |x::l,i,s=>by simp[zM6,z5Y p l,Bool.or_assoc]
abbrev z41(m:zD)(a:AgV)(is:Bool)(n j i:Nat):Env:=[(12,.w (Bo is)),(13,.w (W n)),(3,.w (Pt 0)),(5,.w (Pt 2)),(10,.w (.c (.jc (zWx (z2B m a))))),(11,.w (W j)),(4,.w (Pt 1)),(9,.w (W i))]
theorem z6l(m:zD)(s:SnV)(k:zci)(a0:AgV)(hk:k.ju.length<=100000000000)(i:Nat)(hi:i<s.agents.length)(j:Nat)(hj:j<(z2B m s.agents[i]).length):Y L Cs z2Q (some [12,13,3,5,10,11,4,9]) 5 (z41 m s.agents[i] false 0 j i) (coM m s k a0) =
  some (.exit 4,[(93,.w (Bo false)),(12,.w (Bo (k.ju.any (z4q (z2B m s.agents[i])[j] s.agents[i])))),(13,.w (W k.ju.length)),(3,.w (Pt 0)),(5,.w (Pt 2)),(10,.w (.c (.jc (zWx (z2B m s.agents[i]))))),(11,.w (W j)),(4,.w (Pt 1)),(9,.w (W i))],coM m s k a0):=by
 have h:=zPH (L:=L) (Cs:=Cs) (b:=z2Q) (live:=some [12,13,3,5,10,11,4,9]) (n0:=5) k.ju (fun n is=>z41 m s.agents[i] is n j i) (fun _ _=>coM m s k a0) (fun _ _=>True) (fun _ is b=>is||z4q (z2B m s.agents[i])[j] s.agents[i] b)
  (fun is=>(.exit 4,[(93,.w (Bo false)),(12,.w (Bo is)),(13,.w (W k.ju.length)),(3,.w (Pt 0)),(5,.w (Pt 2)),(10,.w (.c (.jc (zWx (z2B m s.agents[i]))))),(11,.w (W j)),(4,.w (Pt 1)),(9,.w (W i))],coM m s k a0)) ?_ ?_ (s0:=false) trivial
 ·rw[z5Y,u3]at h;exact h
 ·intro n hn is _;refine⟨trivial,?_⟩;have hw:=zB (i:=n) (by omega);generalize hag:s.agents[i]=a at *;have hcj:(j:Int)<(z2B m a).length:=by omega
  generalize hp:(z2B m a)[j]=p at *;generalize hb:k.ju[n]=b at *;have hci:=z6V p a b;rw[zj z2Q.eq_1];cases is with
  |true=>simp[z41,coM,zf,snC,zG,zch,agC,ze,hn,hb,hw,zg,zH]
  |false =>
   by_cases c1:b.lane=p.lane
   ·have b1:(b.lane==p.lane)=true:=by simp[c1]
    by_cases c2:b.lo<=p.lo
    ·by_cases c3:p.hi<=b.hi
     ·by_cases c4:b.vlo<=a.v
      ·by_cases c5:a.v<=b.vhi
       ·rw[hci.2 ⟨c1,c2,c3,c4,c5⟩];simp[z41,coM,zf,snC,zG,zch,agC,ze,zWX,hn,hb,hj,hcj,hp,hi,hag,hw,b1,c2,c3,c4,c5,zg,zH]
       ·have:z4q p a b=false:=qo.2 fun e=>c5 (hci.1 e).2.2.2.2
        rw[this];simp[z41,coM,zf,snC,zG,zch,agC,ze,zWX,hn,hb,hj,hcj,hp,hi,hag,hw,b1,c2,c3,c4,c5,zg,zH]
      ·have:z4q p a b=false:=qo.2 fun e=>c4 (hci.1 e).2.2.2.1
       rw[this];simp[z41,coM,zf,snC,zG,zch,agC,ze,zWX,hn,hb,hj,hcj,hp,hi,hag,hw,b1,c2,c3,c4,zg,zH]
     ·have:z4q p a b=false:=qo.2 fun e=>c3 (hci.1 e).2.2.1
      rw[this];simp[z41,coM,zf,snC,zG,zch,agC,ze,zWX,hn,hb,hj,hcj,hp,hi,hag,hw,b1,c2,c3,zg,zH]
    ·have:z4q p a b=false:=qo.2 fun e=>c2 (hci.1 e).2.1
     rw[this];simp[z41,coM,zf,snC,zG,zch,agC,ze,zWX,hn,hb,hj,hcj,hp,hi,hag,hw,b1,c2,zg,zH]
   ·have:z4q p a b=false:=qo.2 fun e=>c1 (hci.1 e).1
    have b1:(b.lane==p.lane)=false:=by simp[c1]
    rw[this];simp[z41,coM,zf,snC,zG,zch,agC,ze,zWX,hn,hb,hj,hcj,hp,hi,hag,hw,b1,zg,zH]
 ·intro is _;rw[zj z2Q.eq_1];simp[z41,coM,zf,snC,zG,zch,agC]
abbrev z5T(m:zD)(a:AgV)(j i:Nat):Env:=[(3,.w (Pt 0)),(5,.w (Pt 2)),(10,.w (.c (.jc (zWx (z2B m a))))),(11,.w (W j)),(4,.w (Pt 1)),(9,.w (W i))]
theorem z6F{m:zD}(h:zcp m)(s:SnV)(k:zci)(a0:AgV)(hk:k.ju.length<=100000000000)(i:Nat)(hi:i<s.agents.length)(ha:KAg m s.agents[i]):∃j:Nat,Y L Cs z2z (some [3,5,10,11,4,9]) 5 (z5T m s.agents[i] 0 i) (coM m s k a0) =
  some (if decide (s.agents[i].start<=s.tick)&&(z2B m s.agents[i]).any (unc k s.agents[i]) then(.ret,[(6,.w (Bo false))],coM m s k a0)
   else(.exit 2,[(86,.w (Bo false)),(3,.w (Pt 0)),(5,.w (Pt 2)),(10,.w (.c (.jc (zWx (z2B m s.agents[i]))))),(11,.w (W j)),(4,.w (Pt 1)),(9,.w (W i))],coM m s k a0)):=by
 have hbl:=z38 h ha;have hT:=z56 s i hi ha.here;by_cases c1:s.agents[i].start<=s.tick
 ·refine⟨(z2B m s.agents[i]).length,?_⟩;rw[decide_eq_true c1,uk];rw[decide_eq_true c1]at hT;refine zpE (L:=L) (Cs:=Cs) (b:=z2z) (live:=some [3,5,10,11,4,9]) (n0:=5) (z2B m s.agents[i]) (fun j=>z5T m s.agents[i] j i) (coM m s k a0) (unc k s.agents[i]) _ _ ?_ ?_ ?_
  ·intro j hj hb;have hw:=zB (i:=j) (by omega);have hcj:(j:Int)<(z2B m s.agents[i]).length:=by omega
   have hI:=z6l m s k a0 hk i hi j hj;unfold unc at hb;have hb:k.ju.any (z4q (z2B m s.agents[i])[j] s.agents[i])=true:=by simpa using hb
   rw[hb]at hI;rw[zj z2z.eq_1];simp only[z41,coM,zf,snC,zG,zch,agC,ji]at hT hI;simp[z5T,coM,zf,snC,zG,zch,agC,hj,hcj,hw,hT,hI]
  ·intro j hj hb;have hcj:(j:Int)<(z2B m s.agents[i]).length:=by omega
   have hI:=z6l m s k a0 hk i hi j hj;unfold unc at hb;have hb:k.ju.any (z4q (z2B m s.agents[i])[j] s.agents[i])=false:=by simpa using hb
   rw[hb]at hI;rw[zj z2z.eq_1];simp only[z41,coM,zf,snC,zG,zch,agC,ji]at hT hI;simp[z5T,coM,zf,snC,zG,zch,agC,hj,hcj,hT,hI]
  ·rw[zj z2z.eq_1];simp[z5T,coM,zf,snC,zG,zch,agC]
 ·refine⟨0,?_⟩;rw[decide_eq_false c1,Bool.false_and];rw[decide_eq_false c1]at hT;rw[zj z2z.eq_1];simp only[snC]at hT;by_cases c0:0<(z2B m s.agents[i]).length
  ·simp[z5T,coM,zf,snC,zG,zch,agC,c0,hT]
  ·have:(z2B m s.agents[i]).length=0:=by omega
   simp[z5T,coM,zf,snC,zG,zch,agC,this]
abbrev z5S(i:Nat):Env:=[(3,.w (Pt 0)),(5,.w (Pt 2)),(4,.w (Pt 1)),(9,.w (W i))]
theorem z6W(m:zD)(s:SnV)(k:zci)(i:Nat)(hi:i+1<s.agents.length):z4z m s k (i+1)=(decide (s.agents[i+1].start<=s.tick)&&(z2B m s.agents[i+1]).any (unc k s.agents[i+1])):=by
 unfold z4z;rw[show s.agents.getD (i+1) z3O=s.agents[i+1] by simp[hi]];simp
theorem z6E{m:zD}(h:zcp m)(s:SnV)(hs:KSn m s)(k:zci)(a0:AgV)(hk:k.ju.length<=100000000000):Y L Cs z2y (some [3,5,4,9]) 5 (z5S 1) (coM m s k a0) =
  some (if(List.range s.agents.length).any (z4z m s k) then(.ret,[(6,.w (Bo false))],coM m s k a0)
   else(.exit 0,[(68,.w (Bo false)),(3,.w (Pt 0)),(5,.w (Pt 2)),(4,.w (Pt 1)),(9,.w (W s.agents.length))],coM m s k a0)):=by
 have v9:=hs.few;have qM:=hs.some;have vh:∀i (hi:i+1<s.agents.length),Y L Cs z2y (some [3,5,4,9]) 5 (z5S (i+1)) (coM m s k a0)=if z4z m s k (i+1) then some (.ret,[(6,.w (Bo false))],coM m s k a0) else Y L Cs z2y (some [3,5,4,9]) 5 (z5S (i+1+1)) (coM m s k a0):=by
  intro i hi;have hw:=zB (i:=i+1) (by omega);have ha:=hs.ags _ (je hi);obtain⟨j,hM⟩:=z6F h s k a0 hk (i+1) hi ha;have hB:=z5H h ha;rw[z6W m s k i hi];have a1:(0:Int)<=(i:Int)+1:=by omega
  have a2:(i:Int)+1<(s.agents.length:Int):=by omega
  have a3:((i:Int)+1).toNat=i+1:=by omega
  have w2:=qc ((i:Int)+1+1);generalize hag:s.agents[i+1]=a at *;generalize (decide (a.start<=s.tick)&&(z2B m a).any (unc k a))=u at *;rw[zj z2y.eq_1];simp only[z5T,coM,zf,snC,zG,zch,agC,ji,Int.natCast_add,uy]at hB hM;cases u with
  |true=>simp[z5S,coM,zf,snC,zG,zch,agC,hi,hag,hB,hM,a1,a2,a3]
  |false=>simp[z5S,coM,zf,snC,zG,zch,agC,hi,hag,hB,hM,a1,a2,a3,w2]
 have key:∀f i,i+1+f=s.agents.length->Y L Cs z2y (some [3,5,4,9]) 5 (z5S (i+1)) (coM m s k a0)=some (if(List.range' (i+1) f).any (z4z m s k) then(.ret,[(6,.w (Bo false))],coM m s k a0)
   else(.exit 0,[(68,.w (Bo false)),(3,.w (Pt 0)),(5,.w (Pt 2)),(4,.w (Pt 1)),(9,.w (W s.agents.length))],coM m s k a0)):=by
  intro f;induction f with
  |zero =>
   intro i hi;have e:s.agents.length=i+1:=by omega
   rw[zj z2y.eq_1];simp[z5S,coM,zf,snC,zG,zch,agC,e]
  |succ f ih =>
   intro i hi;rw[vh i (by omega),List.range'_succ,List.any_cons];cases hb:z4z m s k (i+1)with
   |true=>simp
   |false =>
    rw[u3];simpa using ih (i+1) (by omega)
 have h0:z4z m s k 0=false:=by simp[z4z]
 have hr:(List.range s.agents.length).any (z4z m s k)=(List.range' 1 (s.agents.length-1)).any (z4z m s k):=by
  obtain⟨n,hn⟩:∃n,s.agents.length=n+1:=⟨s.agents.length-1,by omega⟩;rw[hn,List.range_eq_range',List.range'_succ,List.any_cons,h0];simp
 rw[hr];have:=key (s.agents.length-1) 0 (by omega);simpa using this
theorem z54{m:zD}(h:zcp m)(s:SnV)(hs:KSn m s)(k:zci)(hk:k.ju.length<=100000000000)(hok:∀b∈k.ju,OKB b):R L Cs z37 [.a (zf m),.a (snC s),.a (zG k)] []=some (.w (Bo (z4P m s k)),[]):=by
 have h1:=z5f h s hs;have h2:=zxh h k hk hok;have qM:=hs.some;have h3:=z6E h s hs k s.agents[0] hk;have e0:s.agents.getD 0 z3O=s.agents[0]:=by simp[qM]
 unfold z4P z7p;rw[e0];generalize hag:s.agents[0]=a at *;simp only[z5S,coM,zf,snC,zG,zch,agC,uy]at h1 h2 h3;rw[zUa z39 rfl];by_cases c1:z31 m s=0
 ·by_cases c2:zdf m k=0
  ·by_cases c3:s.tick=k.tick
   ·have c3b:(s.tick !=k.tick)=false:=by simp[c3]
    have c3d:decide (s.tick=k.tick)=true:=by simp[c3]
    have c3e:(s.tick==k.tick)=true:=by simp[c3]
    rw[c1]at h1;rw[c2]at h2;by_cases d1:k.ego.slo<=a.s
    ·have d1':¬a.s<k.ego.slo:=by omega
     by_cases d2:a.s<=k.ego.shi
     ·have d2':¬k.ego.shi<a.s:=by omega
      by_cases d3:k.ego.vlo<=a.v
      ·have d3':¬a.v<k.ego.vlo:=by omega
       by_cases d4:a.v<=k.ego.vhi
       ·have d4':¬k.ego.vhi<a.v:=by omega
        cases hq:(List.range s.agents.length).any (z4z m s k)with
        |false =>
         rw[hq]at h3;simp[zcS,zf,snC,zG,zch,agC,h1,h2,h3,c1,c2,c3b,c3d,c3e,qM,hag,d1,d2,d3,d4,d1',d2',d3',d4',zg,zH]
        |true =>
         rw[hq]at h3;simp[zcS,zf,snC,zG,zch,agC,h1,h2,h3,c1,c2,c3b,c3d,c3e,qM,hag,d1,d2,d3,d4,d1',d2',d3',d4',zg,zH]
       ·have d4':k.ego.vhi<a.v:=by omega
        simp[zcS,zf,snC,zG,zch,agC,h1,h2,c1,c2,c3b,c3d,c3e,qM,hag,d1,d2,d3,d4,d1',d2',d3',d4',zg,zH]
      ·have d3':a.v<k.ego.vlo:=by omega
       simp[zcS,zf,snC,zG,zch,agC,h1,h2,c1,c2,c3b,c3d,c3e,qM,hag,d1,d2,d3,d1',d2',d3',zg,zH]
     ·have d2':k.ego.shi<a.s:=by omega
      simp[zcS,zf,snC,zG,zch,agC,h1,h2,c1,c2,c3b,c3d,c3e,qM,hag,d1,d2,d1',d2',zg,zH]
    ·have d1':a.s<k.ego.slo:=by omega
     simp[zcS,zf,snC,zG,zch,agC,h1,h2,c1,c2,c3b,c3d,c3e,qM,hag,d1,d1',zg,zH]
   ·have c3b:(s.tick !=k.tick)=true:=by simp[c3]
    have c3e:(s.tick==k.tick)=false:=by simp[c3]
    rw[c1]at h1;rw[c2]at h2;simp[zcS,zf,snC,zG,zch,agC,h1,h2,c1,c2,c3,c3b,c3e,zg,zH]
  ·have c2e:(zdf m k==0)=false:=by simp[c2]
   have c2f:(zdf m k !=0)=true:=by simp[c2]
   rw[c1]at h1;simp[zcS,zf,snC,zG,zch,agC,h1,h2,c1,c2,c2e,c2f,zg,zH]
 ·have c1e:(z31 m s==0)=false:=by simp[c1]
  have c1f:(z31 m s !=0)=true:=by simp[c1]
  simp[zcS,zf,snC,zG,zch,agC,h1,c1,c1e,c1f,zg,zH]
theorem z43(n:Int)(l:List z45)(a b:zci)(ha:∀x∈a.ju,OKB x)(hb:∀x∈b.ju,OKB x):R L Cs z22 [W n,.c (.jc (z32 l)),.a (zG a),.a (zG b)] []=some (.w (Bo true),[]):=by
 have haw:=zBZ;rw[zUa z3S rfl];by_cases c1:(6:Int)<l.length
 ·have c1':6<l.length:=by omega
  simp[z2x,zG,c1,c1',haw,zg,zH]
 have c1':¬6<l.length:=by omega
 by_cases c2:(12:Int)<a.ju.length
 ·have c2':12<a.ju.length:=by omega
  simp[z2x,zG,c1,c1',c2,c2',haw,zg,zH]
 have c2':¬12<a.ju.length:=by omega
 by_cases c3:(12:Int)<b.ju.length
 ·have c3':12<b.ju.length:=by omega
  simp[z2x,zG,c1,c1',c2,c2',c3,c3',haw,zg,zH]
 have c3':¬12<b.ju.length:=by omega
 obtain⟨m,zs,ss,hF,hM⟩:=z7z n;have h:=hF.full.vA;obtain⟨s,hs,hS⟩:=z7i hF l (by omega);have k1:=z5p h s hs a (by omega);have k2:=z54 h s hs a (by omega) ha;have i1:=z4D a b (by omega) (by omega);have i2:=zYb a b (by omega) (by omega);have s1:=z40 a b (by omega);have s2:=ztl a b (by omega);have i3:=z4D a a (by omega) (by omega);have s3:=z40 a a (by omega);have s4:=ztl a a (by omega);have p1:=zy8 a (by omega);have p2:=z1I a (by omega);rw[z5y]at i3;rw[zwl]at s3 s4;generalize z4P m s a=x1 at *;generalize zXR a b=x2 at *;generalize zlN a b=x3 at *;simp only[zf,snC,zG]at hM hS k1 k2 i1 i2 i3 s1 s2 s3 s4 p1 p2;simp[z2x,zG,c1,c1',c2,c2',c3,c3',haw,hM,hS,k1,k2,i1,i2,i3,s1,s2,s3,s4,p1,p2,zg,zH]
abbrev z7r:Sh:=.st [zmN,zmN,zmN,zmN,zmN,.bool]
theorem z7q{r:List Cl}(h:zfo z7r r):∃x,r=z3N x:=by
 simp only[zfo,znD]at h;obtain⟨_,_,rfl,⟨a1,rfl,q1⟩,_,_,rfl,⟨a2,rfl,q2⟩,_,_,rfl,⟨a3,rfl,q3⟩,_,_,rfl,⟨a4,rfl,q4⟩,_,_,rfl,⟨a5,rfl,q5⟩,_,_,rfl,⟨a6,rfl⟩,rfl⟩:=h;exact⟨⟨a1,a2,a3,a4,a5,a6⟩,rfl⟩
theorem z6p:∀{rows:List (List Cl)},(∀r∈rows,zfo z7r r)->∃l,rows=z32 l
 |[],_=>⟨[],rfl⟩
 |r::rows,h=>by
  obtain⟨b,rfl⟩:=z7q (h r (jw ..));obtain⟨l,rfl⟩:=z6p fun x hx=>h x (jt _ hx)
  exact⟨b::l,rfl⟩
theorem z5k:∀xs,zot [zmN,.slice z7r,zCg,zCg] xs->∃M',R L Cs z22 xs []=some (.w (.c (.bool true)),M'):=by
 intro xs h;simp only[zot]at h;obtain⟨c1,_,rfl,h1,c2,_,rfl,h2,c3,_,rfl,h3,c4,_,rfl,h4,rfl⟩:=h;simp only[zfo]at h1 h2;obtain⟨n,rfl,_⟩:=h1;obtain⟨rows,rfl,_,vn⟩:=h2;obtain⟨l,rfl⟩:=z6p (rows:=rows) (fun r hr=>by
  have:=vn r hr;simp only[zfo,znD];exact this)
 obtain⟨a,rfl,ha⟩:=zBG h3;obtain⟨b,rfl,hb⟩:=zBG h4;exact⟨[],z43 n l a b (fun b hb=>(ha.ju b hb).ok) (fun x hx=>(hb.ju x hx).ok)⟩
end Go.TrRun
