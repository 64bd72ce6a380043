/- This text proves what functions of this seat's program answer, run by the evaluator; no condition. -/
import Derived.Test.YtdndkdliiojpiaaGreatPTx4
import Derived.WalkSmall
set_option maxHeartbeats 8000000
set_option linter.unusedVariables false
set_option linter.unusedSimpArgs false
set_option linter.unusedSectionVars false
set_option maxRecDepth 10000
namespace Go.TrRun
open Go Go.Eng
def w64(n:Int):Int:=IntKind.i64.wrap n
def ZoR(t:Int)(x:Mrk):Mrk:=⟨w64 (x.st+t),x.lo,x.hi⟩
def Zo8(t:Int)(x:zZP):zZP:=⟨w64 (x.qt+t),x.seen,x.pts⟩
def shI(t:Int)(x:Zjo):Zjo:=⟨w64 (x.tick+t),x.kg.map (Zo8 t),x.jR.map (ZoR t),x.ki.map (ZoR t)⟩
abbrev z4:List Cl:=[I 0,.jc,.jc,.jc]
abbrev shM(x:Zjo)(t:Int)(s1 s2 s3:Cl)(v:Nat)(G:Mem):Mem:=bx 4 (inC x)::bx 4 z4::bxv v 4 [I t,s1,s2,s3]::G
inductive LsN (n:Nat) (G:Mem):List (List Cl)->Cl->Prop
 |nil:LsN n G [] .jc
 |own (j:Nat) (hj:n<=j) (rows:List (List Cl)) (h0:rows≠[]) (h:G[j]?=some (some (own 3 rows))):LsN n G rows (.slice (j+3) rows.length 3 0 rows.length none)
theorem LsN.vg{n m:Nat}{G G':Mem}{rows:List (List Cl)}{s:Cl}(h:LsN n G rows s)(hk:∀k,k<G.length->G'[k]?=G[k]?)(hn:m<=n):LsN m G' rows s:=by
 cases h with
 |nil=>exact .nil
 |own j hj _ h0 h=>grind [own,List.getElem?_eq_some_iff]
theorem ZoX{x:Zjo}{t:Int}{s1 s2 s3:Cl}{v n:Nat}{G:Mem}{E:Env}(hn:3<=n)(h:Eng.below n s1=false\/Eng.below n s2=false\/Eng.below n s3=false):kK n E (shM x t s1 s2 s3 v G)=shM x t s1 s2 s3 v G:=by
 unfold kK;split
 ·rfl
 ·rw[if_neg];intro hb;simp only[jh]at hb;obtain⟨m,rfl⟩:∃m,n=m+3:=⟨n-3,by omega⟩
  simp_all
abbrev Zp3(i:Nat)(t:Int):Env:=[(7,.w (W i)),(4,.w (Pt 1)),(1,.w (W t)),(2,.w (Pt 0)),(5,.w (Pt 2))]
theorem Zpb(x:Zjo)(t t':Int)(s1 s3:Cl)(hs:x.jR.length<=100)(G0:Mem):∀(r:List Mrk) (i v:Nat) (s2:Cl) (G:Mem),x.jR.drop i=r->i<=x.jR.length->LsN G0.length G (zb ((x.jR.take i).map (ZoR t))) s2->G0.length<=G.length->(∀k,k<G0.length->G[k]?=G0[k]?) ->
  ∃v' S' G',Y L Cs Zox (some [7,4,1,2,5]) (G0.length+3) (Zp3 i t) (shM x t' s1 s2 s3 v G)=some (.exit 2,(55,.w (Bo false))::Zp3 x.jR.length t,(shM x t' s1 S' s3 v' G'))/\LsN G0.length G' (zb (x.jR.map (ZoR t))) S'/\G0.length<=G'.length/\(∀k,k<G0.length->G'[k]?=G0[k]?)
 |[],i,v,s2,G,hd,hi,hL,hg,hk=>by
  obtain rfl:=ZoS hd hi;refine⟨v,s2,G,?_,by rw[kH]at hL;exact hL,hg,hk⟩;rw[ZfM Zox.eq_1];simp[inC,zb,ZjO]
 |y::r,i,v,s2,G,hd,hi,hL,hg,hk=>by
  obtain⟨hi1,hy,hd'⟩:=ZoY hd;have hw:=zB (i:=i) (by omega);have hci:(i:Int)<x.jR.length:=by omega
  have htk:zb ((x.jR.take (i+1)).map (ZoR t))=zb ((x.jR.take i).map (ZoR t))++[[I (w64 (y.st+t)),I y.lo,I y.hi]]:=by
   rw[qH hi1,hy];simp[zb,ZoR,ZjO]
  have hln:(zb ((x.jR.take i).map (ZoR t))).length=i:=by simp[zb];omega
  generalize zb ((x.jR.take i).map (ZoR t))=rows at hL htk hln;cases hL with
  |nil =>
   obtain rfl:i=0:=by simpa using hln.symm
   have hdr:kK (G0.length+3) (Zp3 1 t) (shM x t' s1 (.slice ((G.length+1)+3) 1 3 0 1 none) s3 (v+1) (G++[some (own 3 [[I (w64 (y.st+t)),I y.lo,I y.hi]]),some (own 3 [[I (w64 (y.st+t)),I y.lo,I y.hi]])]))=(shM x t' s1 (.slice ((G.length+1)+3) 1 3 0 1 none) s3 (v+1) (G++[some (own 3 [[I (w64 (y.st+t)),I y.lo,I y.hi]]),some (own 3 [[I (w64 (y.st+t)),I y.lo,I y.hi]])])):=ZoX (by omega) (.inr (.inl (by simp[Eng.below,yF];omega)));obtain⟨v',S',G',ih,h1,h2,h3⟩:=Zpb x t t' s1 s3 hs G0 r 1 (v+1) (.slice ((G.length+1)+3) 1 3 0 1 none) (G++[some (own 3 [[I (w64 (y.st+t)),I y.lo,I y.hi]]),some (own 3 [[I (w64 (y.st+t)),I y.lo,I y.hi]])]) hd' (by omega) (by
    rw[htk];exact .own (G.length+1) (by omega) _ (by simp) (by simp[own])) (by simp;omega) (fun k hk'=>by rw[jw (by omega)];exact hk k hk')
   refine⟨v',S',G',?_,h1,h2,h3⟩;rw[<-ih,<-hdr];rw[ZfM Zox.eq_1];simp[-kK,inC,zb,ZjO,hi1,hy,wk1,own,w64]<;>rfl
  |own j hj _ h0 hG =>
   have hjl:=(jV.1 hG).1;have hi0:i≠0:=fun e=>h0 (jM (hln.trans e))
   have hj2:∀N:Mem,(G++N)[j]?=some (some (own 3 rows)):=fun N=>by rw[jw hjl];exact hG
   have hr:(i+1)*24<=140737488355328:=by omega
   have htr:List.take i rows=rows:=by rw[<-hln];exact kH
   rw[hln];have hdr:kK (G0.length+3) (Zp3 (i+1) t) (shM x t' s1 (.slice (j+3) (i+1) 3 0 (i+1) none) s3 (v+1) ((G++[some (own 3 [[I (w64 (y.st+t)),I y.lo,I y.hi]])]).set j (some (own 3 (rows++[[I (w64 (y.st+t)),I y.lo,I y.hi]])))))=(shM x t' s1 (.slice (j+3) (i+1) 3 0 (i+1) none) s3 (v+1) ((G++[some (own 3 [[I (w64 (y.st+t)),I y.lo,I y.hi]])]).set j (some (own 3 (rows++[[I (w64 (y.st+t)),I y.lo,I y.hi]]))))):=ZoX (by omega) (.inr (.inl (by simp[Eng.below,yF];omega)));obtain⟨v',S',G',ih,h1,h2,h3⟩:=Zpb x t t' s1 s3 hs G0 r (i+1) (v+1) (.slice (j+3) (i+1) 3 0 (i+1) none) ((G++[some (own 3 [[I (w64 (y.st+t)),I y.lo,I y.hi]])]).set j (some (own 3 (rows++[[I (w64 (y.st+t)),I y.lo,I y.hi]])))) hd' (by omega) (by
    rw[htk];have:=LsN.own (n:=G0.length) (G:=(G++[some (own 3 [[I (w64 (y.st+t)),I y.lo,I y.hi]])]).set j (some (own 3 (rows++[[I (w64 (y.st+t)),I y.lo,I y.hi]])))) j hj (rows++[[I (w64 (y.st+t)),I y.lo,I y.hi]]) (by simp) (j9 (by simp;omega));simpa [hln]using this) (by simp;omega) (fun k hk'=>by rw[jI (by omega),jw (by omega)];exact hk k hk')
   refine⟨v',S',G',?_,h1,h2,h3⟩;rw[<-ih,<-hdr];rw[ZfM Zox.eq_1];simp[-kK,inC,zb,ZjO,hi1,hci,hy,hw,own,w64,hj2,hln,hr,htr]<;>rfl
abbrev Zp2(i:Nat)(t:Int):Env:=[(8,.w (W i)),(4,.w (Pt 1)),(1,.w (W t)),(2,.w (Pt 0)),(5,.w (Pt 2))]
theorem Zpa(x:Zjo)(t t':Int)(s1 s2:Cl)(hs:x.ki.length<=100)(G0:Mem):∀(r:List Mrk) (i v:Nat) (s3:Cl) (G:Mem),x.ki.drop i=r->i<=x.ki.length->LsN G0.length G (zb ((x.ki.take i).map (ZoR t))) s3->G0.length<=G.length->(∀k,k<G0.length->G[k]?=G0[k]?) ->
  ∃v' S' G',Y L Cs Zow (some [8,4,1,2,5]) (G0.length+3) (Zp2 i t) (shM x t' s1 s2 s3 v G)=some (.exit 4,(88,.w (Bo false))::Zp2 x.ki.length t,(shM x t' s1 s2 S' v' G'))/\LsN G0.length G' (zb (x.ki.map (ZoR t))) S'/\G0.length<=G'.length/\(∀k,k<G0.length->G'[k]?=G0[k]?)
 |[],i,v,s3,G,hd,hi,hL,hg,hk=>by
  obtain rfl:=ZoS hd hi;refine⟨v,s3,G,?_,by rw[kH]at hL;exact hL,hg,hk⟩;rw[ZfM Zow.eq_1];simp[inC,zb,ZjO]
 |y::r,i,v,s3,G,hd,hi,hL,hg,hk=>by
  obtain⟨hi1,hy,hd'⟩:=ZoY hd;have hw:=zB (i:=i) (by omega);have hci:(i:Int)<x.ki.length:=by omega
  have htk:zb ((x.ki.take (i+1)).map (ZoR t))=zb ((x.ki.take i).map (ZoR t))++[[I (w64 (y.st+t)),I y.lo,I y.hi]]:=by
   rw[qH hi1,hy];simp[zb,ZoR,ZjO]
  have hln:(zb ((x.ki.take i).map (ZoR t))).length=i:=by simp[zb];omega
  generalize zb ((x.ki.take i).map (ZoR t))=rows at hL htk hln;cases hL with
  |nil =>
   obtain rfl:i=0:=by simpa using hln.symm
   have hdr:kK (G0.length+3) (Zp2 1 t) (shM x t' s1 s2 (.slice ((G.length+1)+3) 1 3 0 1 none) (v+1) (G++[some (own 3 [[I (w64 (y.st+t)),I y.lo,I y.hi]]),some (own 3 [[I (w64 (y.st+t)),I y.lo,I y.hi]])]))=(shM x t' s1 s2 (.slice ((G.length+1)+3) 1 3 0 1 none) (v+1) (G++[some (own 3 [[I (w64 (y.st+t)),I y.lo,I y.hi]]),some (own 3 [[I (w64 (y.st+t)),I y.lo,I y.hi]])])):=ZoX (by omega) (.inr (.inr (by simp[Eng.below,yF];omega)));obtain⟨v',S',G',ih,h1,h2,h3⟩:=Zpa x t t' s1 s2 hs G0 r 1 (v+1) (.slice ((G.length+1)+3) 1 3 0 1 none) (G++[some (own 3 [[I (w64 (y.st+t)),I y.lo,I y.hi]]),some (own 3 [[I (w64 (y.st+t)),I y.lo,I y.hi]])]) hd' (by omega) (by
    rw[htk];exact .own (G.length+1) (by omega) _ (by simp) (by simp[own])) (by simp;omega) (fun k hk'=>by rw[jw (by omega)];exact hk k hk')
   refine⟨v',S',G',?_,h1,h2,h3⟩;rw[<-ih,<-hdr];rw[ZfM Zow.eq_1];simp[-kK,inC,zb,ZjO,hi1,hy,wk1,own,w64]<;>rfl
  |own j hj _ h0 hG =>
   have hjl:=(jV.1 hG).1;have hi0:i≠0:=fun e=>h0 (jM (hln.trans e))
   have hj2:∀N:Mem,(G++N)[j]?=some (some (own 3 rows)):=fun N=>by rw[jw hjl];exact hG
   have hr:(i+1)*24<=140737488355328:=by omega
   have htr:List.take i rows=rows:=by rw[<-hln];exact kH
   rw[hln];have hdr:kK (G0.length+3) (Zp2 (i+1) t) (shM x t' s1 s2 (.slice (j+3) (i+1) 3 0 (i+1) none) (v+1) ((G++[some (own 3 [[I (w64 (y.st+t)),I y.lo,I y.hi]])]).set j (some (own 3 (rows++[[I (w64 (y.st+t)),I y.lo,I y.hi]])))))=(shM x t' s1 s2 (.slice (j+3) (i+1) 3 0 (i+1) none) (v+1) ((G++[some (own 3 [[I (w64 (y.st+t)),I y.lo,I y.hi]])]).set j (some (own 3 (rows++[[I (w64 (y.st+t)),I y.lo,I y.hi]]))))):=ZoX (by omega) (.inr (.inr (by simp[Eng.below,yF];omega)));obtain⟨v',S',G',ih,h1,h2,h3⟩:=Zpa x t t' s1 s2 hs G0 r (i+1) (v+1) (.slice (j+3) (i+1) 3 0 (i+1) none) ((G++[some (own 3 [[I (w64 (y.st+t)),I y.lo,I y.hi]])]).set j (some (own 3 (rows++[[I (w64 (y.st+t)),I y.lo,I y.hi]])))) hd' (by omega) (by
    rw[htk];have:=LsN.own (n:=G0.length) (G:=(G++[some (own 3 [[I (w64 (y.st+t)),I y.lo,I y.hi]])]).set j (some (own 3 (rows++[[I (w64 (y.st+t)),I y.lo,I y.hi]])))) j hj (rows++[[I (w64 (y.st+t)),I y.lo,I y.hi]]) (by simp) (j9 (by simp;omega));simpa [hln]using this) (by simp;omega) (fun k hk'=>by rw[jI (by omega),jw (by omega)];exact hk k hk')
   refine⟨v',S',G',?_,h1,h2,h3⟩;rw[<-ih,<-hdr];rw[ZfM Zow.eq_1];simp[-kK,inC,zb,ZjO,hi1,hci,hy,hw,own,w64,hj2,hln,hr,htr]<;>rfl
abbrev Zp4(i:Nat)(t:Int):Env:=[(6,.w (W i)),(4,.w (Pt 1)),(1,.w (W t)),(2,.w (Pt 0)),(5,.w (Pt 2))]
theorem Zpc(x:Zjo)(t t':Int)(s2 s3:Cl)(hs:x.kg.length<=100)(G0:Mem)(hsz:∀y∈x.kg,y.seen.length<=5000/\y.pts.length<=1000):∀(r:List zZP) (i v:Nat) (s1:Cl) (G:Mem),x.kg.drop i=r->i<=x.kg.length->LsN G0.length G (ZlG ((x.kg.take i).map (Zo8 t))) s1->G0.length<=G.length->(∀k,k<G0.length->G[k]?=G0[k]?) ->
  ∃v' S' G',Y L Cs Zoy (some [6,4,1,2,5]) (G0.length+3) (Zp4 i t) (shM x t' s1 s2 s3 v G)=some (.exit 0,(18,.w (Bo false))::Zp4 x.kg.length t,(shM x t' S' s2 s3 v' G'))/\LsN G0.length G' (ZlG (x.kg.map (Zo8 t))) S'/\G0.length<=G'.length/\(∀k,k<G0.length->G'[k]?=G0[k]?)
 |[],i,v,s1,G,hd,hi,hL,hg,hk=>by
  obtain rfl:=ZoS hd hi;refine⟨v,s1,G,?_,by rw[kH]at hL;exact hL,hg,hk⟩;rw[ZfM Zoy.eq_1];simp[inC,ZlG,zX6,zWx,zWs,zX]
 |y::r,i,v,s1,G,hd,hi,hL,hg,hk=>by
  obtain⟨hi1,hy,hd'⟩:=ZoY hd;have hw:=zB (i:=i) (by omega);have hci:(i:Int)<x.kg.length:=by omega
  have htk:ZlG ((x.kg.take (i+1)).map (Zo8 t))=ZlG ((x.kg.take i).map (Zo8 t))++[[I (w64 (y.qt+t)),.jb (zWx y.seen),.jb (zWs y.pts)]]:=by
   rw[qH hi1,hy];simp[ZlG,Zo8,zX6]
  have hln:(ZlG ((x.kg.take i).map (Zo8 t))).length=i:=by simp[ZlG];omega
  have hy2:=hsz y (by rw[<-hy];exact jf hi1);have q1:y.seen.length*24<=140737488355328:=by omega
  have q2:y.pts.length*24<=140737488355328:=by omega
  have q3:List.take y.seen.length (List.map zWX y.seen)=List.map zWX y.seen:=jB (by simp);have q4:List.take y.pts.length (List.map zYi y.pts)=List.map zYi y.pts:=jB (by simp);generalize ZlG ((x.kg.take i).map (Zo8 t))=rows at hL htk hln;cases hL with
  |nil =>
   obtain rfl:i=0:=by simpa using hln.symm
   have hdr:kK (G0.length+3) (Zp4 1 t) (shM x t' (.slice ((G.length+3)+3) 1 3 0 1 none) s2 s3 (v+1) (G++[some { box:=false,esz:=3,rows:=zWx y.seen,gen:=y.seen.length,fz:=true,ver:=y.seen.length+1 },some { box:=false,esz:=3,rows:=zWs y.pts,gen:=y.pts.length,fz:=true,ver:=y.pts.length+1 },some (own 3 [[I (w64 (y.qt+t)),.jb (zWx y.seen),.jb (zWs y.pts)]]),some (own 3 [[I (w64 (y.qt+t)),.jb (zWx y.seen),.jb (zWs y.pts)]])]))=(shM x t' (.slice ((G.length+3)+3) 1 3 0 1 none) s2 s3 (v+1) (G++[some { box:=false,esz:=3,rows:=zWx y.seen,gen:=y.seen.length,fz:=true,ver:=y.seen.length+1 },some { box:=false,esz:=3,rows:=zWs y.pts,gen:=y.pts.length,fz:=true,ver:=y.pts.length+1 },some (own 3 [[I (w64 (y.qt+t)),.jb (zWx y.seen),.jb (zWs y.pts)]]),some (own 3 [[I (w64 (y.qt+t)),.jb (zWx y.seen),.jb (zWs y.pts)]])])):=ZoX (by omega) (.inl (by simp[Eng.below,yF];omega));obtain⟨v',S',G',ih,h1,h2,h3⟩:=Zpc x t t' s2 s3 hs G0 hsz r 1 (v+1) (.slice ((G.length+3)+3) 1 3 0 1 none) (G++[some { box:=false,esz:=3,rows:=zWx y.seen,gen:=y.seen.length,fz:=true,ver:=y.seen.length+1 },some { box:=false,esz:=3,rows:=zWs y.pts,gen:=y.pts.length,fz:=true,ver:=y.pts.length+1 },some (own 3 [[I (w64 (y.qt+t)),.jb (zWx y.seen),.jb (zWs y.pts)]]),some (own 3 [[I (w64 (y.qt+t)),.jb (zWx y.seen),.jb (zWs y.pts)]])]) hd' (by omega) (by
    rw[htk];exact .own (G.length+3) (by omega) _ (by simp) (by simp[own])) (by simp;omega) (fun k hk'=>by rw[jw (by omega)];exact hk k hk')
   refine⟨v',S',G',?_,h1,h2,h3⟩;rw[<-ih,<-hdr];rw[ZfM Zoy.eq_1];by_cases c1:y.seen=[]<;>by_cases c2:y.pts=[]<;>simp[-kK,inC,ZlG,zX6,zWx,zWs,zX,hi1,hy,wk1,own,w64,q1,q2,q3,q4,c1,c2]<;>rfl
  |own j hj _ h0 hG =>
   have hjl:=(jV.1 hG).1;have hi0:i≠0:=fun e=>h0 (jM (hln.trans e))
   have hj2:∀N:Mem,(G++N)[j]?=some (some (own 3 rows)):=fun N=>by rw[jw hjl];exact hG
   have hr:(i+1)*56<=140737488355328:=by omega
   have htr:List.take i rows=rows:=by rw[<-hln];exact kH
   rw[hln];have hdr:kK (G0.length+3) (Zp4 (i+1) t) (shM x t' (.slice (j+3) (i+1) 3 0 (i+1) none) s2 s3 (v+1) ((G++[some { box:=false,esz:=3,rows:=zWx y.seen,gen:=y.seen.length,fz:=true,ver:=y.seen.length+1 },some { box:=false,esz:=3,rows:=zWs y.pts,gen:=y.pts.length,fz:=true,ver:=y.pts.length+1 },some (own 3 [[I (w64 (y.qt+t)),.jb (zWx y.seen),.jb (zWs y.pts)]])]).set j (some (own 3 (rows++[[I (w64 (y.qt+t)),.jb (zWx y.seen),.jb (zWs y.pts)]])))))=(shM x t' (.slice (j+3) (i+1) 3 0 (i+1) none) s2 s3 (v+1) ((G++[some { box:=false,esz:=3,rows:=zWx y.seen,gen:=y.seen.length,fz:=true,ver:=y.seen.length+1 },some { box:=false,esz:=3,rows:=zWs y.pts,gen:=y.pts.length,fz:=true,ver:=y.pts.length+1 },some (own 3 [[I (w64 (y.qt+t)),.jb (zWx y.seen),.jb (zWs y.pts)]])]).set j (some (own 3 (rows++[[I (w64 (y.qt+t)),.jb (zWx y.seen),.jb (zWs y.pts)]]))))):=ZoX (by omega) (.inl (by simp[Eng.below,yF];omega));obtain⟨v',S',G',ih,h1,h2,h3⟩:=Zpc x t t' s2 s3 hs G0 hsz r (i+1) (v+1) (.slice (j+3) (i+1) 3 0 (i+1) none) ((G++[some { box:=false,esz:=3,rows:=zWx y.seen,gen:=y.seen.length,fz:=true,ver:=y.seen.length+1 },some { box:=false,esz:=3,rows:=zWs y.pts,gen:=y.pts.length,fz:=true,ver:=y.pts.length+1 },some (own 3 [[I (w64 (y.qt+t)),.jb (zWx y.seen),.jb (zWs y.pts)]])]).set j (some (own 3 (rows++[[I (w64 (y.qt+t)),.jb (zWx y.seen),.jb (zWs y.pts)]])))) hd' (by omega) (by
    rw[htk];have:=LsN.own (n:=G0.length) (G:=(G++[some { box:=false,esz:=3,rows:=zWx y.seen,gen:=y.seen.length,fz:=true,ver:=y.seen.length+1 },some { box:=false,esz:=3,rows:=zWs y.pts,gen:=y.pts.length,fz:=true,ver:=y.pts.length+1 },some (own 3 [[I (w64 (y.qt+t)),.jb (zWx y.seen),.jb (zWs y.pts)]])]).set j (some (own 3 (rows++[[I (w64 (y.qt+t)),.jb (zWx y.seen),.jb (zWs y.pts)]])))) j hj (rows++[[I (w64 (y.qt+t)),.jb (zWx y.seen),.jb (zWs y.pts)]]) (by simp) (j9 (by simp;omega));simpa [hln]using this) (by simp;omega) (fun k hk'=>by rw[jI (by omega),jw (by omega)];exact hk k hk')
   refine⟨v',S',G',?_,h1,h2,h3⟩;rw[<-ih,<-hdr];rw[ZfM Zoy.eq_1];by_cases c1:y.seen=[]<;>by_cases c2:y.pts=[]<;>simp[-kK,inC,ZlG,zX6,zWx,zWs,zX,hi1,hci,hy,hw,own,w64,hj2,hln,hr,htr,q1,q2,q3,q4,c1,c2]<;>rfl
theorem LsN.frz{n:Nat}{G:Mem}{rows:List (List Cl)}{s:Cl}(h:LsN n G rows s)(a b c:Option Blk):zdR (a::b::c::G) s=some (.jb rows):=by
 cases h with
 |nil=>rfl
 |own j hj _ h0 h=>simp[zdR,Eng.look,h,own]
theorem Zp9:∀(l:List Nat) (M:Mem),(List.foldl zX M l).length=M.length
 |[],M=>rfl
 |id::l,M=>by
  show(List.foldl zX (zX M id) l).length=_;rw[Zp9 l];unfold zX;split
  ·split<;>simp
  ·rfl
theorem Zqx(l:List Nat)(M:Mem):(List.foldl zX M l=[])=(M=[]):=by
 rw[<-kh,<-kh,Zp9]
theorem Zqm(M:Mem)(k:IntKind)(n:Int):zdR M (.int k n)=some (.int k n):=rfl
theorem ZpV(x:Zjo)(t:Int)(hx:Zlc x) :
  R L Cs ZoG [.a (inC x),W t] []=some (.w (.a (inC (shI t x))),[]):=by
 obtain⟨v1,S1,G1,y1,l1,g1,k1⟩:=Zpc x t (w64 (x.tick+t)) .jc .jc hx.n1 [] hx.sc x.kg 0 1 .jc [] rfl (jp _) .nil (jm _) (fun k hk=>by cases hk);obtain⟨v2,S2,G2,y2,l2,g2,k2⟩:=Zpb x t (w64 (x.tick+t)) S1 .jc hx.n2 G1 x.jR 0 v1 .jc G1 rfl (jp _) .nil (jm _) (fun k hk=>rfl);obtain⟨v3,S3,G3,y3,l3,g3,k3⟩:=Zpa x t (w64 (x.tick+t)) S1 S2 hx.n3 G2 x.ki 0 v2 .jc G2 rfl (jp _) .nil (jm _) (fun k hk=>rfl);have a1:=((l1.vg k2 (jp _)).vg (fun k hk=>k3 k hk) (jp _));have a2:=l2.vg k3 (jp _);have f1:=a1.frz;have f2:=a2.frz;have f3:=l3.frz;clear l1 l2 l3 a1 a2 k1 k2 k3;show _=some (AV.w (WV.a [I (w64 (x.tick+t)),.jb (ZlG (x.kg.map (Zo8 t))),.jb (zb (x.jR.map (ZoR t))),.jb (zb (x.ki.map (ZoR t)))]),([]:Mem));generalize ZlG (x.kg.map (Zo8 t))=z1 at *;generalize zb (x.jR.map (ZoR t))=z2 at *;generalize zb (x.ki.map (ZoR t))=z3 at *;simp only[shM,Zp4,Zp3,Zp2,jg,jo,jF]at y1 y2 y3;rw[zUa ZoQ rfl];simp only[inC,w64]at y1 y2 y3 ⊢;simp[-zdR,ZoF,y1,y2,y3,f1,f2,f3,Zqm,Zqx]
open Go Go.Eng Go.PlanLaw
theorem Zkt{S:StV}{zs:List Zon}{ss:List Sgn}(hL:ZkT S zs ss)(ht:S.t0=0):Zjt S zs ss (Zhv S ⟨S.t0,zTA 0 S.m.jd,S.e0⟩) [0]=true:=by
 have hB:=hL.be;have hk:=KB.zero hL.ok hB;obtain⟨s1,s2,s3⟩:=hB.s;have Cw:=hB.big;have h:=zTU hL.ok.full hL.ok.vE hB.kind hL.con hL.ok.car (Zhv S ⟨S.t0,zTA 0 S.m.jd,S.e0⟩) hk.nd.chk hB.v hB.far (by show S.t0<_;omega) (by show S.e0.shi<=_;omega) S.sig 0 (jS _) (Ze9 hL.ok.car);unfold Zjt;rw[h,kL,uY];intro p hp q;have:=hB.pas p hp;simp only[jh,decide_eq_true_eq]at q;have e:(Zhv S ⟨S.t0,zTA 0 S.m.jd,S.e0⟩).ego.shi=S.e0.shi:=rfl;omega
theorem Zk9(n:Nat):EsN n []:=fun e he=>by cases he
def Zoc(S:StV)(zs:List Zon)(ss:List Sgn)(y:zZP):NdV:=ZjL (goN S zs ss { nd0 S with last:=0 } (znE S (some ⟨[],[],[y]⟩) (rg0 S).jO).1)
theorem Zre{S:StV}{zs:List Zon}{ss:List Sgn}(hL:ZkT S zs ss)(ht:S.t0=0)(y:zZP)(hst:y.qt=0)(hp:y.pts=[])(hse:y.seen.length<=5000) :
  ∃v' w' u',(4<v'/\0<w'/\u'≠0)/\(ZhJ (rg0 S) (Pl.uD (goN S zs ss { nd0 S with last:=0 } (znE S (some ⟨[],[],[y]⟩) (rg0 S).jO).1).kU 0)).ini=false/\R L Cs Zh5 [Pt 0,.a (inC ⟨0,[y],[],[]⟩)] (ndM S (nd0 S) (rg0 S) 0 [] 4 0 0)=some (.t [W (Zlu S (Zoc S zs ss y)),W 0],ndM S (Zoc S zs ss y) (ZhJ (rg0 S) (Pl.uD (goN S zs ss { nd0 S with last:=0 } (znE S (some ⟨[],[],[y]⟩) (rg0 S).jO).1).kU 0)) 1 (Zju ⟨[],[],[y]⟩) v' w' u'):=by
 unfold Zoc;have hk:=KB.zero hL.ok hL.be;have hr0:ZjQ (rg0 S):=⟨jp _,fun _=>rfl⟩;have hnd:Zk7 S (nd0 S) (rg0 S) [] 1:=by
  refine⟨hr0,fun a ha=>?_,hk,?_,?_,Zk9 1,?_,?_⟩
  ·cases ha
  ·show S.t0=S.t0+0;omega
  ·show S.t0<=90000;omega
  ·show 0<=S.t0/\S.t0<=1099511627776;omega
  ·show 1<=900;decide
 have hq:Zlb ⟨[],[],[y]⟩:=⟨rfl,rfl,fun s hs=>by rw[js.1 hs];exact hp⟩;have e2:hrN S zs ss (nd0 S) (rg0 S) 0 [] [] ⟨0,[y],[],[]⟩=({ nd0 S with last:=0 },(1,Zju ⟨[],[],[y]⟩)):=by
  show(heD (nd0 S) y,he3 (nd0 S) (0,[]) y)=_;have hc:Zjv (nd0 S) y.qt=true:=by
   unfold Zjv nd0;simp only[hst,ht];decide
  unfold heD he3;rw[if_pos hc,if_pos hc,hst];have e:max (nd0 S).last 0=0:=by show max S.t0 0=0;omega
  rw[e];rfl
 have eK:Zkz S zs ss (Zhl S zs ss [] (rg0 S)) (Zju ⟨[],[],[y]⟩)=((znE S (some ⟨[],[],[y]⟩) (rg0 S).jO).1,true):=by
  have e:Zkz S zs ss (Zhl S zs ss [] (rg0 S)) (Zju ⟨[],[],[y]⟩)=znE S (znB S.t0 (Zju ⟨[],[],[y]⟩)) (rg0 S).jO:=rfl;rw[e,ht];show znE S (some ⟨[],[],[y]⟩) (rg0 S).jO=_;rw[<-Zkg (S:=S) hq (rg0 S).jO]
 obtain⟨v',w',u',hvw,hes2,hR⟩:=Zlp hL.ok hnd (by decide) 0 4 0 0 [] (ZkF 0) (by decide) (x:=⟨0,[y],[],[]⟩) ⟨by simp,by simp,by simp,fun z hz=>by rw[js.1 hz,hp];exact⟨hse,by simp⟩⟩ ⟨by simp,by simp,by simp⟩ ht.symm e2 eK;have r0:Zhl S zs ss [] (rg0 S)=rg0 S:=rfl;rw[r0]at hR;exact⟨v',w',u',⟨hvw.1,hvw.2.1,fun q=>by cases (hvw.2.2.2 q).1⟩,(ZjF (g:=rg0 S) (jp _) _).2.2.2.2,hR⟩
abbrev lit5(x0 q:Int):Option Blk:=some { box:=false,esz:=3,rows:=[[I x0,I 0,I q]],gen:=1,fz:=true,ver:=2 }
abbrev lit6(x0 q:Int)(z:Bool)(v:Nat):Option Blk:=some { box:=false,esz:=3,rows:=[[I 0,.jb [[I x0,I 0,I q]],.jb []]],gen:=1,fz:=z,ver:=v }
variable{S:StV}{zs:List Zon}{ss:List Sgn}
theorem Drv0.zero(hL:ZkT S zs ss)(ht:S.t0=0):Drv0 S (nd0 S) (rg0 S) 0 [] 0:=by
 have hk:=KB.zero hL.ok hL.be;refine⟨⟨⟨jp _,fun _=>rfl⟩,(fun a ha=>by cases ha),hk,?_,?_,EsN.nil _,?_,by show 1<=900;decide⟩,Zoz.nil 0,hk,⟨fun a ha=>?_,by show 1<=125;decide⟩,⟨fun a ha=>?_,by show 1<=125;decide⟩⟩
 ·show S.t0=S.t0+0;omega
 ·show S.t0<=90000;omega
 ·show 0<=S.t0/\S.t0<=1099511627776;omega
 ·obtain rfl:a=0:=js.1 ha;unfold zk0;omega
 ·obtain rfl:a=0:=js.1 ha;unfold zk0;omega
theorem Drv.zero(hL:ZkT S zs ss)(ht:S.t0=0):Drv S zs ss (nd0 S) (rg0 S) 0 [] 0:=⟨Drv0.zero hL ht,.inl ⟨rfl,rfl,rfl⟩,fun _=>Zkt hL ht⟩
theorem Zp1{l:List Zjo}(h:smB l=true):l.length<=8/\∀x∈l,∀t,Zlc (shI t x):=by
 unfold smB at h;simp only[jh,decide_eq_true_eq,jy]at h;refine⟨h.1,fun x hx t=>?_⟩;have h2:=h.2 x hx;unfold ZpQ at h2;simp only[jh,decide_eq_true_eq,jy]at h2;obtain⟨a,b,c,d⟩:=h2;refine⟨by simp[shI];omega,by simp[shI];omega,by simp[shI];omega,fun y hy=>?_⟩;simp only[shI,jX]at hy;obtain⟨z,hz,rfl⟩:=hy;have:=d z hz;unfold Zpi at this;simp only[jh,decide_eq_true_eq]at this;simp only[Zo8];omega
theorem Zqy{l:List Zjo}(h:smB l=true){x:Zjo}(hx:x∈l):Zlc x:=by
 have h2:=(Zp1 h).2 x hx 0;refine⟨by simpa [shI]using h2.n1,by simpa [shI]using h2.n2,by simpa [shI]using h2.n3,fun y hy=>?_⟩;exact h2.sc (Zo8 0 y) (by simp only[shI];exact qJ hy)
abbrev plE(l:List Zjo)(i:Nat):Env:=[(7,.w (W i)),(1,.w (.c (.jb (ZoM l)))),(5,.w (Pt 1))]
theorem Zpo(hL:ZkT S zs ss)(l:List Zjo)(hl:smB l=true)(n0:Nat)(hn0:1<n0):∀(r:List Zjo) (i:Nat) (d:NdV) (g:RgV) (c:Int) (es:List Zou) (v w u p q:Nat) (M:Mem),l.drop i=r->i<=l.length->Drv S zs ss d g c es (24*i)->d.now<=i->LM 1 S d g c es v w u p q M ->
  ∃M',Y L Cs Zov (some [7,1,5]) n0 (plE l i) M=some (.exit 0,[(33,.w (Bo false)),(7,.w (W l.length)),(1,.w (.c (.jb (ZoM l)))),(5,.w (Pt 1))],M')
 |[],i,d,g,c,es,v,w,u,p,q,M,hd,hi,H,BJ,hM=>by
  obtain rfl:=ZoS hd hi;refine⟨M,?_⟩;rw[ZfM Zov.eq_1];simp
 |x::r,i,d,g,c,es,v,w,u,p,q,M,hd,hi,H,BJ,hM=>by
  obtain⟨hi1,hx,hd'⟩:=ZoY hd;have hl8:=(Zp1 hl).1;have yy:x∈l:=by rw[<-hx];exact jf hi1
  have hw:=zB (i:=i) (by omega);have hci:(i:Int)<l.length:=by omega
  have hN:=hM.same (.inl ⟨_,rfl⟩) (ZnT S d g c es v w u);have hS:=ZpV x d.now (Zqy hl yy);have hSc:∀M,zx (R L Cs) ⟨true⟩ (.c (.fn ZoG [] [])) [.a (inC x),W d.now] M=some (.w (.a (inC (shI d.now x))),M,.no):=fun M=>by
   simp only[inC]at hS ⊢;simp[hS]
  obtain⟨rr,e,d1,g1,c1,es1,v1,w1,u1,p1,q1,M1,fp1,H1,hnow1,hM1,DC,hT,he1,-⟩:=ZpW (zs:=zs) (ss:=ss) hL.ok H.toDrv0 (by omega) (by omega) ((Zp1 hl).2 x yy d.now) hM;have H1:Drv S zs ss d1 g1 c1 es1 (24*i+24):=by
   rcases he1 with⟨_,_,_,_,hD⟩ |⟨_,_,rfl,rfl,rfl,rfl⟩
   ·exact H.DR hL H1 hD
   ·exact⟨H1,H.st,H.ver⟩
  have hb1:d1.k9.jZ.length<=100000000000:=by have:=H1.kb.nd.len hL.ok;omega
  have hMd:=hM1.same (.inl ⟨_,rfl⟩) (Zmn S d1 g1 c1 es1 v1 w1 u1);have hVe:=hM1.same (.inr (.inr (.inl ⟨_,rfl⟩))) (ZmB hL.ok d1 g1 c1 es1 v1 w1 u1 hb1 (by have:=H1.told.len;omega) H1.told.Cb);obtain⟨er,d2,v2,M2,fp2,H2,hnow2,hM2,DB,hRs,hr0⟩:=ZpI hL H1 hM1;have Dk:=hM2.same (.inl ⟨_,rfl⟩) (Zmn S d2 g1 c1 es1 v2 w1 u1);have hver:d1.mode=1->(Znm S zs ss d1.k9 d1.told).1=true:=H1.ver;generalize Znm S zs ss d1.k9 d1.told=y at *;obtain⟨y1,y2,y3⟩:=y;have htm:Int.tmod (i:Int) 3=((i % 3:Nat):Int):=rfl;have Cd:IntKind.i64.wrap (Int.tmod i 3)=Int.tmod i 3:=zTd _ (by omega) (by omega);have ihA:=fun E=>Zpo hL l hl n0 hn0 r (i+1) d1 g1 c1 es1 v1 w1 u1 p1 q1 (kK n0 E M1) hd' (by omega) (by rw[Nat.mul_succ];exact H1) (by push_cast;omega) (hM1.drop hn0 E)
  have ihB:=fun E=>Zpo hL l hl n0 hn0 r (i+1) d2 g1 c1 es1 v2 w1 u1 p1 q1 (kK n0 E M2) hd' (by omega) (by rw[Nat.mul_succ];exact H2) (by push_cast;omega) (hM2.drop hn0 E)
  have hdone:Y L Cs Zov (some [7,1,5]) n0 (plE l i) M=Y L Cs Zov (some [7,1,5]) n0 (plE l (i+1)) (kK n0 (plE l (i+1)) M1)\/Y L Cs Zov (some [7,1,5]) n0 (plE l i) M=Y L Cs Zov (some [7,1,5]) n0 (plE l (i+1)) (kK n0 (plE l (i+1)) M2):=by
   rw[ZfM Zov.eq_1];by_cases hm:d1.mode=1
   ·have hy:=hver hm;simp only at hy;subst hy;rw[hm]at hMd;by_cases h3:Int.tmod i 3=2
    ·right;by_cases he:er=0
     ·have:=hr0 he;rw[this]at Dk;subst he;simp[-zx,-kK,hi1,hci,hx,hw,hN,hSc,hT,hMd,hVe,hRs,Dk,h3,Cd,zJ4,zJY];rfl
     ·have he':(er==0)=false:=by simpa using he
      simp[-zx,-kK,hi1,hci,hx,hw,hN,hSc,hT,hMd,hVe,hRs,Dk,h3,Cd,he',zJ4,zJY];rfl
    ·left;have h3':(Int.tmod i 3==2)=false:=by simpa using h3
     simp[-zx,-kK,hi1,hci,hx,hw,hN,hSc,hT,hMd,hVe,h3',Cd,zJ4,zJY];rfl
   ·have hm':(d1.mode==1)=false:=by simpa using hm
    by_cases h3:Int.tmod i 3=2
    ·right;by_cases he:er=0
     ·have:=hr0 he;rw[this]at Dk;subst he;simp[-zx,-kK,hi1,hci,hx,hw,hN,hSc,hT,hMd,hm',hRs,Dk,h3,Cd];rfl
     ·have he':(er==0)=false:=by simpa using he
      simp[-zx,-kK,hi1,hci,hx,hw,hN,hSc,hT,hMd,hm',hRs,Dk,h3,Cd,he'];rfl
    ·left;have h3':(Int.tmod i 3==2)=false:=by simpa using h3
     simp[-zx,-kK,hi1,hci,hx,hw,hN,hSc,hT,hMd,hm',h3',Cd];rfl
  rcases hdone with h|h
  ·rw[h];exact ihA _
  ·rw[h];exact ihB _
abbrev stA(n r dl bu si s sp ln ac br ra:Int)(sg:Bool):List Cl:=[I n,I r,I dl,I bu,I si,I s,I sp,I ln,I ac,I br,I ra,.bool sg]
theorem ZpC(hL:ZkT S zs ss)(ht:S.t0=0)(n r dl bu si s sp ln ac br ra:Int)(sg:Bool)(l:List Zjo)
  (hSet:R L Cs ZlI [.a (stA n r dl bu si s sp ln ac br ra sg)] []=some (.w (.a (ZlR S)),[]))
  (hAw:R L Cs ZlH [] []=some (.w (Bo true),[])) :
  R L Cs ZoE [.a (stA n r dl bu si s sp ln ac br ra sg),.c (.jb (ZoM l))] []=some (.w (Bo true),[]):=by
 have hSm:=Zqn l;have c1:∀M,zx (R L Cs) ⟨true⟩ (.c (.fn ZlI [] [])) [.a (stA n r dl bu si s sp ln ac br ra sg)] M=some (.w (.a (ZlR S)),M,.no):=fun M=>by simp[hSet]
 have c2:∀M,zx (R L Cs) ⟨true⟩ (.c (.fn ZoI [] [])) [.c (.jb (ZoM l))] M=some (.w (Bo (smB l)),M,.no):=fun M=>by simp[hSm]
 have c4:∀M,zx (R L Cs) ⟨true⟩ (.c (.fn ZlH [] [])) [] M=some (.w (Bo true),M,.no):=fun M=>by simp[hAw]
 rw[zUa ZoL rfl];by_cases hl:smB l=true
 ·have hNew:=Znz hL.ok hL.be;have hN:zx (R L Cs) ⟨true⟩ (.c (.fn ZlW [] [])) [.a (ZlR S)] [bx 12 (stA n r dl bu si s sp ln ac br ra sg)]=some (.t [Pt 1,W 0],[bx 12 (stA n r dl bu si s sp ln ac br ra sg),bxv 4 46 (ndX S (nd0 S) 2 3),bxv 0 12 (rgC 2 (rg0 S)),mpB 0 [] 0],.no):=by
   simp[ndM,ndC,rgC,mpB,bxv,nd0,rg0,ZlR]at hNew;simp[hNew,ndX,nd0,rg0,ZlR]
  have hM:LM 1 S (nd0 S) (rg0 S) 0 [] 4 0 0 2 3 [bx 12 (stA n r dl bu si s sp ln ac br ra sg),bxv 4 46 (ndX S (nd0 S) 2 3),bxv 0 12 (rgC 2 (rg0 S)),mpB 0 [] 0]:=⟨rfl,rfl,rfl,by decide,by decide,by decide⟩;have H:=Drv.zero hL ht;have hb:(nd0 S).k9.jZ.length<=100000000000:=by have:=H.kb.nd.len hL.ok;omega
  have hVe:=hM.same (.inr (.inr (.inl ⟨_,rfl⟩))) (ZmB hL.ok (nd0 S) (rg0 S) 0 [] 4 0 0 hb (by have:=H.told.len;omega) H.told.Cb);have hver:(Znm S zs ss (nd0 S).k9 (nd0 S).told).1=true:=H.ver rfl;obtain⟨M',hLp⟩:=Zpo hL l hl 4 (by decide) l 0 (nd0 S) (rg0 S) 0 [] 4 0 0 2 3 _ rfl (jp _) H (by show S.t0<=0;omega) hM;generalize Znm S zs ss (nd0 S).k9 (nd0 S).told=y at *;obtain⟨y1,y2,y3⟩:=y;simp only at hver;subst hver;rw[hl]at c2;simp only[plE,jg]at hLp;simp[-zx,ZoA,c1,c2,c4,hN,hVe,hLp,zJ4,zJY]
 ·simp only[Al]at hl;rw[hl]at c2;simp[-zx,ZoA,c2,c4]
end Go.TrRun
set_option maxRecDepth 100000
namespace Go.TrRun
open Go Go.Eng Go.PlanLaw
def mpA:zD:=⟨0,[⟨1,[(0,0),(100000,0)],1500,1500,[],100000⟩],[],[],[]⟩
def Zn8:StV:=⟨mpA,[0],⟨4000,20,60,30,0⟩,⟨10000,10000,0,0⟩,0,8,5,true⟩
theorem Zod{l:zfn}(h:l∈mpA.jd):l=⟨1,[(0,0),(100000,0)],1500,1500,[],100000⟩:=js.1 h
theorem Zoh(a:Int):zS mpA a=[]:=by
 by_cases h:mpA.jd.length<=a.toNat
 ·exact zyt h
 ·have e:a.toNat=0:=by
   have:mpA.jd.length=1:=rfl;omega
  unfold zS;rw[e];rfl
theorem Zor:zcp mpA where
 small:=⟨by decide,fun l h=>by rw[Zod h];decide,fun l h=>by rw[Zod h];intro x hx;cases hx⟩
 chk:=zah.2 ⟨200,by kernel_rfl⟩
 rchk:=zah.2 ⟨200,by kernel_rfl⟩
 len:=fun l h=>by rw[Zod h];exact zah.2 ⟨200,by kernel_rfl⟩
 rlen:=fun l h=>by rw[Zod h];exact zah.2 ⟨200,by kernel_rfl⟩
 Cn:=fun l h=>by rw[Zod h];decide
 kind:=fun l h=>by rw[Zod h];exact .inl rfl
 ut:=fun l h=>by rw[Zod h];decide
theorem Zos:zmq mpA [] [] where
 qD:=Zor
 one:=⟨fun l h=>by rw[Zod h];exact⟨0,0,100000,0,rfl,⟨by decide,by decide,zah.2 ⟨400,by kernel_rfl⟩,zah.2 ⟨400,by kernel_rfl⟩,zah.2 ⟨400,by kernel_rfl⟩,zah.2 ⟨400,by kernel_rfl⟩⟩⟩,by decide⟩
 yl:=⟨by decide,fun a=>by rw[Zoh];decide,fun a x h=>(by rw[Zoh]at h;cases h),fun a x h=>(by rw[Zoh]at h;cases h),fun a x h=>(by rw[Zoh]at h;cases h)⟩
 zd:=⟨rfl,rfl,by decide,by decide,fun z h=>(by cases h),fun z h=>(by cases h),fun z h=>(by cases h)⟩
 asc:=fun _ _=>by simp
 nd:=fun z h=>by cases h
 pv:=fun z h=>by cases h
theorem Zok:∀l:List Int,∀a,zKh mpA [] a l=[]
 |[],_=>rfl
 |x::l,a=>by
  unfold zKh;rw[Zok l];rfl
theorem Zol:zKj mpA [] []:=⟨Zos,by decide,by decide,by decide,⟨by kernel_rfl,by kernel_rfl⟩,fun l _=>by rw[Zok];simp[zN1],fun l _=>by rw[Zok];decide⟩
theorem Zoq:ZkT Zn8 [] [] where
 ok:=⟨Zol,by kernel_rfl,by unfold Car.ok Zn8;simp only;omega,by decide,by decide⟩
 be:=⟨⟨rfl,rfl⟩,by decide,by decide,by decide,fun p h=>(by rw[show zKh Zn8.m [] 0 Zn8.r=[] from Zok _ _]at h;cases h),by kernel_rfl,by decide⟩
 con:=fun z h=>by cases h
 wl:=fun w h=>by cases h
abbrev scA:zZP:=⟨0,[⟨0,0,60000⟩],[]⟩
theorem Zoi:R L Cs Zn7 [] []=some (.w (.a (ZlR Zn8)),[]):=zah.2 ⟨200,by kernel_rfl⟩
theorem Zot:Zlu Zn8 (Zoc Zn8 [] [] scA)=20/\(Zoc Zn8 [] [] scA).looked=1/\(Zoc Zn8 [] [] scA).mode=1/\(Zoc Zn8 [] [] scA).now=1:=by
 have h1:decide (Zlu Zn8 (Zoc Zn8 [] [] scA)=20/\(Zoc Zn8 [] [] scA).looked=1/\(Zoc Zn8 [] [] scA).mode=1/\(Zoc Zn8 [] [] scA).now=1)=true:=by kernel_rfl
 exact of_decide_eq_true h1
theorem Zog(S:StV)(d:NdV)(g:RgV)(c:Int)(es:List Zou)(v w u:Nat):R L Cs Zoa [Pt 0] (ndM S d g c es v w u)=some (.w (W d.looked),ndM S d g c es v w u):=by
 have h:=ZkQ S d g c es v w u;obtain⟨s0,s1,s2,s3,s4,n,ini,p⟩:=g;rw[zUa Zob rfl];cases ini<;>simp[ndM,ndC,rgC,mpB,bxv]at h<;>simp[ZiM,h]
abbrev Zom(S:StV)(d:NdV)(g:RgV)(es:List Zou)(v w u:Nat)(x0 q:Int):Mem:=[bxv v 46 (ndX S d 1 2),bxv w 12 (rgC 1 g),mpB 1 es u,lit5 x0 q,lit6 x0 q true 2]
theorem Zoe{S:StV}{d:NdV}{g:RgV}{es:List Zou}{v w u:Nat}{x0 q:Int}(hi:g.ini=false){f:Nat}{n:Int}
  (hR:R L Cs f [Pt 0] (ndM S d g 1 es v w u)=some (.w (W n),ndM S d g 1 es v w u)) :
  zx (R L Cs) ⟨true⟩ (.c (.fn f [] [])) [Pt 0] (Zom S d g es v w u x0 q)=some (.w (W n),Zom S d g es v w u x0 q,.no):=by
 obtain⟨s0,s1,s2,s3,s4,na,ini,p⟩:=g;simp only at hi;subst hi;simp[ndM,ndC,rgC,mpB,bxv]at hR;simp[Zom,ndX,hR,Zly]
theorem Zop{S:StV}{zs:List Zon}{ss:List Sgn}(hL:ZkT S zs ss) :
  ∃fp,zx (R L Cs) ⟨true⟩ (.c (.fn ZlW [] [])) [.a (ZlR S)] []=some (.t [Pt 0,W 0],[bxv 4 46 (ndX S (nd0 S) 1 2),bxv 0 12 (rgC 1 (rg0 S)),mpB 0 [] 0],fp):=by
 have hNew:=Znz hL.ok hL.be;refine⟨.no,?_⟩;simp[ndM,ndC,rgC,mpB,bxv,nd0,rg0,ZlR]at hNew;simp[hNew,ndX,nd0,rg0,ZlR]
theorem Zoo{S:StV}{d':NdV}{g':RgV}{es':List Zou}{v' w' u':Nat}(hi':g'.ini=false)(h:4<v'/\0<w'/\u'≠0)(x0 q x:Int)
  (hR:R L Cs Zh5 [Pt 0,.a (inC ⟨0,[⟨0,[⟨x0,0,q⟩],[]⟩],[],[]⟩)] (ndM S (nd0 S) (rg0 S) 0 [] 4 0 0)=some (.t [W x,W 0],ndM S d' g' 1 es' v' w' u')) :
  ∃fp,zx (R L Cs) ⟨true⟩ (.c (.fn Zh5 [] [])) [Pt 0,.a [I 0,.slice 4 1 3 0 1 none,.jc,.jc]] [bxv 4 46 (ndX S (nd0 S) 1 2),bxv 0 12 (rgC 1 (rg0 S)),mpB 0 [] 0,lit5 x0 q,lit6 x0 q false 1] =
   some (.t [W x,W 0],Zom S d' g' es' v' w' u' x0 q,fp):=by
 obtain⟨r0,r1,r2,r3,r4,ma,jni,p'⟩:=g';simp only at hi';subst hi';have a1:¬v'=4:=by omega
 have a2:¬w'=0:=by omega
 have a3:=h.2.2;refine⟨.wr [(4,0,whole),(0,0,whole),(1,0,whole),(2,0,whole)],?_⟩;simp[ndM,ndC,rgC,mpB,bxv,inC,ZlG,zb,zX6,zWx,zWX,zWs,rg0,nd0]at hR;simp[ndX,hR,Zly,a1,a2,a3,rg0,nd0,lit5,lit6,zX]
theorem Zoj:R L Cs ZlH [] []=some (.w (Bo true),[]):=by
 obtain⟨v1,w1,u1,hv1,hi1,hT1⟩:=Zre Zoq rfl scA rfl rfl (by decide);obtain⟨f1,f2,f3,f4⟩:=Zot;generalize Zoc Zn8 [] [] scA=d1 at *;generalize ZhJ (rg0 Zn8) _=g1 at *;rw[f1]at hT1;have c1:zx (R L Cs) ⟨true⟩ (.c (.fn Zn7 [] [])) [] []=some (.w (.a (ZlR Zn8)),[],.no):=by simp[Zoi]
 obtain⟨fp,hN⟩:=Zop Zoq;obtain⟨fp1,hT⟩:=Zoo hi1 hv1 0 60000 20 hT1;have hL:=Zoe (S:=Zn8) (x0:=0) (q:=60000) hi1 (Zog Zn8 d1 g1 1 (Zju ⟨[],[],[scA]⟩) v1 w1 u1);have hM:=Zoe (S:=Zn8) (x0:=0) (q:=60000) hi1 (Zmn Zn8 d1 g1 1 (Zju ⟨[],[],[scA]⟩) v1 w1 u1);have hW:=Zoe (S:=Zn8) (x0:=0) (q:=60000) hi1 (ZnT Zn8 d1 g1 1 (Zju ⟨[],[],[scA]⟩) v1 w1 u1);rw[f2]at hL;rw[f3]at hM;rw[f4]at hW;rw[zUa Zn9 rfl];simp (maxSteps:=400000) [-zx,Zin,c1,hN,hT,hL,hM,hW,zg,zX,zH]
theorem ZnL.law{m:zD}{zs:List Zon}{ss:List Sgn}(hM:ZnL m zs ss){k:Int}(hk:k=0\/zaK m ((zDT m k).headD 0)=1)(bu si dl s sp ln ac br ra:Int)(sg:Bool):ZkT (Zns m k bu si dl s sp ln ac br ra sg) zs ss:=by
 obtain⟨h1,h2⟩:=ZnR hM hk bu si dl s sp ln ac br ra sg;exact⟨h1,h2,fun z hz=>hM.con _ h1.vE z hz,hM.wl⟩
theorem ZoT{α:Type}{f:α->List Cl}{P:List Cl->Prop}(h:∀r,P r->∃x,r=f x):∀{rows:List (List Cl)},(∀r∈rows,P r)->∃l:List α,rows=l.map f
 |[],_=>⟨[],rfl⟩
 |r::rows,hr=>by
  obtain⟨x,rfl⟩:=h r (hr r (jq ..));obtain⟨l,rfl⟩:=ZoT h (fun q hq=>hr q (jA _ hq));exact⟨x::l,rfl⟩
abbrev ZpZ:Sh:=.st [zmN,zmN,zmN]
abbrev Zqs:Sh:=.st [zmN,.slice (.st [zmN,.slice ZpZ,.slice ZpZ]),.slice ZpZ,.slice ZpZ]
abbrev Zng:Sh:=.st [zmN,zmN,zmN,zmN,zmN,zmN,zmN,zmN,zmN,zmN,zmN,.bool]
theorem Zpm{r:List Cl}(h:zfo ZpZ r):∃a b c,r=[I a,I b,I c]:=by
 simp only[zfo,znD]at h;obtain⟨_,_,rfl,⟨a,rfl,_⟩,_,_,rfl,⟨b,rfl,_⟩,_,_,rfl,⟨c,rfl,_⟩,rfl⟩:=h;exact⟨a,b,c,rfl⟩
theorem Zqj{rows:List (List Cl)}(h:∀r∈rows,zfo Zqs r):∃l,rows=ZoM l:=ZoT (f:=inC) (P:=zfo Zqs) (fun r hr=>by
 unfold zfo at hr;simp only[znD]at hr;obtain⟨_,_,rfl,h1,_,_,rfl,h2,_,_,rfl,h3,_,_,rfl,h4,rfl⟩:=hr;simp only[zfo]at h1;obtain⟨t,rfl,_⟩:=h1;unfold zfo at h2 h3 h4;obtain⟨r2,rfl,_,h2⟩:=h2;obtain⟨r3,rfl,_,h3⟩:=h3;obtain⟨r4,rfl,_,h4⟩:=h4;obtain⟨sc,rfl⟩:=ZoT (f:=zX6) (fun r hr=>by
  unfold zfo at hr;simp only[znD]at hr;obtain⟨_,_,rfl,h1,_,_,rfl,h2,_,_,rfl,h3,rfl⟩:=hr;simp only[zfo]at h1;obtain⟨t,rfl,_⟩:=h1;unfold zfo at h2 h3;obtain⟨r2,rfl,_,h2⟩:=h2;obtain⟨r3,rfl,_,h3⟩:=h3;obtain⟨se,rfl⟩:=ZoT (f:=zWX) (fun r hr=>by obtain⟨a,b,c,rfl⟩:=Zpm hr;exact⟨⟨a,b,c⟩,rfl⟩) h2;obtain⟨pt,rfl⟩:=ZoT (f:=zYi) (fun r hr=>by obtain⟨a,b,c,rfl⟩:=Zpm hr;exact⟨⟨a,b,c⟩,rfl⟩) h3;exact⟨⟨t,se,pt⟩,rfl⟩) h2
 obtain⟨sp,rfl⟩:=ZoT (f:=ZjO) (fun r hr=>by obtain⟨a,b,c,rfl⟩:=Zpm hr;exact⟨⟨a,b,c⟩,rfl⟩) h3;obtain⟨fx,rfl⟩:=ZoT (f:=ZjO) (fun r hr=>by obtain⟨a,b,c,rfl⟩:=Zpm hr;exact⟨⟨a,b,c⟩,rfl⟩) h4;exact⟨⟨t,sc,sp,fx⟩,rfl⟩) h
theorem Zp0{r:List Cl}(h:zfo Zng r):∃n q dl bu si s sp ln ac br ra sg,r=stA n q dl bu si s sp ln ac br ra sg:=by
 simp only[zfo,znD]at h;obtain⟨_,_,rfl,⟨n1,rfl,_⟩,_,_,rfl,⟨n2,rfl,_⟩,_,_,rfl,⟨n3,rfl,_⟩,_,_,rfl,⟨n4,rfl,_⟩,_,_,rfl,⟨n5,rfl,_⟩,_,_,rfl,⟨n6,rfl,_⟩,_,_,rfl,⟨n7,rfl,_⟩,_,_,rfl,⟨n8,rfl,_⟩,_,_,rfl,⟨n9,rfl,_⟩,_,_,rfl,⟨n10,rfl,_⟩,_,_,rfl,⟨n11,rfl,_⟩,_,_,rfl,⟨b,rfl⟩,rfl⟩:=h;exact⟨n1,n2,n3,n4,n5,n6,n7,n8,n9,n10,n11,b,rfl⟩
theorem ZpE:∀xs,zot [Zng,.slice Zqs] xs->∃M',R L Cs ZoE xs []=some (.w (.c (.bool true)),M'):=by
 intro xs h;simp only[zot]at h;obtain⟨c1,y1,rfl,h1,c2,y2,rfl,h2,rfl⟩:=h;obtain⟨n,q,dl,bu,si,s,sp,ln,ac,br,ra,sg,rfl⟩:=Zp0 h1;unfold zfo at h2;obtain⟨rows,rfl,_,vn⟩:=h2;obtain⟨l,rfl⟩:=Zqj vn;obtain⟨m,zs,ss,k,hM,hk,hS⟩:=ZnS n q dl bu si s sp ln ac br ra sg;exact⟨[],ZpC (hM.law hk bu si dl s sp ln ac br ra sg) rfl n q dl bu si s sp ln ac br ra sg l hS Zoj⟩
set_option maxRecDepth 10000
open Go Go.Eng
theorem zq2(a:Int):R L [] zlc [W a] []=some (.w (Bo false),[]):=by
 rw[zUa zle rfl];simp[zfU]
theorem zn3(a:Int):R L [] zi5 [W a] []=some (.w (Bo false),[]):=by
 rw[zUa zi9 rfl];simp[ze6]
theorem zuB(a b:Int):R L [] zi6 [W a,W b] []=some (.w (W (zgQ a b)),[]):=by
 have h1:=zq2 a;have h2:=zq2 b;rw[zUa zja rfl];unfold zgQ;by_cases h:a<b
 ·simp[zb3,h1,h2,h]
 ·by_cases h':b<a
  ·simp[zb3,h1,h2,h,h']
  ·simp[zb3,h1,h2,h,h']
theorem zmv(a b:Int):R L [] zhQ [W a,W b] []=some (.w (W (zgQ a b)),[]):=by
 have h1:=zn3 a;have h2:=zn3 b;rw[zUa zhS rfl];unfold zgQ;by_cases h:a<b
 ·simp[zbq,h1,h2,h]
 ·by_cases h':b<a
  ·simp[zbq,h1,h2,h,h']
  ·simp[zbq,h1,h2,h,h']
theorem zxz(b:Bool):R L [] zhB [Bo b] []=some (.w (W (if b then 1 else 0)),[]):=by
 rw[zUa zp4 rfl];cases b<;>simp[zhF]
def orI(a b c d:Int):Int:=if a=0 then(if b=0 then(if c=0 then d else c) else b) else a
abbrev orE(a b c d:Int)(i:Int):Env:=[(7,.w (W 4)),(6,.w (.c (.jb [[I a],[I b],[I c],[I d]]))),(3,.w (W 0)),(8,.w (W i))]
theorem or0(a b c d:Int):R L [] zob [.c (.jb [[I a],[I b],[I c],[I d]])] []=some (.w (W (orI a b c d)),[]):=by
 have w1:IntKind.i64.wrap 1=1:=rfl;have w2:IntKind.i64.wrap 2=2:=rfl;have w3:IntKind.i64.wrap 3=3:=rfl;have w4:IntKind.i64.wrap 4=4:=rfl;have h4:Y L [] zab (some [7,6,3,8]) 0 (orE a b c d 4) []=some (.exit 0,[(9,.w (Bo false)),(3,.w (W 0)),(6,.w (.c (.jb [[I a],[I b],[I c],[I d]]))),(7,.w (W 4)),(8,.w (W 4))],[]):=by
  rw[ZfM zab.eq_1];simp
 have h3:Y L [] zab (some [7,6,3,8]) 0 (orE a b c d 3) []=if d=0 then Y L [] zab (some [7,6,3,8]) 0 (orE a b c d 4) [] else some (.ret,[(2,.w (W d))],[]):=by
  rw[ZfM zab.eq_1];by_cases h:d=0
  ·simp[h,w4]
  ·have h':(d !=0)=true:=by simp[h]
   simp[h,h']
 have h2:Y L [] zab (some [7,6,3,8]) 0 (orE a b c d 2) []=if c=0 then Y L [] zab (some [7,6,3,8]) 0 (orE a b c d 3) [] else some (.ret,[(2,.w (W c))],[]):=by
  rw[ZfM zab.eq_1];by_cases h:c=0
  ·simp[h,w3]
  ·have h':(c !=0)=true:=by simp[h]
   simp[h,h']
 have h1:Y L [] zab (some [7,6,3,8]) 0 (orE a b c d 1) []=if b=0 then Y L [] zab (some [7,6,3,8]) 0 (orE a b c d 2) [] else some (.ret,[(2,.w (W b))],[]):=by
  rw[ZfM zab.eq_1];by_cases h:b=0
  ·simp[h,w2]
  ·have h':(b !=0)=true:=by simp[h]
   simp[h,h']
 have h0:Y L [] zab (some [7,6,3,8]) 0 (orE a b c d 0) []=if a=0 then Y L [] zab (some [7,6,3,8]) 0 (orE a b c d 1) [] else some (.ret,[(2,.w (W a))],[]):=by
  rw[ZfM zab.eq_1];by_cases h:a=0
  ·simp[h,w1]
  ·have h':(a !=0)=true:=by simp[h]
   simp[h,h']
 rw[h4]at h3;rw[h3]at h2;rw[h2]at h1;rw[h1]at h0;rw[zUa zow rfl];unfold orI;by_cases c1:a=0<;>by_cases c2:b=0<;>by_cases c3:c=0<;>by_cases c4:d=0<;>simp only[c1,c2,c3,c4,if_true,if_false]at h0 ⊢<;>simp[zfw,h0]
def zoG(b:Bool):Int:=if b then 1 else 0
def zu6(a b:Swp):Int:=orI (zgQ a.lane b.lane) (zgQ a.lo b.lo) (zgQ a.hi b.hi) (zoG a.cap-zoG b.cap)
theorem less0(a b:Swp):R L [] zar [.a (swC a),.a (swC b)] []=some (.w (W (zu6 a b)),[]):=by
 have h1:=zuB a.lane b.lane;have h2:=zmv a.lo b.lo;have h3:=zmv a.hi b.hi;have h4:R L [] zhB [Bo a.cap] []=some (.w (W (zoG a.cap)),[]):=zxz a.cap;have h5:R L [] zhB [Bo b.cap] []=some (.w (W (zoG b.cap)),[]):=zxz b.cap;have h6:=or0 (zgQ a.lane b.lane) (zgQ a.lo b.lo) (zgQ a.hi b.hi) (zoG a.cap-zoG b.cap);have w:IntKind.i64.wrap (zoG a.cap-zoG b.cap)=zoG a.cap-zoG b.cap:=by
  cases a.cap<;>cases b.cap<;>rfl
 unfold zu6;generalize zgQ a.lane b.lane=x1 at *;generalize zgQ a.lo b.lo=x2 at *;generalize zgQ a.hi b.hi=x3 at *;generalize zoG a.cap=o1 at *;generalize zoG b.cap=o2 at *;rw[zUa zsv rfl];simp[zjq,swC,h1,h2,h3,h4,h5,h6,w,zg,zX]
theorem zz5(a b:Swp):(zu6 a b<0)<->ltS a b=true:=by
 rw[zz2];unfold zu6 orI zgQ zoG;by_cases h1:a.lane<b.lane
 ·simp[h1]
 ·by_cases h2:b.lane<a.lane
  ·have:¬a.lane=b.lane:=by omega
   simp[h1,h2,this]
  ·have e1:a.lane=b.lane:=by omega
   by_cases h3:a.lo<b.lo
   ·simp[e1,h3]
   ·by_cases h4:b.lo<a.lo
    ·have:¬a.lo=b.lo:=by omega
     simp[e1,h3,h4,this]
    ·have e2:a.lo=b.lo:=by omega
     by_cases h5:a.hi<b.hi
     ·simp[e1,e2,h5]
     ·by_cases h6:b.hi<a.hi
      ·have:¬a.hi=b.hi:=by omega
       simp[e1,e2,h5,h6,this]
      ·have e3:a.hi=b.hi:=by omega
       cases a.cap<;>cases b.cap<;>simp[e1,e2,e3]
end Go.TrRun
namespace Go.Eng
open Go
theorem zsf [zb0](hasc:zb0.asc){P:Program}{cf:za4}(hcf:FnS P cf){f:FuncId}(hf:f<zb0.base){args:List WV}{vs:Array Value}{w:World}{σ:zP}{j:Inj}{M':Mem}{c:Int}(h:cf f args []=some (.w (.c (.int .i64 c)),M'))
  (hag:zM σ w) (hvs:zac σ j args vs.toList) (hm:MR (fun b=>w.heap.size<=b) σ j [] w) :
  Calls P f vs w fun e w'=>e=.returned (.int .i64 c)/\∃q os',w'=Go.Sort.grow (w.drewN q) os':=by
 obtain⟨_,_,_,_,hc⟩:=(hcf f args [] _ _ h (fun id hid=>by simp at hid)).1 hf;refine Calls.yi (hc (fun b=>w.heap.size<=b) σ j w vs (fun _ h=>h) hag hm hvs) ?_;rintro e w' ⟨v,σ',j',rfl,hr,_,_,hst⟩;have hr:VC σ' j' (.int .i64 c) v:=hr;cases hr;refine⟨rfl,w'.drawn-w.drawn,w'.heap.extract w.heap.size w'.heap.size,?_⟩;have h1:=hst.side.os;have h2:=hst.side.output;have h3:=hst.side.tape;have h4:=hst.side.drawn hasc;have h5:=hst.frame;have h6:=hst.size;cases w' with |mk heap tape drawn os output =>
 simp only at h1 h2 h3 h4 h5 h6;subst h1;subst h2;subst h3;unfold Go.Sort.grow World.drewN;simp only[World.mk.injEq,and_true,true_and];refine⟨?_,by omega⟩;apply Array.ext_getElem?;intro i;by_cases hi:i<w.heap.size
 ·rw[k7 hi];exact h5 i hi (by omega)
 ·rw[yL (by omega),qr];by_cases hi2:i<heap.size
  ·rw[if_pos (by omega)]
   congr 1;omega
  ·rw[if_neg (by omega)];exact qs (by omega)
end Go.Eng
namespace Go.TrRun
open Go Go.Eng
theorem zxp(σ:zP)(j:Inj)(x:List Int):WVR σ j (.a (swC (zik x))) (.agg (ziq 4 7 x).toArray):=by
 refine⟨_,rfl,?_⟩;have e:(ziq 4 7 x).toArray.toList=[.int .i64 (x.getD 0 0),.int .i64 (x.getD 1 0),.int .i64 (x.getD 2 0),.bool (x.getD 3 0 !=0)]:=rfl;rw[e];refine⟨rfl,fun n c v hc hv=>?_⟩
 match n with
 |0=>cases hc;cases hv;exact .int _ _ _
 |1=>cases hc;cases hv;exact .int _ _ _
 |2=>cases hc;cases hv;exact .int _ _ _
 |3=>cases hc;cases hv;exact .bool _ _
 |n+4=>cases hc
def zAw(x y:List Int):Int:=zu6 (zik x) (zik y)
theorem zBC:(fun x y=>decide (zAw x y<0))=ltZ 4 7:=by
 funext x y;have h:=zz5 (zik x) (zik y);have e:ltS (zik x) (zik y)=ltZ 4 7 x y:=by
  have k1:∀z:List Int,zji (zik z)=zsY 4 7 z:=fun z=>by
   simp[zji,zik,zsY,List.range,List.range.loop,zgk]
  simp only[ltS,ltZ,k1,if_true]
 rw[e]at h;unfold zAw;cases hz:ltZ 4 7 x y with
 |true=>exact decide_eq_true (h.2 hz)
 |false =>
  refine decide_eq_false fun h'=>?_
  rw[h.1 h']at hz;cases hz
theorem zwK{P:Program}(vh:P.follows .mixedOrders=true)(hL:(L.map fun p=>zcF P an true p.1)=L.map fun p=>some p.2)(hV:zql P L=true)(hf:zar<P.funcs.size)(x y:List Int)(W:World) :
  Calls P zar #[.agg (ziq 4 7 x).toArray,.agg (ziq 4 7 y).toArray] W fun e w'=>e=.returned (.int .i64 (zAw x y))/\∃q os',w'=Go.Sort.grow (W.drewN q) os':=by
 letI:=zww P (fun f=>L.lookup f) (Zpp []);obtain⟨n,hn⟩:=zah.1 (less0 (zik x) (zik y));exact zsf (fun c hc=>by cases hc) (zsT vh hL hV (Cs:=[]) rfl (fun c hc=>by cases hc) n) (f:=zar) hf hn (zml (W:=W) fun g row hr=>by cases hr) (.cons (zxp _ _ x) (.cons (zxp _ _ y) .nil)) MR.nil
end Go.TrRun
