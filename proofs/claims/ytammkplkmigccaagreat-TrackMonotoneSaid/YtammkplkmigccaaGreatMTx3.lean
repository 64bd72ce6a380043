/- This text proves what functions of this seat's program answer, run by the evaluator; no condition. -/
import Derived.Test.YtammkplkmigccaaGreatMTx2
import Derived.WalkSmall
set_option maxHeartbeats 8000000
set_option linter.unusedVariables false
set_option linter.unusedSimpArgs false
set_option linter.unusedSectionVars false
set_option maxRecDepth 10000
namespace Go.TrRun
open Go Go.Eng
abbrev zW7(t:Int)(S:Cl)(e:Ego):List Cl:=[I t,S,I e.slo,I e.shi,I e.vlo,I e.vhi]
theorem z0k(k:zci)(hl:k.jG.length<=100000000000)(hb:k.jG≠[]):R L Cs zln [.a (zG k)] []=some (.w (.a (zW7 k.tick (sl 0 6 (zI k.jG)) k.ego)),[some (own 6 (zI k.jG))]):=by
 have hr:k.jG.length*48<=140737488355328:=by omega
 rw[zUa zlD rfl];obtain⟨t,bl,e⟩:=k;cases bl with
 |nil=>exact absurd rfl hb
 |cons b l =>
  simp only[jo]at hr;simp[zdH,zG,hr]
theorem z0l(k:zci)(hb:k.jG=[]):R L Cs zln [.a (zG k)] []=some (.w (.a (zW7 k.tick .jd k.ego)),[]):=by
 rw[zUa zlD rfl];simp[zdH,zG,hb]
abbrev wiE(grow:List Int)(i:Nat):Env:=[(8,.w (W i)),(6,.w (Pt 2)),(2,.w (.c (.je (zu grow)))),(7,.w (Pt 3)),(3,.w (Pt 0))]
abbrev wiM(m:zD)(k:zci)(n v:Nat)(rows:List (List Cl)):Mem:=[bx 5 (zf m),bx 6 (zG k),bx 6 [I 0,.jd,I 0,I 0,I 0,I 0],bxv 1 6 (zW7 k.tick (.slice 4 n 6 0 n none) k.ego),some { box:=false,esz:=6,rows:=rows,gen:=n,fz:=false,ver:=v }]
theorem z1d{m:zD}(h:zcp m)(hne:0<m.jb.length)(k:zci)(grow:List Int)(hg:grow.length<=1000)(n i:Nat)(hi:i<n)(hn:n<=1000)(b:zk)(hb:VB m b)(P Q:List (List Cl))(hP:P.length=i)(hQ:P.length+1+Q.length=n)(v:Nat) :
  ∃v',Y L Cs zWm (some [8,6,2,7,3]) 5 (wiE grow i) (wiM m k n v (P++ze b::Q))=Y L Cs zWm (some [8,6,2,7,3]) 5 (wiE grow (i+1)) (wiM m k n v' (P++ze (zY2 m b (gW grow i))::Q)):=by
 have hw:=zB (i:=i) (by omega);have hg0:=z0S grow i;have hG:(grow.length=0/\gW grow i=0)\/(0<grow.length/\∃(h:i % grow.length<grow.length),gW grow i=grow[i % grow.length] % 1073741824):=by
  by_cases c:grow.length=0
  ·exact .inl ⟨c,by unfold gW;rw[if_pos c]⟩
  ·have h:=qj i (show 0<grow.length by omega);refine .inr ⟨by omega,h,?_⟩;unfold gW;rw[if_neg c,jh,ji h];rfl
 have hx1:∀row,(P++row::Q)[i]?=some row:=fun row=>by rw[<-hP];simp
 have hx2:∀row vW,(P++row::Q).set i vW=P++vW::Q:=fun row vW=>by rw[<-hP,k5 _ _ (jg _)];simp
 have hx3:∀row,(P++row::Q).length=n:=fun row=>by simp;omega
 have hx4:P.length+(Q.length+1)=n:=by omega
 have hx5:∀row (hh:i<(P++row::Q).length),(P++row::Q)[i]=row:=fun row hh=>by have:=hx1 row;rw[ji hh]at this;exact yf this
 have q1:∀x:Int,(gW grow i).tmod x=gW grow i % x:=fun x=>jU hg0.1
 have q2:∀x:Int,(gW grow i).tdiv x=gW grow i / x:=fun x=>j7 hg0.1
 have q3:(gW grow i / 3).tmod 2000=gW grow i / 3 % 2000:=jU (by omega);have q4:(gW grow i / 7).tmod 100=gW grow i / 7 % 100:=jU (by omega);have q5:Int.tmod (i:Int) (grow.length:Int)=((i % grow.length:Nat):Int):=rfl;have AY:∀n:Int,R L Cs zEd [W n,W 1073741824] []=some (.w (W (n % 1073741824)),[]):=fun n=>zD0 n 1073741824 (by omega) (by omega)
 have gL:=zEV h hb.lane;have hL:=zcX h hb.lane;obtain⟨⟨l1,l2⟩,b1,b2,b3,b4,b5,b6,b7,b8⟩:=hb;obtain⟨j,hj⟩:=jz l1;rw[hj]at l2 gL hL b3 b6 b8;have hjl:j<m.jb.length:=by omega
 have eK:zaK m (j:Int)=m.jb[j].kind:=by simp[zaK,hjl]
 have gB:=zhv (h.kind _ (jk hjl));have hT:=zZF m.jb[j].kind;rw[eK]at b6;unfold zY2;rw[hj,eK];generalize gW grow i=g at *;generalize z8 m (j:Int)=len at *;generalize hV:zeR m.jb[j].kind=tv at *;obtain⟨bl,lo,bhi,vlo,vhi,hold⟩:=b;simp only at hj b1 b2 b3 b4 b5 b6 b7 b8;subst hj;have w1:=ko (lo-g % 2000);have w2:=ko (bhi+g / 3 % 2000);have w3:=ko (vlo-g % 100);have w4:=ko (vhi+g / 7 % 100);have w5:=ko (g / 3);have w6:=ko (g / 7);have w7:=ko (g % 2000);have w8:=ko (g % 100);have w9:=ko (g / 3 % 2000);have wa:=ko (g / 7 % 100);have wb:=ko (g % 3);simp only[zf]at gL;rcases hG with⟨hl0,hge⟩ |⟨hl0,hlt,hge⟩
 ·subst hge;refine⟨v+5,?_⟩;have x0:IntKind.i64.wrap 0=0:=rfl;have y1:=ko lo;have y2:=ko bhi;have y3:=ko vlo;have y4:=ko vhi;rw[zj zWm.eq_1];simp (maxSteps:=1000000) [x0,y1,y2,y3,y4,Int.zero_tmod,wiE,wiM,zf,zo,ze,zW7,hi,hw,zg,hl0,gL,gB,hjl,hV,hx1,hx2,hx3,hx4,hx5,w1,w2,w3,w4,w5,w6,w7,w8,w9,wa,wb]
 ·have hl1:¬grow.length=0:=by omega
  have hl1':(0:Int)<grow.length:=by omega
  have hge':=hge.symm;have hq6:0<=(i:Int) % (grow.length:Int):=qs _ (by omega);have hq7:(i:Int) % (grow.length:Int)<grow.length:=k8 _ (by omega);have hq8:((i:Int) % (grow.length:Int)).toNat=i % grow.length:=by rw[<-Int.natCast_emod];exact Int.toNat_natCast _
  by_cases c:g % 3=0
  ·refine⟨v+5,?_⟩;rw[zj zWm.eq_1];simp (maxSteps:=1000000) [wiE,wiM,zf,zo,ze,zW7,hi,hw,zg,hl0,hl1,hl1',hge',AY,q1,q2,q3,q4,q5,hq6,hq7,hq8,hlt,gL,gB,hjl,hV,hx1,hx2,hx3,hx4,hx5,w1,w2,w3,w4,w5,w6,w7,w8,w9,wa,wb,c]
  ·have cb:(g % 3==0)=false:=by simp[c]
   refine⟨v+4,?_⟩;rw[zj zWm.eq_1];simp (maxSteps:=1000000) [wiE,wiM,zf,zo,ze,zW7,hi,hw,zg,hl0,hl1,hl1',hge',AY,q1,q2,q3,q4,q5,hq6,hq7,hq8,hlt,gL,gB,hjl,hV,hx1,hx2,hx3,hx4,hx5,w1,w2,w3,w4,w5,w6,w7,w8,w9,wa,wb,c,cb]
theorem z0d{m:zD}(h:zcp m)(hne:0<m.jb.length)(k:zci)(grow:List Int)(hg:grow.length<=1000)(n:Nat)(hn:n<=1000):∀(r pre:List zk) (v:Nat),(∀b∈r,VB m b)->pre.length+r.length=n ->
  ∃v',Y L Cs zWm (some [8,6,2,7,3]) 5 (wiE grow pre.length) (wiM m k n v (zI (pre++r)))=some (.exit 0,(23,.w (Bo false))::wiE grow n,wiM m k n v' (zI (pre++zYg m grow pre.length r))):=by
 intro r;induction r with
 |nil =>
  intro pre v hr hl;simp only[jB,qe]at hl;refine⟨v,?_⟩;rw[zj zWm.eq_1];simp[wiE,wiM,zW7,zYg,hl]
 |cons b r ih =>
  intro pre v hr hl;simp only[jo]at hl;obtain⟨v1,h1⟩:=z1d h hne k grow hg n pre.length (by omega) hn b (hr b (jl ..)) (zI pre) (zI r) (by simp) (by simp;omega) v;obtain⟨v2,h2⟩:=ih (pre++[zY2 m b (gW grow pre.length)]) v1 (fun x hx=>hr x (jm _ hx)) (by simp;omega);refine⟨v2,?_⟩;have e1:zI (pre++b::r)=zI pre++ze b::zI r:=by simp[zI]
  have e2:zI (pre++[zY2 m b (gW grow pre.length)]++r)=zI pre++ze (zY2 m b (gW grow pre.length))::zI r:=by simp[zI]
  have e3:(pre++[zY2 m b (gW grow pre.length)]).length=pre.length+1:=by simp
  rw[e2,e3]at h2;rw[e1,h1,h2,zYg];simp
theorem z0C(m:zD)(grow:List Int)(l:List zk):(zYO m grow l).length<=l.length+1:=by
 unfold zYO;split<;>simp[zYu]
theorem z2l(m:zD)(k:zci)(grow:List Int)(h:k.jG.length<=8):(zWZ m k grow).jG.length<=12:=by
 have:=zkq (zYO m grow k.jG);have:=z0C m grow k.jG;show(zcz _).length<=12;omega
theorem z1o{m:zD}(h:zcp m)(hne:0<m.jb.length)(k:zci)(hv:∀b∈k.jG,VB m b)(hl:k.jG.length<=100)(he:znd k.ego)(hs:k.ego.shi<=9000000)(grow:List Int)(hg:grow.length<=1000)(hgi:∀x∈grow,zk0 x) :
  R L Cs zXW [.a (zf m),.a (zG k),.c (.je (zu grow))] []=some (.w (.a (zG (zWZ m k grow))),[]):=by
 have hes:=he.s;have hev:=he.v;have hml:=z0C m grow k.jG;have hJ:=zy7 (zYO m grow k.jG) (by omega) (fun x hx=>zFo h ((z0b h hne grow k.jG hv).1 x hx));have kc:(k.jG.length+1)*48<=140737488355328:=by omega
 unfold zWZ;have hsm:=h.small.jb;by_cases c:1<grow.length
 ·obtain⟨x0,x1,t,rfl⟩:∃x0 x1 t,grow=x0::x1::t:=by
   match grow,c with
   |x0::x1::t,_=>exact⟨x0,x1,t,rfl⟩
  have c':(1:Int)<((x0::x1::t).length:Int):=by omega
  have d0:(0:Int)<(t.length:Int)+1+1:=by omega
  have d1:(1:Int)<(t.length:Int)+1+1:=by omega
  have hx1:=hgi x1 (by simp);have hmm:-64<x1.tmod 64/\x1.tmod 64<64:=by
   rcases Int.le_total 0 x1 with h|h
   ·rw[jU h];omega
   ·obtain⟨y,rfl⟩:∃y,x1=-y:=⟨-x1,by omega⟩;rw[Int.neg_tmod,jU (by omega)];omega
  have wm:=ko (x1.tmod 64);have g1:=zEW (x1.tmod 64) m.jb.length (by omega) (by omega);have g2:=zDJ (x1.tmod 64) m.jb.length (by omega);have hM:zYO m (x0::x1::t) k.jG=zYg m (x0::x1::t) 0 k.jG++[⟨(x1.tmod 64) % m.jb.length,0,x0 % 1000,0,zeR (zaK m ((x1.tmod 64) % m.jb.length)),0⟩]:=by unfold zYO;rw[if_pos c];rfl
  have hE:zYI k.ego (x0::x1::t)=⟨max 0 (k.ego.slo-x0 % 300),k.ego.shi+x1 % 300,max 0 (k.ego.vlo-x0 % 9),min 2000 (k.ego.vhi+x1 % 9)⟩:=by unfold zYI;rw[if_pos c];rfl
  rw[hM]at hJ;rw[hM,hE];generalize (x1.tmod 64) % (m.jb.length:Int)=ln at *;obtain⟨j,rfl⟩:=jz g2.1;have hj:j<m.jb.length:=by omega
  have eK:zaK m (j:Int)=m.jb[j].kind:=by simp[zaK,hj]
  have g3:=zhv (h.kind _ (jk hj));rw[eK]at hJ;rw[eK];have f1:=zD0 x0 1000 (by omega) (by omega);have f2:=zD0 x0 300 (by omega) (by omega);have f3:=zD0 x1 300 (by omega) (by omega);have f4:=zD0 x0 9 (by omega) (by omega);have f5:=zD0 x1 9 (by omega) (by omega);have w1:=ko (k.ego.slo-x0 % 300);have w2:=ko (k.ego.shi+x1 % 300);have w3:=ko (k.ego.vlo-x0 % 9);have w4:=ko (k.ego.vhi+x1 % 9);by_cases hb:k.jG=[]
  ·have hC:=z0l k hb;rw[hb]at hJ;rw[hb];simp only[zYg,jC]at hJ ⊢;simp only[zCy,zic,ze,zf,zG,hb]at hJ hC g2;have hY:∀E,Y L Cs zWm (some [8,6,2,7,3]) 4 [(8,.w (W (0:Nat))),(6,.w (Pt 2)),(2,.w (.c (.je (zu (x0::x1::t))))),(7,.w (Pt 3)),(3,.w (Pt 0))] [bx 5 (zf m),E,bx 6 [I 0,.jd,I 0,I 0,I 0,I 0],bxv 1 6 (zW7 k.tick .jd k.ego)]=some (.exit 0,[(23,.w (Bo false)),(8,.w (W (0:Nat))),(6,.w (Pt 2)),(2,.w (.c (.je (zu (x0::x1::t))))),(7,.w (Pt 3)),(3,.w (Pt 0))],[bx 5 (zf m),E,bx 6 [I 0,.jd,I 0,I 0,I 0,I 0],bxv 1 6 (zW7 k.tick .jd k.ego)]):=by
    intro E;rw[zj zWm.eq_1];simp[zW7]
   simp only[zf,zW7,jq,zaP]at hY;rw[zUa zWK rfl];simp (maxSteps:=1000000) [zWB,zf,zo,ze,zG,zW7,hb,hC,hY,g1,g3,f1,f2,f3,f4,f5,w1,w2,w3,w4,wm,hj,hJ,d0,d1,zg,zH,zX]
  ·have hC:=z0k k (by omega) hb;obtain⟨v',hL⟩:=z0d h hne k (x0::x1::t) hg k.jG.length (by omega) k.jG [] k.jG.length hv (by simp);simp only[jC,jB,wiE,wiM,jq]at hL;have hwl:=zYu m (x0::x1::t) k.jG 0;generalize zYg m (x0::x1::t) 0 k.jG=wl at *;have ht:List.take k.jG.length wl=wl:=jW (by omega);have ht2:∀x,List.take (k.jG.length+1) (zI wl++[x])=zI wl++[x]:=fun x=>jW (by simp;omega)
   simp only[znQ,zCy,zic,zaP,ze,zf,zG,zW7,sl,own,zgg]at hJ hC hL;rw[zUa zWK rfl];simp (maxSteps:=1000000) [zWB,zf,zo,ze,zG,zW7,hC,hL,g1,g3,f1,f2,f3,f4,f5,w1,w2,w3,w4,wm,hj,hJ,d0,d1,zg,zH,zX,hwl,kc,ht,ht2]
 ·have c':¬(1:Int)<(grow.length:Int):=by omega
  have hM:zYO m grow k.jG=zYg m grow 0 k.jG:=by unfold zYO;rw[if_neg c]
  have hE:zYI k.ego grow=k.ego:=by unfold zYI;rw[if_neg c]
  rw[hM]at hJ;rw[hM,hE];by_cases hb:k.jG=[]
  ·have hC:=z0l k hb;rw[hb]at hJ;rw[hb];simp only[zYg]at hJ ⊢;have hY:∀E,Y L Cs zWm (some [8,6,2,7,3]) 4 [(8,.w (W (0:Nat))),(6,.w (Pt 2)),(2,.w (.c (.je (zu grow)))),(7,.w (Pt 3)),(3,.w (Pt 0))] [bx 5 (zf m),E,bx 6 [I 0,.jd,I 0,I 0,I 0,I 0],bxv 1 6 (zW7 k.tick .jd k.ego)]=some (.exit 0,[(23,.w (Bo false)),(8,.w (W (0:Nat))),(6,.w (Pt 2)),(2,.w (.c (.je (zu grow)))),(7,.w (Pt 3)),(3,.w (Pt 0))],[bx 5 (zf m),E,bx 6 [I 0,.jd,I 0,I 0,I 0,I 0],bxv 1 6 (zW7 k.tick .jd k.ego)]):=by
    intro E;rw[zj zWm.eq_1];simp[zW7]
   simp only[zf,zW7,jq]at hY;simp only[zic,zf,zG,hb]at hJ hC;rw[zUa zWK rfl];simp (maxSteps:=1000000) [zWB,zf,zG,zW7,hb,hC,hY,hJ,c,c',zg,zH,zX]
  ·have hC:=z0k k (by omega) hb;obtain⟨v',hL⟩:=z0d h hne k grow hg k.jG.length (by omega) k.jG [] k.jG.length hv (by simp);simp only[jC,jB,wiE,wiM,jq]at hL;have hwl:=zYu m grow k.jG 0;generalize zYg m grow 0 k.jG=wl at *;simp only[zf,zG,zW7,sl,own,zgg]at hJ hC hL;have ht:List.take k.jG.length (zI wl)=zI wl:=jW (by simp;omega);rw[zUa zWK rfl];simp (maxSteps:=1000000) [zWB,zf,zG,zW7,hC,hL,hJ,c,c',zg,zH,zX,hwl,ht]
def z2f(s t:Swp):Bool:=decide (s.lane=t.lane)&&(decide (t.lo<=s.lo)&&(decide (s.hi<=t.hi)&&(!t.cap||s.cap)))
theorem z2p(s t:Swp):z2f s t=true<->InS s t:=by
 unfold z2f;simp only[jf,decide_eq_true_eq,kW,kL];constructor
 ·rintro⟨h1,h2,h3,h4⟩;exact⟨h1,h2,h3,fun h=>by rcases h4 with h4 |h4<;>simp_all⟩
 ·intro h;refine⟨h.lane,h.lo,h.hi,?_⟩;cases hc:t.cap
  ·exact .inl rfl
  ·exact .inr (h.cap hc)
abbrev tnM(m:zD)(a0 a1 a2:Int)(v w:Nat)(a b:zci):Mem:=[bx 3 [I a0,I a1,I a2],bxv 1 5 (zf m),bxv v 6 (zG a),bxv w 6 (zG b)]
abbrev tnN(m:zD)(a0 a1 a2:Int)(v w:Nat)(a b x y:zci):Mem:=tnM m a0 a1 a2 v w a b++[bxv 1 6 (zG x),bxv 1 6 (zG y)]
abbrev z2q(r:List Int)(len:Int)(kJ:List Int)(signals:Bool)(i:Nat):Env:=[(20,.w (W i)),(16,.w (.c (.je (zu r)))),(19,.w (W len)),(5,.w (.c (.je (zu kJ)))),(6,.w (Bo signals)),(15,.w (Pt 1)),(17,.w (Pt 2)),(18,.w (Pt 3))]
abbrev z2c(r:List Int)(len:Int)(kJ:List Int)(signals:Bool)(i:Nat)(p q:List Swp)(j:Nat):Env:=[(18,.w (Pt 3)),(17,.w (Pt 2)),(15,.w (Pt 1)),(6,.w (Bo signals)),(5,.w (.c (.je (zu kJ)))),(19,.w (W len)),(16,.w (.c (.je (zu r)))),(20,.w (W i)),(24,.w (Pt 5)),(21,.w (Pt 4)),(25,.w (.c (.je (zbf q)))),(22,.w (.c (.je (zbf p)))),(27,.w (W j))]
theorem z2o(m:zD)(a0 a1 a2:Int)(v w:Nat)(a b x y:zci)(r:List Int)(len:Int)(kJ:List Int)(signals:Bool)(i:Nat)(p q:List Swp)(hq:q.length<=100000000000)(j:Nat)(hj:j<p.length):∀(t:List Swp) (k:Nat) (acc:Bool),q.drop k=t->k<=q.length ->
  Y L Cs z19 (some [28,29,18,17,15,6,5,19,16,20,24,21,25,22,27]) 6 ((28,.w (Bo acc))::(29,.w (W k))::z2c r len kJ signals i p q j) (tnN m a0 a1 a2 v w a b x y) =
    some (.exit 4,(136,.w (Bo false))::(28,.w (Bo (acc||t.any (z2f p[j]))))::(29,.w (W q.length))::z2c r len kJ signals i p q j,tnN m a0 a1 a2 v w a b x y):=by
 intro t;induction t with
 |nil =>
  intro k acc hd hi;obtain rfl:=zUb hd hi;rw[zj z19.eq_1];simp
 |cons z t ih =>
  intro k acc hd hi;obtain⟨hil,hz,hd'⟩:=zL hd;have hw:=zB (i:=k) (by omega);have e:(acc||(z::t).any (z2f p[j]))=((acc||z2f p[j] z)||t.any (z2f p[j])):=by simp[Bool.or_assoc]
  rw[e,<-ih (k+1) (acc||z2f p[j] z) hd' hil];clear ih e;subst hz;rw[zj z19.eq_1];cases acc with
  |true=>simp[z2c,tnN,tnM,hil,hw,hj]
  |false =>
   unfold z2f;generalize hp:p[j]=s;generalize hq':q[k]=u;obtain⟨s1,s2,s3,s4⟩:=s;obtain⟨u1,u2,u3,u4⟩:=u;by_cases c1:s1=u1
   ·by_cases c2:u2<=s2
    ·by_cases c3:s3<=u3
     ·cases u4<;>cases s4<;>simp[z2c,tnN,tnM,hil,hw,hj,hp,hq',swC,c1,c2,c3]
     ·simp[z2c,tnN,tnM,hil,hw,hj,hp,hq',swC,c1,c2,c3]
    ·simp[z2c,tnN,tnM,hil,hw,hj,hp,hq',swC,c1,c2]
   ·have c1':(s1==u1)=false:=by simp[c1]
    simp[z2c,tnN,tnM,hil,hw,hj,hp,hq',swC,c1,c1']
theorem z2n(m:zD)(a0 a1 a2:Int)(v w:Nat)(a b x y:zci)(r:List Int)(len:Int)(kJ:List Int)(signals:Bool)(i:Nat)(p q:List Swp)(hp:p.length<=100000000000)(hq:q.length<=100000000000)(hS:zVA p q):∀(t:List Swp) (j:Nat),p.drop j=t->j<=p.length ->
  Y L Cs zl (some [18,17,15,6,5,19,16,20,24,21,25,22,27]) 6 (z2c r len kJ signals i p q j) (tnN m a0 a1 a2 v w a b x y) =
    some (.exit 2,(130,.w (Bo false))::z2c r len kJ signals i p q p.length,tnN m a0 a1 a2 v w a b x y):=by
 intro t;induction t with
 |nil =>
  intro j hd hi;obtain rfl:=zUb hd hi;rw[zj zl.eq_1];simp
 |cons z t ih =>
  intro j hd hi;obtain⟨hil,hz,hd'⟩:=zL hd;have hw:=zB (i:=j) (by omega);have h1:=z2o m a0 a1 a2 v w a b x y r len kJ signals i p q hq j hil q 0 false rfl (jE _);have h2:q.any (z2f p[j])=true:=by
   obtain⟨u,hu,hi⟩:=hS p[j] (jk hil);exact v8.2 ⟨u,hu,(z2p _ _).2 hi⟩
  rw[h2]at h1;rw[<-ih (j+1) hd' hil];clear ih;simp only[z2c,tnN,tnM,jM,jC,jq]at h1;rw[zj zl.eq_1];simp[z2c,tnN,tnM,hil,hw,h1]
theorem z2m{m:zD}{zs:List Zon}{ss:List Sgn}(hf:zmq m zs ss)(r:List Int)(hr:zdA m r=0)(len:Int)(hn:300<=len/\len<=20000)(kJ:List Int)(hin:∀a∈kJ,zk0 a)(hal:kJ.length<=6)(signals:Bool)(a0 a1 a2:Int):∀(t:List Int) (i v w:Nat) (a b:zci),kJ.drop i=t->i<=kJ.length->zdf m a=0->zdf m b=0->InK a b->a.tick<=1000+i->b.ego.shi<=9000000+2000*i ->
  ∃v' w' a' b',Y L Cs z18 (some [20,16,19,5,6,15,17,18]) 4 (z2q r len kJ signals i) (tnM m a0 a1 a2 v w a b) =
   some (.exit 0,(84,.w (Bo false))::z2q r len kJ signals kJ.length,tnM m a0 a1 a2 v' w' a' b'):=by
 intro t;induction t with
 |nil =>
  intro i v w a b hd hi ha hb hI ht hs;obtain rfl:=zUb hd hi;refine⟨v,w,a,b,?_⟩;rw[zj z18.eq_1];simp
 |cons z t ih =>
  intro i v w a b hd hi ha hb hI ht hs;obtain⟨hil,hz,hd'⟩:=zL hd;have hw:=zB (i:=i) (by omega);have hA:=zFp hf.uv hf.yw ha;have hB:=zFp hf.uv hf.yw hb;have hin':=hin kJ[i] (jk hil);obtain⟨hon,hne,hl8⟩:=zg1 hf.uv hr;have hSa:=zvN hf r (by omega) len a hA.len kJ[i] hin' signals;have hSb:=zvN hf r (by omega) len b hB.len kJ[i] hin' signals;obtain⟨x0,r',hr0⟩:∃x r',r=x::r':=by cases r with|nil=>exact absurd rfl hne|cons x r'=>exact⟨x,r',rfl⟩
  have hsp:=fun u=>zge hf.uv r' (hon x0 (by rw[hr0];exact jl ..)) kJ[i] u
  rw[<-hr0]at hsp;have hda:(zaN m r a.ego kJ[i]).shi<=a.ego.shi+2000:=by have:=hsp a.ego.vhi;simp only[zaN];omega
  have hdb:(zaN m r b.ego kJ[i]).shi<=b.ego.shi+2000:=by have:=hsp b.ego.vhi;simp only[zaN];omega
  have e1:=hI.tick;have e2:=hI.ego.shi;have hEa:zm6 m r len a kJ[i]=0:=by unfold zm6;rw[if_pos ha,if_pos hr,if_pos ⟨hn,by omega,by omega⟩]
  have hEb:zm6 m r len b kJ[i]=0:=by unfold zm6;rw[if_pos hb,if_pos hr,if_pos ⟨hn,by omega,by omega⟩]
  have hKa:=zFh hf (zs:=zs) (ss:=ss) hEa signals;have hKb:=zFh hf (zs:=zs) (ss:=ss) hEb signals;obtain⟨hI',hS'⟩:=zVi hf r len hI ha hb kJ[i] signals;have hla:=zNq (zs:=zs) (ss:=ss) hf hr len signals (zPP hf.uv ha) kJ[i];have hlb:=zNq (zs:=zs) (ss:=ss) hf hr len signals (zPP hf.uv hb) kJ[i];unfold zsH at hSa hSb;rw[if_pos hEa]at hSa;rw[if_pos hEb]at hSb;rw[show zpg m zs ss r len a (zaN m r a.ego kJ[i]) signals=zEt m zs ss r len signals a kJ[i] from rfl,show zhp (zlg (zfV m zs ss r len a (zaN m r a.ego kJ[i]) signals))=zKu m zs ss r len signals a kJ[i] from rfl]at hSa;rw[show zpg m zs ss r len b (zaN m r b.ego kJ[i]) signals=zEt m zs ss r len signals b kJ[i] from rfl,show zhp (zlg (zfV m zs ss r len b (zaN m r b.ego kJ[i]) signals))=zKu m zs ss r len signals b kJ[i] from rfl]at hSb;have hta:(zEt m zs ss r len signals a kJ[i]).tick=a.tick+1:=rfl;have hsb:(zEt m zs ss r len signals b kJ[i]).ego=zaN m r b.ego kJ[i]:=rfl;obtain⟨v',w',a',b',ih'⟩:=ih (i+1) (v+1) (w+1) (zEt m zs ss r len signals a kJ[i]) (zEt m zs ss r len signals b kJ[i]) hd' hil hKa hKb hI' (by rw[hta];omega) (by rw[hsb];omega);refine⟨v',w',a',b',?_⟩;rw[<-ih'];clear ih ih';have hXa:=zFp hf.uv hf.yw hKa;have hXb:=zFp hf.uv hf.yw hKb;have hIn:=zYb (zEt m zs ss r len signals a kJ[i]) (zEt m zs ss r len signals b kJ[i]) hXa.len hXb.len;rw[(zX7 _ _).2 hI']at hIn;have hL2:=z2n m a0 a1 a2 v w a b (zEt m zs ss r len signals a kJ[i]) (zEt m zs ss r len signals b kJ[i]) r len kJ signals i _ _ hla hlb hS' _ 0 rfl (jE _);clear hta hsb hda hdb hsp hKa hKb hEa hEb hXa hXb hA hB hI' hS';generalize zEt m zs ss r len signals a kJ[i]=x at *;generalize zEt m zs ss r len signals b kJ[i]=y at *;generalize zKu m zs ss r len signals a kJ[i]=p at *;generalize zKu m zs ss r len signals b kJ[i]=q at *;simp only[zf,zG]at hSa hSb hIn;simp only[z2c,tnN,tnM,zf,zG,jM,jC,jq]at hL2;rw[zj z18.eq_1];simp (maxSteps:=1000000) [z2q,tnM,zf,zG,hil,hw,hSa,hSb,hIn,hL2,zg,zH]
theorem z2j{m:zD}{zs:List Zon}{ss:List Sgn}(hf:zmq m zs ss)(hp:0<m.jb.length)(n rt a0 a1 a2:Int)(l:List Bit)(c1:l.length<=8)(hl:∀x∈l,zk0 x.hold)(grow:List Int)(c2:grow.length<=8)(hg:∀x∈grow,zk0 x)(kJ:List Int)(c3:kJ.length<=6)(hin:∀a∈kJ,zk0 a)(signals:Bool)(hM:R L Cs zY [W n] []=some (.w (.a (zf m)),[])) :
  R L Cs z2a [W n,W rt,.c (.je (zDS l)),.a [I a0,I a1,I a2],.c (.je (zu grow)),.c (.je (zu kJ)),Bo signals] []=some (.w (Bo true),[]):=by
 have hm:=hf.uv;obtain⟨k,hR⟩:=zES hm rt;have hK:=zFz hm hp (zDT m k) (zEm m k) l (by omega) hl a0 a1 a2 a0;have hr:=zE5 hf hp k;have hon:=zEy hm k;have hrl:=zEm m k;obtain⟨v1,v2,v3⟩:=zEM hm hp (zDT m k) hrl hon l a0 a1 a2 a0;have hKl:(zD1 m (zDT m k) l a0 a1 a2 a0).jG.length<=8:=by
  have:=zkq (l.map (zDN m));rw[qk]at this;simp only[zD1];omega
 have hmd:=zD0 a2 5000 (by omega) (by omega);have hmr:=zDJ a2 5000 (by omega);have wl:=ko (300+a2 % 5000);generalize hKK:zD1 m (zDT m k) l a0 a1 a2 a0=K at *;generalize zDT m k=rr at *;obtain⟨x1,x2,x3⟩:=z1a hm hp grow v1 v3;have hW:=z1o hm hp K (zxJ hm v1) (by omega) (zte v1).1 (by omega) grow (by omega) hg;have hWl:(zWZ m K grow).jG.length<=12:=z2l m K grow (by omega);have hO1:=z2e hm rr (by omega) (300+a2 % 5000) K (by omega);have hO2:=z2e hm rr (by omega) (300+a2 % 5000) (zWZ m K grow) (by omega);have hI:=zYb (zO3 m rr (300+a2 % 5000) K) (zO3 m rr (300+a2 % 5000) (zWZ m K grow)) (zO2 hm _ _ _ (by omega)) (zO2 hm _ _ _ (by omega));have hII:zXR (zO3 m rr (300+a2 % 5000) K) (zO3 m rr (300+a2 % 5000) (zWZ m K grow))=true:=by
  have hT:300<=300+a2 % 5000/\300+a2 % 5000<=20000:=by omega
  have e1:∀k,zdf m k=0->zO3 m rr (300+a2 % 5000) k=⟨k.tick,zkr m k.ego (300+a2 % 5000) rr k.jG,k.ego⟩:=fun k hk=>by
   unfold zO3;rw[if_pos ⟨hk,hr,hT⟩];rfl
  rw[e1 _ v1,e1 _ x1];exact(zX7 _ _).2 ⟨x2.tick,x2.ego,zUG m x2.ego _ rr x2.bl fun p hp=>(zxJ hm v1 p hp).le⟩
 rw[hII]at hI;obtain⟨v',w',a',b',g1⟩:=z2m (zs:=zs) (ss:=ss) hf rr hr (300+a2 % 5000) (by omega) kJ hin c3 signals a0 a1 a2 kJ 0 1 1 K (zWZ m K grow) rfl (jE _) v1 x1 x2 (by omega) (by omega);have d1:¬((8:Int)<l.length):=by omega
 have d2:¬((8:Int)<grow.length):=by omega
 have d3:¬((6:Int)<kJ.length):=by omega
 have d1':¬(8<l.length):=by omega
 have d2':¬(8<grow.length):=by omega
 have d3':¬(6<kJ.length):=by omega
 have ha:=zBZ;generalize zO3 m rr (300+a2 % 5000) K=O1 at *;generalize zO3 m rr (300+a2 % 5000) (zWZ m K grow)=O2 at *;generalize zWZ m K grow=WK at *;simp only[z2q,tnM,zf,zG,jq]at hM hR hK hW hO1 hO2 hI g1;rw[zUa z2b rfl];simp (maxSteps:=1000000) [zK,hM,hR,hK,hW,hO1,hO2,hI,hmd,wl,g1,d1,d2,d3,d1',d2',d3',zg,zH,zf,zG,ha]
theorem z2d(n rt a0 a1 a2:Int)(l:List Bit)(hl:∀x∈l,zk0 x.hold)(grow:List Int)(hg:∀x∈grow,zk0 x)(kJ:List Int)(hin:∀a∈kJ,zk0 a)(signals:Bool) :
  R L Cs z2a [W n,W rt,.c (.je (zDS l)),.a [I a0,I a1,I a2],.c (.je (zu grow)),.c (.je (zu kJ)),Bo signals] []=some (.w (Bo true),[]):=by
 obtain⟨m,zs,ss,hf,hp,hM⟩:=zFb n;have ha:=zBZ;by_cases c1:(8:Int)<l.length
 ·have c1':8<l.length:=by omega
  rw[zUa z2b rfl];simp[zK,c1,c1',ha,zg]
 by_cases c2:(8:Int)<grow.length
 ·have c1':¬8<l.length:=by omega
  have c2':8<grow.length:=by omega
  rw[zUa z2b rfl];simp[zK,c1,c1',c2,c2',ha,zg]
 by_cases c3:(6:Int)<kJ.length
 ·have c1':¬8<l.length:=by omega
  have c2':¬8<grow.length:=by omega
  have c3':6<kJ.length:=by omega
  rw[zUa z2b rfl];simp[zK,c1,c1',c2,c2',c3,c3',ha,zg]
 exact z2j hf hp n rt a0 a1 a2 l (by omega) hl grow (by omega) hg kJ (by omega) hin signals hM
theorem z2k:∀xs,zot [zmN,zmN,.slice zFC,.st [zmN,zmN,zmN],.slice zmN,.slice zmN,.bool] xs->∃M',R L Cs z2a xs []=some (.w (.c (.bool true)),M'):=by
 intro xs h;simp only[zot]at h;obtain⟨c1,_,rfl,h1,c2,_,rfl,h2,c3,_,rfl,h3,c4,_,rfl,h4,c5,_,rfl,h5,c6,_,rfl,h6,c7,_,rfl,h7,rfl⟩:=h;simp only[zfo,znD]at h1 h2 h3 h4 h5 h6 h7;obtain⟨n,rfl,_⟩:=h1;obtain⟨rt,rfl,_⟩:=h2;obtain⟨rows,rfl,_,yK⟩:=h3;obtain⟨l,rfl,hl⟩:=zE2 (rows:=rows) (fun r hr=>by simp only[zfo,znD];exact yK r hr);obtain⟨_,_,rfl,⟨a0,rfl,_⟩,_,_,rfl,⟨a1,rfl,_⟩,_,_,rfl,⟨a2,rfl,_⟩,rfl⟩:=h4;obtain⟨ua,rfl,_,vR⟩:=h5;obtain⟨grow,rfl,hgr⟩:=zxB (rows:=ua) (fun r hr=>by simp only[zfo];exact vR r hr);obtain⟨rows2,rfl,_,hrows2⟩:=h6;obtain⟨kJ,rfl,hacts⟩:=zxB (rows:=rows2) (fun r hr=>by simp only[zfo];exact hrows2 r hr);obtain⟨b,rfl⟩:=h7;exact⟨[],z2d n rt a0 a1 a2 l hl grow hgr kJ hacts b⟩
theorem zq2(a:Int):R L [] zlc [W a] []=some (.w (Bo false),[]):=by
 rw[zUa zle rfl];simp[zfU]
theorem zn3(a:Int):R L [] zi5 [W a] []=some (.w (Bo false),[]):=by
 rw[zUa zi9 rfl];simp[ze6]
theorem zuB(a b:Int):R L [] zi6 [W a,W b] []=some (.w (W (zgQ a b)),[]):=by
 have h1:=zq2 a;have h2:=zq2 b;rw[zUa zja rfl];unfold zgQ;by_cases h:a<b
 ·simp[zb3,h1,h2,h]
 ·by_cases h':b<a
  ·simp[zb3,h1,h2,h,h']
  ·simp[zb3,h1,h2,h,h']
theorem zmv(a b:Int):R L [] zhQ [W a,W b] []=some (.w (W (zgQ a b)),[]):=by
 have h1:=zn3 a;have h2:=zn3 b;rw[zUa zhS rfl];unfold zgQ;by_cases h:a<b
 ·simp[zbq,h1,h2,h]
 ·by_cases h':b<a
  ·simp[zbq,h1,h2,h,h']
  ·simp[zbq,h1,h2,h,h']
theorem zxz(b:Bool):R L [] zhB [Bo b] []=some (.w (W (if b then 1 else 0)),[]):=by
 rw[zUa zp4 rfl];cases b<;>simp[zhF]
def orI(a b c d:Int):Int:=if a=0 then(if b=0 then(if c=0 then d else c) else b) else a
abbrev orE(a b c d:Int)(i:Int):Env:=[(7,.w (W 4)),(6,.w (.c (.je [[I a],[I b],[I c],[I d]]))),(3,.w (W 0)),(8,.w (W i))]
theorem or0(a b c d:Int):R L [] zob [.c (.je [[I a],[I b],[I c],[I d]])] []=some (.w (W (orI a b c d)),[]):=by
 have w1:IntKind.i64.wrap 1=1:=rfl;have w2:IntKind.i64.wrap 2=2:=rfl;have w3:IntKind.i64.wrap 3=3:=rfl;have w4:IntKind.i64.wrap 4=4:=rfl;have h4:Y L [] zab (some [7,6,3,8]) 0 (orE a b c d 4) []=some (.exit 0,[(9,.w (Bo false)),(3,.w (W 0)),(6,.w (.c (.je [[I a],[I b],[I c],[I d]]))),(7,.w (W 4)),(8,.w (W 4))],[]):=by
  rw[zj zab.eq_1];simp
 have h3:Y L [] zab (some [7,6,3,8]) 0 (orE a b c d 3) []=if d=0 then Y L [] zab (some [7,6,3,8]) 0 (orE a b c d 4) [] else some (.ret,[(2,.w (W d))],[]):=by
  rw[zj zab.eq_1];by_cases h:d=0
  ·simp[h,w4]
  ·have h':(d !=0)=true:=by simp[h]
   simp[h,h']
 have h2:Y L [] zab (some [7,6,3,8]) 0 (orE a b c d 2) []=if c=0 then Y L [] zab (some [7,6,3,8]) 0 (orE a b c d 3) [] else some (.ret,[(2,.w (W c))],[]):=by
  rw[zj zab.eq_1];by_cases h:c=0
  ·simp[h,w3]
  ·have h':(c !=0)=true:=by simp[h]
   simp[h,h']
 have h1:Y L [] zab (some [7,6,3,8]) 0 (orE a b c d 1) []=if b=0 then Y L [] zab (some [7,6,3,8]) 0 (orE a b c d 2) [] else some (.ret,[(2,.w (W b))],[]):=by
  rw[zj zab.eq_1];by_cases h:b=0
  ·simp[h,w2]
  ·have h':(b !=0)=true:=by simp[h]
   simp[h,h']
 have h0:Y L [] zab (some [7,6,3,8]) 0 (orE a b c d 0) []=if a=0 then Y L [] zab (some [7,6,3,8]) 0 (orE a b c d 1) [] else some (.ret,[(2,.w (W a))],[]):=by
  rw[zj zab.eq_1];by_cases h:a=0
  ·simp[h,w1]
  ·have h':(a !=0)=true:=by simp[h]
   simp[h,h']
 rw[h4]at h3;rw[h3]at h2;rw[h2]at h1;rw[h1]at h0;rw[zUa zow rfl];unfold orI;by_cases c1:a=0<;>by_cases c2:b=0<;>by_cases c3:c=0<;>by_cases c4:d=0<;>simp only[c1,c2,c3,c4,if_true,if_false]at h0 ⊢<;>simp[zfw,h0]
def zoG(b:Bool):Int:=if b then 1 else 0
def zu6(a b:Swp):Int:=orI (zgQ a.lane b.lane) (zgQ a.lo b.lo) (zgQ a.hi b.hi) (zoG a.cap-zoG b.cap)
theorem less0(a b:Swp):R L [] zar [.a (swC a),.a (swC b)] []=some (.w (W (zu6 a b)),[]):=by
 have h1:=zuB a.lane b.lane;have h2:=zmv a.lo b.lo;have h3:=zmv a.hi b.hi;have h4:R L [] zhB [Bo a.cap] []=some (.w (W (zoG a.cap)),[]):=zxz a.cap;have h5:R L [] zhB [Bo b.cap] []=some (.w (W (zoG b.cap)),[]):=zxz b.cap;have h6:=or0 (zgQ a.lane b.lane) (zgQ a.lo b.lo) (zgQ a.hi b.hi) (zoG a.cap-zoG b.cap);have w:IntKind.i64.wrap (zoG a.cap-zoG b.cap)=zoG a.cap-zoG b.cap:=by
  cases a.cap<;>cases b.cap<;>rfl
 unfold zu6;generalize zgQ a.lane b.lane=x1 at *;generalize zgQ a.lo b.lo=x2 at *;generalize zgQ a.hi b.hi=x3 at *;generalize zoG a.cap=o1 at *;generalize zoG b.cap=o2 at *;rw[zUa zsv rfl];simp[zjq,swC,h1,h2,h3,h4,h5,h6,w,zg,zX]
theorem zz5(a b:Swp):(zu6 a b<0)<->ltS a b=true:=by
 rw[zz2];unfold zu6 orI zgQ zoG;by_cases h1:a.lane<b.lane
 ·simp[h1]
 ·by_cases h2:b.lane<a.lane
  ·have:¬a.lane=b.lane:=by omega
   simp[h1,h2,this]
  ·have e1:a.lane=b.lane:=by omega
   by_cases h3:a.lo<b.lo
   ·simp[e1,h3]
   ·by_cases h4:b.lo<a.lo
    ·have:¬a.lo=b.lo:=by omega
     simp[e1,h3,h4,this]
    ·have e2:a.lo=b.lo:=by omega
     by_cases h5:a.hi<b.hi
     ·simp[e1,e2,h5]
     ·by_cases h6:b.hi<a.hi
      ·have:¬a.hi=b.hi:=by omega
       simp[e1,e2,h5,h6,this]
      ·have e3:a.hi=b.hi:=by omega
       cases a.cap<;>cases b.cap<;>simp[e1,e2,e3]
end Go.TrRun
namespace Go.Eng
open Go
theorem zsf [zb0]{P:Program}{cf:za4}(hcf:FnS P cf){f:FuncId}(hf:f<zb0.base){args:List WV}{vs:Array Value}{w:World}{σ:zP}{j:Inj}{M':Mem}{c:Int}(h:cf f args []=some (.w (.c (.int .i64 c)),M'))
  (hag:zM σ w) (hvs:zac σ j args vs.toList) (hm:MR (fun b=>w.heap.size<=b) σ j [] w) :
  Calls P f vs w fun e w'=>e=.returned (.int .i64 c)/\∃q os',w'=Go.Sort.grow (w.drewN q) os':=by
 obtain⟨_,_,_,_,hc⟩:=(hcf f args [] _ _ h (fun id hid=>by simp at hid)).1 hf;refine Calls.ve (hc (fun b=>w.heap.size<=b) σ j w vs (fun _ h=>h) hag hm hvs) ?_;rintro e w' ⟨v,σ',j',rfl,hr,_,_,hst⟩;have hr:VC σ' j' (.int .i64 c) v:=hr;cases hr;refine⟨rfl,w'.drawn-w.drawn,w'.heap.extract w.heap.size w'.heap.size,?_⟩;have h1:=hst.side.os;have h2:=hst.side.output;have h3:=hst.side.tape;have h4:=hst.side.drawn;have h5:=hst.frame;have h6:=hst.size;cases w' with |mk heap tape drawn os output =>
 simp only at h1 h2 h3 h4 h5 h6;subst h1;subst h2;subst h3;unfold Go.Sort.grow World.drewN;simp only[World.mk.injEq,and_true,true_and];refine⟨?_,by omega⟩;apply Array.ext_getElem?;intro i;by_cases hi:i<w.heap.size
 ·rw[j8 hi];exact h5 i hi (by omega)
 ·rw[vj (by omega),kG];by_cases hi2:i<heap.size
  ·rw[if_pos (by omega)]
   congr 1;omega
  ·rw[if_neg (by omega)];exact kw (by omega)
end Go.Eng
namespace Go.TrRun
open Go Go.Eng
theorem zxp(σ:zP)(j:Inj)(x:List Int):WVR σ j (.a (swC (zik x))) (.agg (ziq 4 7 x).toArray):=by
 refine⟨_,rfl,?_⟩;have e:(ziq 4 7 x).toArray.toList=[.int .i64 (x.getD 0 0),.int .i64 (x.getD 1 0),.int .i64 (x.getD 2 0),.bool (x.getD 3 0 !=0)]:=rfl;rw[e];refine⟨rfl,fun n c v hc hv=>?_⟩
 match n with
 |0=>cases hc;cases hv;exact .int _ _ _
 |1=>cases hc;cases hv;exact .int _ _ _
 |2=>cases hc;cases hv;exact .int _ _ _
 |3=>cases hc;cases hv;exact .bool _ _
 |n+4=>cases hc
def zAw(x y:List Int):Int:=zu6 (zik x) (zik y)
theorem zBC:(fun x y=>decide (zAw x y<0))=ltZ 4 7:=by
 funext x y;have h:=zz5 (zik x) (zik y);have e:ltS (zik x) (zik y)=ltZ 4 7 x y:=by
  have k1:∀z:List Int,zji (zik z)=zsY 4 7 z:=fun z=>by
   simp[zji,zik,zsY,List.range,List.range.loop,zgk]
  simp only[ltS,ltZ,k1,if_true]
 rw[e]at h;unfold zAw;cases hz:ltZ 4 7 x y with
 |true=>exact decide_eq_true (h.2 hz)
 |false =>
  refine decide_eq_false fun h'=>?_
  rw[h.1 h']at hz;cases hz
theorem zwK{P:Program}(qW:P.follows .mixedOrders=true)(hL:(L.map fun p=>zcF P an true p.1)=L.map fun p=>some p.2)(hV:zql P L=true)(hf:zar<P.funcs.size)(x y:List Int)(W:World) :
  Calls P zar #[.agg (ziq 4 7 x).toArray,.agg (ziq 4 7 y).toArray] W fun e w'=>e=.returned (.int .i64 (zAw x y))/\∃q os',w'=Go.Sort.grow (W.drewN q) os':=by
 letI:=zww P fun f=>L.lookup f
 obtain⟨n,hn⟩:=zah.1 (less0 (zik x) (zik y));exact zsf (zsT qW hL hV (Cs:=[]) rfl (fun c hc=>by cases hc) n) (f:=zar) hf hn (zml (W:=W) fun g row hr=>by cases hr) (.cons (zxp _ _ x) (.cons (zxp _ _ y) .nil)) MR.nil
end Go.TrRun
