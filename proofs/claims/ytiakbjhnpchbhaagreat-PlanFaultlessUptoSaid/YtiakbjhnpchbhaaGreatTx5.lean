/- This text proves what functions of this seat's program answer, run by the evaluator; no condition. -/
import Derived.Test.YtiakbjhnpchbhaaGreatTx4
import Derived.KernelRfl
import Derived.WalkSmall
set_option maxHeartbeats 8000000
set_option linter.unusedVariables false
set_option linter.unusedSimpArgs false
set_option linter.unusedSectionVars false
set_option maxRecDepth 10000
namespace Go.TrRun
open Go Go.Eng
def Zgx(m:zD)(zs:List Zon)(s:SnV):Prop:=∀(j:Nat) (h0:0<s.agents.length) (hj:j<s.agents.length),0<j->thA s.tick s.agents[j]=true->∀z,z<zs.length->ZcH m zs s.agents[0] s.agents[j] s.agents[0] s.agents[j] z=false
structure Zgw(m:zD)(zs:List Zon):Prop where
 merge:Zcv m zs
 part:∀r0 r1,zdA m r0=0->zdA m r1=0->znB m zs r0 r1=true
 src:∀(z:Nat) (hz:z<zs.length),∀P∈zs[z].parts,zes P.lane 0 m.je=[]->1<=P.lo
structure Zg7(m:zD)(zs:List Zon)(ss:List Sgn)(r:List Int)(len:Int)(k:zci)(a:Int)(sg:Bool):Prop where
 on:(zaN m r k.ego a).shi<=zmd m 0 r
 apart:(zaN m r k.ego a).vhi=0\/∀s∈zfV m zs ss r len k (zaN m r k.ego a) sg,apP m r (zaN m r k.ego a).shi s=false
 alone:∀v∈pvV m zs r,alP zs (zKh m zs 0 r) (zKu m zs ss r len sg k a) (zaN m r k.ego a).shi (k.ego.slo-len) v=false
theorem Zgy{m:zD}{zs:List Zon}{ss:List Sgn}{r:List Int}{len:Int}{k:zci}{a:Int}{sg:Bool}(h:zMi m zs ss r len (zKh m zs 0 r) (pvV m zs r) k (zEt m zs ss r len sg k a) (zKu m zs ss r len sg k a)=0):Zg7 m zs ss r len k a sg:=by
 have hw:∀x∈[onW m r (zEt m zs ss r len sg k a),zMt m r (zEt m zs ss r len sg k a),zMF m r (zEt m zs ss r len sg k a) (zKu m zs ss r len sg k a),zMG zs len (zKh m zs 0 r) (pvV m zs r) k (zEt m zs ss r len sg k a) (zKu m zs ss r len sg k a),zMH zs ss (pvV m zs r) k (zEt m zs ss r len sg k a)],x=0:=Zf4 h;refine⟨zNe h,?_,?_⟩
 ·have h3:=hw (zMF m r (zEt m zs ss r len sg k a) (zKu m zs ss r len sg k a)) (by simp);unfold zMF at h3;by_cases c:(zEt m zs ss r len sg k a).ego.vhi=0
  ·exact .inl c
  ·rw[if_neg c]at h3;right;intro s hs;by_cases c2:(zKu m zs ss r len sg k a).any (apP m r (zEt m zs ss r len sg k a).ego.shi)=true
   ·rw[if_pos c2]at h3;exact absurd h3 (by decide)
   ·have:=kK.1 (by simpa using c2) s ((zUy _ _).2 hs);exact(uC _).mp this
 ·have h4:=hw (zMG zs len (zKh m zs 0 r) (pvV m zs r) k (zEt m zs ss r len sg k a) (zKu m zs ss r len sg k a)) (by simp);unfold zMG at h4;intro v hv;by_cases c2:(pvV m zs r).any (alP zs (zKh m zs 0 r) (zKu m zs ss r len sg k a) (zEt m zs ss r len sg k a).ego.shi (k.ego.slo-len))=true
  ·rw[if_pos c2]at h4;exact absurd h4 (by decide)
  ·have:=kK.1 (by simpa using c2) v hv;exact(uC _).mp this
theorem Zgq{m:zD}{zs:List Zon}{ss:List Sgn}(hf:zmq m zs ss)(hs0:∀(z:Nat) (hz:z<zs.length),∀P∈zs[z].parts,zes P.lane 0 m.je=[]->1<=P.lo){a:AgV}(ha:WAg m a)(hs:a.s=0){z:Nat}:Zb7 m zs a a z=false:=by
 cases h:Zb7 m zs a a z with
 |false=>rfl
 |true =>
  exfalso;obtain⟨p,hp,_,_,p3⟩:=ZfR h;obtain⟨n,hn,j,hj,i,hi,h1,h2⟩:=Zf3 m zs a.jf 0 p hp;have hpv:=hf.pv _ (ja hj) _ (ja hi);have hst:(zW m 0 a.jf).getD n 0=jU m a.jf n:=rfl;rw[h2,hst]at p3;simp only at p3;obtain⟨x,t,er,hx,hxs,ht⟩:=Zb8 hf ha.jf;have hnx:=zcX hf.qe hx;rcases ht with rfl |⟨y,rfl,hy,hyo,hys,hky⟩
  ·obtain⟨a1,a2,a3⟩:=Zdh (m:=m) er;obtain rfl:n=0:=by rw[er]at hn;simp at hn;exact hn
   have ex:a.jf[0]=x:=by simp[er]
   have:=hs0 j hj _ (ja hi) (by rw[h1,ex];exact hxs);rw[a3]at p3;omega
  ·obtain⟨a0s,a1s,a2,a3⟩:=ZcN (m:=m) er;have n01:n=0\/n=1:=by rw[er]at hn;simp at hn;omega
   rcases n01 with rfl|rfl
   ·have ex:a.jf[0]=x:=by simp[er]
    have:=hs0 j hj _ (ja hi) (by rw[h1,ex];exact hxs);rw[a0s]at p3;omega
   ·rw[a1s]at p3;omega
theorem ZgV{m:zD}{zs:List Zon}{ss:List Sgn}(hF:z7y m zs ss)(hZ:Zgw m zs){sg:Bool}{i:Nat}(hi:i<=100){s:SnV}{k:zci}(hI:CnI m sg i s k)(hz:Zgx m zs s)(qs:0<s.agents.length){jL:List Int}{bs:List AgV}{ins:List z2T}(hbl:bs.length=s.agents.length)
  (hM:∀(j:Nat) (h1:j<s.agents.length) (h2:j<bs.length),MvS m zs ss s.tick (jL.getD j 0) s.agents[j] bs[j]) (hO:ZbX s.agents.length m.kr.length s.tick s.agents.length 0 ins)
  (hlen:1<=s.agents[0].s-s.agents[0].len) (A6:s.agents[0].gone=false) (hb0:0<bs.length) (hV:Zg7 m zs ss s.agents[0].jf s.agents[0].len k (jL.getD 0 0) sg) :
  (∀(j:Nat) (hj:j<s.agents.length) (hjb:j<bs.length),0<j->thA s.tick s.agents[j]=true->(∀z,z<zs.length->ZcH m zs s.agents[0] s.agents[j] bs[0] bs[j] z=false)/\∀l:Nat,l<m.je.length->lnB m s.agents[0] s.agents[j] bs[0] bs[j] l=true->¬s.agents[0].s-ZbS m s.agents[0].jf l<s.agents[j].s-ZbS m s.agents[j].jf l) /\
  ((∀j,0<j->j<s.agents.length->¬ZcG m zs s bs 0 j)->CnI m sg (i+1) ⟨s.tick+1,bs,ins⟩ (zpg m zs ss s.agents[0].jf s.agents[0].len k (zaN m s.agents[0].jf k.ego (jL.getD 0 0)) sg)/\Zgx m zs ⟨s.tick+1,bs,ins⟩/\1<=bs[0].s-bs[0].len/\bs[0].gone=false/\bs[0].jf=s.agents[0].jf/\bs[0].len=s.agents[0].len):=by
 have hf:=hF.full;have hs:=hI.ks;have htk:=hI.tick;have hzl:m.kr.length<=2:=by rw[hf.zd.z];have:=hF.zn2;simp;exact this
 obtain⟨q1,q2,q3,q4,q5⟩:=Zck.1 hI.cov;obtain⟨t1,t2,t3⟩:=Zeh hf hzl hs q1 hI.few (by omega) hbl hM hO;have ha0:=hs.ags _ (ja qs);have hg0:s.agents.getD 0 z3O=s.agents[0]:=by simp[qs]
 rw[hg0]at q4;have Cc:=hs.first;have BA:thA s.tick s.agents[0]=true:=Zd7 (by omega) A6;obtain⟨ho,he⟩:=ZeT hf ha0 (hI.free qs) (hM 0 qs hb0) BA q4;have hm0:=((hM 0 qs hb0).here BA).1;have hvb:=zxJ hf.qe q2;have h00:=ha0.s.1;have hl0:=ha0.len;have hs0':=hm0.s;have hp0':=hm0.pos;have hA:∀(j:Nat) (hj:j<s.agents.length) (hjb:j<bs.length),0<j->thA s.tick s.agents[j]=true->(∀z,z<zs.length->ZcH m zs s.agents[0] s.agents[j] bs[0] bs[j] z=false)/\∀l:Nat,l<m.je.length->lnB m s.agents[0] s.agents[j] bs[0] bs[j] l=true->¬s.agents[0].s-ZbS m s.agents[0].jf l<s.agents[j].s-ZbS m s.agents[j].jf l:=by
  intro j hj hjb hj0 hth;have ha:=hs.ags _ (ja hj);obtain⟨hm,_⟩:=(hM j hj hjb).here hth;rw[q3]at hm;have hto:=hI.apart j qs hj hj0 hth;have hob:=fun hsg=>hI.all hsg j hj hj0
  have hcv:=q5 j hj hj0 hth;have hh:=fun hsg=>hI.hold hsg j hj hj0 hth
  have hzn:=ZgU hf ho hvb hto ha sg hob hm hcv hh (hZ.part _ _ ha0.jf ha.jf) (hz j qs hj hj0 hth) _ (fun x hx=>(zUy _ _).2 hx) hV.alone;refine⟨hzn,fun l hl hb hlt=>?_⟩;unfold lnB at hb;simp only[jh]at hb;obtain⟨b1,b2,b3⟩:=hb;rw[if_pos hlt]at b3;unfold Zed at b3;simp only[jh,decide_eq_true_eq]at b3;obtain⟨c1,c2,c3,c4,c5⟩:=b3;rcases hV.apart with hv|hap
  ·have hee:=he;unfold z7p at hee;simp only[jh,decide_eq_true_eq]at hee;have hv0:bs[0].v=0:=by omega
   have hse:bs[0].s=s.agents[0].s:=by omega
   rw[hse]at c1 c5;have hnl:=zcX hf.qe (x:=(l:Int)) ⟨by omega,by omega⟩;have hms:=hm.s;have hmp:=hm.pos;exact Zgn hto ⟨by omega,hm.len⟩ (by omega) (by have:=ha.len;omega) (by omega) b1 b2 hlt c1 c3 c4 c5
  ·exact ZgY hf hZ.merge ho h00 hvb hzn hto ha sg hob hm hcv hh hap hl b1 b2 hlt c1 c2 c3 c4 c5
 refine⟨hA,fun hcr=>?_⟩;have hr0:bs[0].jf=s.agents[0].jf:=(t3 0 qs hb0).2.1;have hln0:bs[0].len=s.agents[0].len:=(t3 0 qs hb0).2.2.1;have hto':∀(j:Nat) (h0:0<bs.length) (hj:j<bs.length),0<j->thA (s.tick+1) bs[j]=true->ZbU m bs[0] bs[j]=false:=by
  intro j _ hj hj0 hth;have hjs:j<s.agents.length:=by omega
  have ha:=hs.ags _ (ja hjs);cases hts:thA s.tick s.agents[j]with
  |true =>
   obtain⟨hm,_⟩:=(hM j hjs hj).here hts;have hms:=hm.s;have hmp:=hm.pos;refine ZgN hf ha0.jf ha.jf hr0 hm.jf hln0 hm.len (by omega) (by omega) (by omega) (by have:=ha.len;omega) (fun l hl=>?_);cases hc:lnB m s.agents[0] s.agents[j] bs[0] bs[j] l with
   |false=>rfl
   |true=>exact absurd ⟨qs,hjs,hb0,hj,BA,hts,.inl ⟨l,hl,hc⟩⟩ (hcr j hj0 hjs)
  |false =>
   have hab:=(hM j hjs hj).Da hts;rw[hab]at hth ⊢;obtain⟨g1,g2⟩:=ZcK hth;have hlt:s.tick<s.agents[j].start:=by
    apply kO;intro hc;have:=Zd7 (t:=s.tick) (a:=s.agents[j]) (by omega) g1;rw[hts]at this;exact absurd this (by decide)
   exact ZgI hf (by rw[hr0];exact ha0.jf) ha (hs.lat _ (ja hjs) hlt) (by omega)
 obtain⟨_,e2⟩:=ZeV hF hZ.merge hi hI qs hbl hM hO hcr hto' hlen A6;refine⟨e2,?_,by omega,?_,hr0,hln0⟩
 ·intro j _ hj hj0 hth z hzz;simp only at hj hth ⊢;have hjs:j<s.agents.length:=by omega
  have ha:=hs.ags _ (ja hjs);cases hts:thA s.tick s.agents[j]with
  |true =>
   obtain⟨hm,_⟩:=(hM j hjs hj).here hts;have hms:=hm.s;have hmp:=hm.pos;have h1:=(hA j hjs hj hj0 hts).1 z hzz;cases hc:ZcH m zs bs[0] bs[j] bs[0] bs[j] z with
   |false=>rfl
   |true =>
    exfalso;unfold ZcH at hc h1;simp only[jh,decide_eq_true_eq]at hc;obtain⟨c1,c2,c3⟩:=hc;obtain⟨p,hp,p1,p2,p3⟩:=ZfR c1;obtain⟨q,hq,r1,r2,r3⟩:=ZfR c2;have f1:Zb7 m zs s.agents[0] bs[0] z=true:=ZfX (p:=p) (by rw[<-hr0];exact hp) p1 (by omega) p3;have f2:Zb7 m zs s.agents[j] bs[j] z=true:=ZfX (p:=q) (by rw[<-hm.jf];exact hq) r1 (by have:=hm.len;omega) r3;rw[hr0,hm.jf]at c3;rw[f1,f2,kq,kq,decide_eq_true c3]at h1;exact absurd h1 (by decide)
  |false =>
   have hab:=(hM j hjs hj).Da hts;rw[hab]at hth ⊢;obtain⟨g1,g2⟩:=ZcK hth;have hlt:s.tick<s.agents[j].start:=by
    apply kO;intro hc;have:=Zd7 (t:=s.tick) (a:=s.agents[j]) (by omega) g1;rw[hts]at this;exact absurd this (by decide)
   unfold ZcH;rw[Zgq hf hZ.src ha (hs.lat _ (ja hjs) hlt)];simp
 ·rw[hm0.gone];refine decide_eq_false ?_;have h1:=hV.on;have h2:=ho.eh;omega
set_option maxRecDepth 100000
open Go Go.Eng Go.PlanLaw
def zT7:List Pss->Bool
 |[]=>true
 |[_]=>true
 |[p,q]=>decide (p.lo<=q.lo)&&decide (p.hi<=q.hi)&&decide (q.lo<=p.hi+300)
 |_=>false
def zTY(ps:List Pss)(z:Int):Bool:=zT7 (ps.filter fun p=>decide (p.kp=z))
theorem zT6(k:Nat)(hk:k<7)(lim r o1 o2 o3 v:Int)(ws:List zCP):zTx (zq k lim r o1 o2 o3 v ws) (fun l=>(List.range (zsP k r).length).all fun z=>zTY (zKh (zq k lim r o1 o2 o3 v ws) (zsP k r) 0 l) z)=true:=match k,hk with
 |0,_=>by kernel_rfl
 |1,_=>by kernel_rfl
 |2,_=>by kernel_rfl
 |3,_=>by kernel_rfl
 |4,_=>by kernel_rfl
 |5,_=>by kernel_rfl
 |6,_=>by kernel_rfl
theorem zTK(z:Int):∀(t:List Pss) (w:Pss×Pss×Bool),zLV z t w=zLV z (t.filter fun p=>decide (p.kp=z)) w
 |[],w=>rfl
 |p::t,w=>by
  by_cases c:p.kp=z
  ·rw[List.filter_cons_of_pos (by simpa using c),zLV,zLV,zTK z t]
  ·rw[uB (by simpa using c),zLV,if_neg c,zTK z t]
theorem zTW{ps:List Pss}(z:Int)(h:zTY ps z=true)(hlh:∀p∈ps,p.lo<=p.hi)(len shi slo:Int)(hl:300<=len)(hs:slo<=shi) :
  ((zNx ps z).2.2&&decide ((zNx ps z).1.lo<=shi)&&decide (slo-len<=(zNx ps z).2.1.hi))=(ps.filter fun p=>decide (p.kp=z)).any fun p=>decide (p.lo<=shi)&&decide (slo-len<=p.hi):=by
 unfold zTY at h;unfold zNx;rw[zTK];have hz:∀p∈ps.filter (fun p=>decide (p.kp=z)),p.kp=z/\p.lo<=p.hi:=fun p hp=>by
  have:=ui.1 hp;exact⟨by simpa using this.2,hlh p this.1⟩
 generalize ps.filter (fun p=>decide (p.kp=z))=l at *
 match l,h with
 |[],_=>rfl
 |[p],_ =>
  have h1:=(hz p (by simp)).1;simp[zLV,h1]
 |[p,q],h =>
  have h1:=hz p (by simp);have h2:=hz q (by simp);simp only[zT7,jh,decide_eq_true_eq]at h;simp only[zLV,h1.1,h2.1,if_true,kq,uq,List.any_nil,Bool.or_false];rw[Ak];simp;omega
theorem zTP(st:Int)(z:Nat)(x:Int):∀(l:List Prt) (k:Nat),(∀p∈l,p.lo<p.hi)->∀p∈zLB st z x k l,p.lo<=p.hi
 |[],k,_,p,h=>by cases h
 |q::l,k,hq,p,h=>by
  unfold zLB at h;have ih:=fun h=>zTP st z x l (k+1) (fun y hy=>hq y (jy _ hy)) p h
  have:=hq q (ju ..);split at h
  ·rcases jB.1 h with rfl|h
   ·simp only;omega
   ·exact ih h
  ·exact ih h
theorem zTO(st x:Int):∀(l:List Zon) (z:Nat),(∀q∈l,∀p∈q.parts,p.lo<p.hi)->∀p∈zLA st x z l,p.lo<=p.hi
 |[],z,_,p,h=>by cases h
 |q::l,z,hq,p,h=>by
  unfold zLA at h;rcases jt.1 h with h|h
  ·exact zTP _ _ _ _ _ (hq q (ju ..)) p h
  ·exact zTO _ _ l _ (fun y hy=>hq y (jy _ hy)) p h
theorem zTM(m:zD)(zs:List Zon)(hq:∀q∈zs,∀p∈q.parts,p.lo<p.hi):∀(r:List Int) (a:Int),∀p∈zKh m zs a r,p.lo<=p.hi
 |[],a,p,h=>by cases h
 |x::r,a,p,h=>by
  unfold zKh at h;rcases jt.1 h with h|h
  ·exact zTO _ _ _ _ hq p h
  ·exact zTM m zs hq r _ p h
theorem zT2{m:zD}{zs:List Zon}{ss:List Sgn}(hF:zKj m zs ss){r:List Int}(hcon:∀z:Nat,z<zs.length->zTY (zKh m zs 0 r) z=true)(len shi slo:Int)(hl:300<=len)(hs:slo<=shi) :
  (List.range zs.length).any (enP (zKh m zs 0 r) len shi slo)=(zKh m zs 0 r).any fun p=>decide (p.lo<=shi)&&decide (slo-len<=p.hi):=by
 have hlh:=zTM m zs (fun q hq p hp=>(hF.full.pv q hq p hp).2.2.1) r 0;have hok:=zNh m zs r 0;generalize zKh m zs 0 r=ps at *;rw[Ak,jQ,jQ];constructor
 ·rintro⟨z,hz,h⟩;have hz:=kP.1 hz;unfold enP at h;rw[zTW z (hcon z hz) hlh len shi slo hl hs,jQ]at h;obtain⟨p,hp,h⟩:=h;exact⟨p,(ui.1 hp).1,h⟩
 ·rintro⟨p,hp,h⟩;obtain⟨⟨o1,o2⟩,_⟩:=hok p hp;obtain⟨z,hz⟩:=jx o1;refine⟨z,kP.2 (by omega),?_⟩;unfold enP;rw[zTW z (hcon z (by omega)) hlh len shi slo hl hs,jQ];exact⟨p,ui.2 ⟨hp,by simpa using hz⟩,h⟩
set_option maxRecDepth 10000
open Go Go.Eng
theorem Zeb(k:Nat)(hk:k<7)(lim r o1 o2 o3 v:Int)(ws:List zCP):Zcv (zq k lim r o1 o2 o3 v ws) (zsP k r):=by
 intro p x q hp0 hx0 hpx hp hx;have key:∀a:Int,0<=a->a=0\/a=1\/a=2\/a=3\/4<=a.toNat:=fun a _=>by omega
 have few:(zq k lim r o1 o2 o3 v ws).je.length<=4:=(zCl k hk lim r o1 o2 o3 v ws).few;have out:∀a:Int,4<=a.toNat->zS (zq k lim r o1 o2 o3 v ws) a=[]:=fun a h=>zyt (by omega)
 have only:∀a:Int,0<=a->q∈zS (zq k lim r o1 o2 o3 v ws) a->a=0\/k=4/\a=1:=by
  intro a ha hq;rcases key a ha with rfl|rfl|rfl|rfl|h
  ·exact .inl rfl
  ·match k,hk with
   |0,_ |1,_ |2,_ |3,_ |5,_ |6,_=>simp[zS,zq,zy,zQ]at hq
   |4,_=>exact .inr ⟨rfl,rfl⟩
  ·match k,hk with
   |0,_ |1,_ |2,_ |3,_ |4,_ |5,_ |6,_=>simp[zS,zq,zy,zQ]at hq
  ·match k,hk with
   |0,_ |1,_ |2,_ |3,_ |4,_ |5,_ |6,_=>simp[zS,zq,zy,zQ]at hq
  ·rw[out a h]at hq;cases hq
 have two:k=4/\(p=0/\x=1\/p=1/\x=0):=by
  rcases only p hp0 hp with h1 |⟨h0,h1⟩<;>rcases only x hx0 hx with h2 |⟨h0',h2⟩
  ·exact absurd (h1.trans h2.symm) hpx
  ·exact⟨h0',.inl ⟨h1,h2⟩⟩
  ·exact⟨h0,.inr ⟨h1,h2⟩⟩
  ·exact absurd (h1.trans h2.symm) hpx
 obtain⟨rfl,hpx2⟩:=two;have hq2:q=2:=by
  rcases hpx2 with⟨rfl,_⟩ |⟨rfl,_⟩<;>simpa [zS,zq,zy,zQ]using hp
 subst hq2;refine⟨0,by simp[zsP],⟨⟨2,0,5000,0⟩,by simp[zsP],rfl,rfl,by show(0:Int)<=5000;omega⟩,?_,?_⟩
 ·rcases hpx2 with⟨rfl,_⟩ |⟨rfl,_⟩<;>simp[zsP,zjF]
 ·rcases hpx2 with⟨_,rfl⟩ |⟨_,rfl⟩<;>simp[zsP,zjF]
theorem Zg3(k:Nat)(hk:k<7)(lim r o1 o2 o3 v:Int)(ws:List zCP):zTx (zq k lim r o1 o2 o3 v ws) (fun a=>decide (zdA (zq k lim r o1 o2 o3 v ws) a≠0)||zTx (zq k lim r o1 o2 o3 v ws) (fun b=>decide (zdA (zq k lim r o1 o2 o3 v ws) b≠0)||znB (zq k lim r o1 o2 o3 v ws) (zsP k r) a b))=true:=match k,hk with
 |0,_=>by kernel_rfl
 |1,_=>by kernel_rfl
 |2,_=>by kernel_rfl
 |3,_=>by kernel_rfl
 |4,_=>by kernel_rfl
 |5,_=>by kernel_rfl
 |6,_=>by kernel_rfl
theorem Zg5(k:Nat)(hk:k<7)(lim r o1 o2 o3 v:Int)(ws:List zCP):((zsP k r).all fun q=>q.parts.all fun P=>decide (zes P.lane 0 (zq k lim r o1 o2 o3 v ws).je≠[])||decide (1<=P.lo))=true:=match k,hk with
 |0,_=>by kernel_rfl
 |1,_=>by kernel_rfl
 |2,_=>by kernel_rfl
 |3,_=>by kernel_rfl
 |4,_=>by kernel_rfl
 |5,_=>by kernel_rfl
 |6,_=>by kernel_rfl
theorem Zg1{k:Nat}(hk:k<7){lim r o1 o2 o3 v:Int}{ws:List zCP}(nu:zp2 k lim r o1 o2 o3 v ws):Zgw (zq k lim r o1 o2 o3 v ws) (zsP k r):=by
 have hF:=zTs k hk nu;refine⟨Zeb k hk lim r o1 o2 o3 v ws,fun a b ha hb=>?_,fun z hz P hP hb=>?_⟩
 ·have h1:=zTp hF.full.yV (Zg3 k hk lim r o1 o2 o3 v ws) ha;rw[decide_eq_false (fun h=>h ha),k7]at h1;have h2:=zTp hF.full.yV h1 hb;rw[decide_eq_false (fun h=>h hb),k7]at h2;exact h2
 ·have h1:=jA.1 (jA.1 (Zg5 k hk lim r o1 o2 o3 v ws) _ (ja hz)) P hP;simpa [hb]using h1
@[simp] theorem ZeI(l:List z45):(∀x,x∈z32 l->x.length=6)<->True:=by simp[z32]
theorem Zdw(l:List z45)(i:Nat)(x:z45):(z32 l).set i (z3N x)=z32 (l.set i x):=by simp[z32,yr]
theorem VB.okb{m:zD}(h:zcp m){b:zk}(hb:VB m b):OKB b:=by
 have h1:=hb.lo;have h2:=hb.le;have h3:=hb.hi;have hl:=(zcX h hb.lane).2;exact⟨by omega,by omega,by omega,by omega⟩
theorem Ze{out:List zk}{b:zk}(h:∀x∈out,OKB x)(hb:OKB b):∀x∈zcP out b,OKB x:=by
 rcases ud out with rfl |⟨o,a,rfl⟩
 ·rw[z9w];simpa using hb
 ·rw[ue]at *;rw[z9l];have ha:=h a (by simp);split
  ·intro x hx;rcases jt.1 hx with hx|hx
   ·exact h x (by simp[hx])
   ·simp at hx;subst hx;have q1:=ha.lo1;have q2:=ha.lo2;have q3:=ha.hi1;have q4:=ha.hi2;have r1:=hb.lo1;have r2:=hb.lo2;have r3:=hb.hi1;have r4:=hb.hi2;exact⟨by simp only[glue];omega,by simp only[glue];omega,by simp only[glue];omega,by simp only[glue];omega⟩
  ·intro x hx;rcases jt.1 hx with hx|hx
   ·exact h x hx
   ·simp at hx;subst hx;exact hb
theorem Zv:∀(r out:List zk),(∀x∈out,OKB x)->(∀x∈r,OKB x)->∀x∈r.foldl zcP out,OKB x
 |[],out,h,_=>h
 |b::r,out,h,hr=>by
  rw[jT];exact Zv r _ (Ze h (hr b ju)) fun x hx=>hr x (jy _ hx)
theorem Zax{l:List zk}(h:∀x∈l,OKB x):∀x∈zcz l,OKB x:=by
 unfold zcz;exact Zv _ [] (by simp) fun x hx=>h x ((zuL l [] x hx).resolve_right (by simp))
theorem Zc1{out:List zk}{b:zk}(h:∀x∈out,x.hold=0)(hb:b.hold=0):∀x∈zcP out b,x.hold=0:=by
 rcases ud out with rfl |⟨o,a,rfl⟩
 ·rw[z9w];simpa using hb
 ·rw[ue]at *;rw[z9l];have ha:=h a (by simp);split
  ·intro x hx;rcases jt.1 hx with hx|hx
   ·exact h x (by simp[hx])
   ·simp at hx;subst hx;simp[glue,ha]
  ·intro x hx;rcases jt.1 hx with hx|hx
   ·exact h x hx
   ·simp at hx;subst hx;exact hb
theorem Zc9:∀(r out:List zk),(∀x∈out,x.hold=0)->(∀x∈r,x.hold=0)->∀x∈r.foldl zcP out,x.hold=0
 |[],out,h,_=>h
 |b::r,out,h,hr=>by
  rw[jT];exact Zc9 r _ (Zc1 h (hr b ju)) fun x hx=>hr x (jy _ hx)
theorem ZdV{l:List zk}(h:∀x∈l,x.hold=0):∀x∈zcz l,x.hold=0:=by
 unfold zcz;exact Zc9 _ [] (by simp) fun x hx=>h x ((zuL l [] x hx).resolve_right (by simp))
theorem ZdY{x fr to:Int}{b c:zk}(h:c∈zoX x fr to b):c.hold=b.hold:=by
 unfold zoX at h;split at h
 ·simp at h;rw[h]
 ·rcases jt.1 h with h|h
  ·split at h
   ·simp at h;rw[h]
   ·cases h
  ·split at h
   ·simp at h;rw[h]
   ·cases h
theorem Zdb{x fr to:Int}:∀(l:List zk),(∀b∈l,b.hold=0)->∀c∈zhn x fr to l,c.hold=0
 |[],_,c,hc=>by cases hc
 |b::l,h,c,hc=>by
  unfold zhn at hc;rcases jt.1 hc with hc|hc
  ·rw[ZdY hc];exact h b (by simp)
  ·exact Zdb l (fun x hx=>h x (by simp[hx])) c hc
theorem Zc4(m:zD)(e:Ego)(len:Int):∀(r:List Int) (a:Int) (l:List zk),(∀b∈l,b.hold=0)->∀c∈zpO m e len a r l,c.hold=0
 |[],_,_,h=>h
 |x::r,a,l,h=>Zc4 m e len r _ _ (Zdb l h)
theorem ZdT(m:zD)(e:Ego)(len:Int)(r:List Int){l:List zk}(h:∀b∈l,b.hold=0):∀c∈zkr m e len r l,c.hold=0:=by
 unfold zkr;split
 ·exact Zc4 m e len r 0 l h
 ·exact h
def OKH(b:zk):Prop:=OKB b/\b.hold=0
theorem Zaj{m:zD}(h:zcp m)(hsh:zmX m)(l:List Int)(hr:zdA m l=0)(len:Int)(hlen:300<=len/\len<=20000)(k:zci)(hk:k.jV.length<=1000)(hok:∀b∈k.jV,OKB b) :
  ∃bs:List zk,bs.length<=4000/\((∀b∈bs,OKB b)/\((∀b∈k.jV,b.hold=0)->∀b∈bs,b.hold=0))/\R L Cs zLq [.a (zf m),.c (.jc (zu l)),W len,.a (zG k)] []=some (.w (.a (zG ⟨k.tick,bs,k.ego⟩)),[]):=by
 obtain⟨hon,hne,hl8⟩:=zg1 h hr;have h2l:=zlP hsh hr;have h1:=zy8 k (by omega);have h2:=zxh h k (by omega) hok;have h3:=zp0 m h.small h.A9 l (by omega);rw[hr]at h3;rw[zUa zLw rfl];by_cases c1:zdf m k=0
 ·have hbd:k.jV.length*2 ^ l.length<=100000000000:=by
   have:2 ^ l.length<=4:=by
    have:l.length=0\/l.length=1\/l.length=2:=by omega
    rcases this with e|e|e<;>rw[e]<;>decide
   exact j7 (u5 hk this) (by decide)
  have he:=zPa c1;have h6:=zxN h l hl8 hon len k.ego ⟨by omega,by omega,by omega,by omega⟩ ⟨by omega,hlen.2⟩ k.jV hbd;have hvb:=ztK k.ego len l k.jV (zxJ h c1);have hol:=zij m k.ego len h2l k.jV;refine⟨zkr m k.ego len l k.jV,by omega,⟨fun b hb=>(hvb b hb).okb h,fun hh=>ZdT m k.ego len l hh⟩,?_⟩;simp only[zf,zG,zch,c1]at h1 h2 h3 h6 ⊢;simp[zH1,h1,h2,h3,h6,hlen.1,hlen.2,zch]
 ·have b1:(zdf m k==0)=false:=by simp[c1]
  refine⟨k.jV,by omega,⟨hok,fun hh=>hh⟩,?_⟩;simp only[zf,zG]at h1 h2 ⊢;simp[zH1,h1,h2,c1,b1]
inductive StS (n0:Nat):List Pnt->Cl->Mem->Prop
 |nil (h:n0=4):StS n0 [] .jd []
 |own (q:Nat) {out:List Pnt} {G:Mem} (hq:G[q]?=some (ptB out)) (hG:∀x∈G,PB x) (hn:n0=G.length+4\/4<=n0/\n0<=q+4):StS n0 out (ptS q out) G
theorem StS.drop{n0:Nat}{out:List Pnt}{S:Cl}{G:Mem}(h:StS n0 out S G){m:zD}{s:SnV}{seen:List Spn}{v:Nat}{X:Option Blk}(hX:PB X){E:Env}(hE:E.all (fun x=>x.2.below n0)=true):∃G',jN n0 E (snM m s seen v S (G++[X]))=snM m s seen v S G'/\StS n0 out S G':=by
 cases h with
 |nil h =>
  subst h;exact⟨[],ZZ hE,.nil rfl⟩
 |own q hq hG hn =>
  have hql:q<G.length:=by by_cases c:q<G.length;exact c;rw[jK (by omega)]at hq;cases hq
  rcases hn with hn|hn
  ·exact⟨G,Zb hn hql hG hE,.own q hq hG (.inl hn)⟩
  ·refine⟨G++[X],z8I hn.1 hn.2,.own q (by rw[jw hql,hq]) ?_ (.inr hn)⟩;intro x hx;rcases jt.1 hx with hx|hx
   ·exact hG x hx
   ·simp only[jz]at hx;subst hx;exact hX
theorem z8P{m:zD}(a:AgV):∀(r:List Int) (i:Nat),(∀x∈z4F m a i r,x.lo<=x.hi/\0<=x.lo/\x.lane∈r/\x.hi<=z8 m x.lane/\(x.hi-x.lo<=max 0 a.len))
 |[],_=>by simp[z4F]
 |x::r,i=>by
  intro y hy;unfold z4F at hy;rcases jt.1 hy with hy|hy
  ·split at hy
   ·rename_i c;simp only[jz]at hy;subst hy;refine⟨c,?_,ju ..,?_,?_⟩
    ·show 0<=max 0 (a.s-a.len-jU m a.jf i);omega
    ·show min (a.s-jU m a.jf i) (z8 m x)<=z8 m x;omega
    ·show min (a.s-jU m a.jf i) (z8 m x)-max 0 (a.s-a.len-jU m a.jf i)<=max 0 a.len;omega
   ·cases hy
  ·obtain⟨h1,h2,h3,h4⟩:=z8P a r (i+1) y hy;exact⟨h1,h2,jy _ h3,h4⟩
theorem z9E{n:Nat}{E:Env}{M:Mem}(h:M.length<=n):jN n E M=M:=by unfold jN;rw[if_pos h]
abbrev cvZ:List Cl:=[I 0,.jd,I 0,I 0,I 0,I 0]
abbrev cwM(m:zD)(s:SnV)(v:Nat)(S:Cl)(G:Mem):Mem:=bx 5 (zf m)::bx 3 (snC s)::bx 6 cvZ::bxv v 6 [I s.tick,S,I 0,I 0,I 0,I 0]::G
abbrev blB(out:List zk):Option Blk:=some { box:=false,esz:=6,rows:=zI out,gen:=out.length,fz:=false,ver:=out.length }
abbrev blS(q:Nat)(out:List zk):Cl:=.slice (q+4) out.length 6 0 out.length none
theorem ZaP(out:List zk):PB (blB out):=fun n=>by simp[pbw,Blk.below]
theorem ZaY{m:zD}{s:SnV}{v q n:Nat}{out:List zk}{G N:Mem}{E:Env}(hn:n=G.length+4)(hq:q<G.length)(hG:∀x∈G,PB x)(hE:E.all (fun x=>x.2.below n)=true):jN n E (cwM m s v (blS q out) (G++N))=cwM m s v (blS q out) G:=by
 subst hn;unfold jN;split
 ·rename_i h;have hN:N=[]:=jO.1 (by simp only[cwM,jm,jr]at h;omega);subst hN;simp
 ·rw[if_pos]
  ·simp
  ·rw[hE,kq];have e:List.take (G.length+4) (cwM m s v (blS q out) (G++N))=cwM m s v (blS q out) G:=by simp
   rw[e];simp[zH,Blk.below,Eng.below,uX,zf,snC];refine⟨by omega,fun x hx=>?_⟩;have:=hG x hx (G.length+4);cases x with
   |none=>rfl
   |some b=>simp[pbw,Blk.below]at this;simpa using this
theorem Z4{m:zD}{s:SnV}{v q n:Nat}{out:List zk}{G:Mem}{E:Env}(h4:4<=n)(hn:n<=q+4):jN n E (cwM m s v (blS q out) G)=cwM m s v (blS q out) G:=by
 unfold jN;split
 ·rfl
 ·rw[if_neg];obtain⟨k,rfl⟩:∃k,n=k+4:=⟨n-4,by omega⟩;have hc:¬q+4+1<=k+4:=by omega
  simp[zH,Blk.below,Eng.below,uX,hc]
inductive StB (n0:Nat):List zk->Cl->Mem->Prop
 |nil (h:n0=4):StB n0 [] .jd []
 |own (q:Nat) {out:List zk} {G:Mem} (hq:G[q]?=some (blB out)) (hG:∀x∈G,PB x) (hn:n0=G.length+4\/4<=n0/\n0<=q+4):StB n0 out (blS q out) G
abbrev z9r(at_ j:Nat)(sp:Int)(pad:List Int)(ps:List Spn)(i:Nat):Env:=[(10,.w (W at_)),(13,.w (W j)),(3,.w (W sp)),(8,.w (Pt 2)),(2,.w (.c (.jc (zu pad)))),(4,.w (Pt 0)),(12,.w (.c (.jc (zWx ps)))),(5,.w (Pt 1)),(11,.w (W i)),(9,.w (Pt 3))]
theorem ZS(at_ j:Nat)(sp:Int)(pad:List Int)(ps:List Spn)(i:Nat){n:Nat}(hn:4<=n):(z9r at_ j sp pad ps i).all (fun x=>x.2.below n)=true:=by
 simp[AV.below,WV.below,WV.cells,Eng.below,uX];refine⟨?_,?_,?_,?_⟩<;>first |omega |exact decide_eq_true (by omega)
theorem room48{n:Nat}(h:n<=100000):(n+1)*48<=140737488355328:=by omega
theorem ZaC{m:zD}(h:zcp m)(s:SnV)(hs:KSn m s)(sp:Int)(pad:List Int)(Cd:pad.length<=1000)(hpi:∀x∈pad,zk0 x)(ps:List Spn)(hps:∀x∈ps,(0<=x.lane/\x.lane<m.je.length)/\0<=x.lo/\x.lo<=x.hi/\x.hi<=z8 m x.lane)(hpl:ps.length<=8)(i j at_:Nat)(hi:i<s.agents.length)(hj:j<ps.length)(hat:at_<=1000)(hst:thA s.tick (s.agents[i]'hi)=true)(n0 v:Nat)(out:List zk)(BB:out.length<=1000)(S:Cl)(G:Mem)(hS:StB n0 out S G) :
  ∃(b:zk) (v':Nat) (S':Cl) (G':Mem),OKH b/\StB n0 (out++[b]) S' G' /\
  Y L Cs z7G (some [10,13,3,8,2,4,12,5,11,9]) n0 (z9r at_ j sp pad ps i) (cwM m s v S G)=Y L Cs z7G (some [10,13,3,8,2,4,12,5,11,9]) n0 (z9r (at_+1) (j+1) sp pad ps i) (cwM m s v' S' G'):=by
 have yz:=hs.few;have hw:=zB (i:=j) (by omega);have hwa:=zB (i:=at_) (by omega);have hci:(i:Int)<s.agents.length:=by omega
 have hcj:(j:Int)<ps.length:=by omega
 have ha:=hs.ags _ (ja hi);have hT:=z56 s i hi;rw[hst]at hT;obtain⟨px1,px2,px3,px4⟩:=hps _ (ja hj);obtain⟨jl,hjl⟩:=jx px1.1;have hjm:jl<m.je.length:=by omega
 have hB:=zhv (h.kind _ (ja hjm));have hL:=zEV h px1;have hlen:=zcX h px1;obtain⟨p,hpI,hP⟩:∃p:Int,zk0 p/\((pad=[]/\p=0/\p % 3000=IntKind.i64.wrap (p.tdiv 7) % 3000/\p % 50=IntKind.i64.wrap (p.tdiv 3) % 50)\/0<pad.length/\∃(hh:at_ % pad.length<pad.length),p=pad[at_ % pad.length]):=by
  by_cases c:pad.length=0
  ·exact⟨0,by unfold zk0;omega,.inl ⟨jO.1 c,rfl,rfl,rfl⟩⟩
  ·have hh:=qW at_ (show 0<pad.length by omega);exact⟨pad[at_ % pad.length],hpi _ (ja hh),.inr ⟨by omega,hh,rfl⟩⟩
 have m1:=zD0 p 3000 (by omega) (by omega);have m2:=zD0 (IntKind.i64.wrap (p.tdiv 7)) 3000 (by omega) (by omega);have m3:=zD0 p 50 (by omega) (by omega);have m4:=zD0 (IntKind.i64.wrap (p.tdiv 3)) 50 (by omega) (by omega);have r1:=zDJ p 3000 (by omega);have r2:=zDJ (IntKind.i64.wrap (p.tdiv 7)) 3000 (by omega);generalize p % 3000=d1 at *;generalize IntKind.i64.wrap (p.tdiv 7) % 3000=d2 at *;generalize p % 50=d3 at *;generalize IntKind.i64.wrap (p.tdiv 3) % 50=d4 at *;generalize hag:s.agents[i]=a at *;generalize hx:ps[j]=x at *;have w1:=ku (x.lo-d1);have w2:=ku (x.hi+d2);generalize hln:z8 m x.lane=ln at *;rw[hjl]at hL;generalize hv1:IntKind.i64.wrap (a.v-d3)=u1 at *;generalize hv2:IntKind.i64.wrap (a.v+d4)=u2 at *;generalize htv:zeR m.je[jl].kind=tv at *;let b:zk:=⟨jl,max 0 (x.lo-d1),min ln (x.hi+d2),max 0 u1,min tv u2,0⟩;have hbk:OKB b:=⟨by show -9223372036854775808<=max 0 (x.lo-d1);omega,by show max 0 (x.lo-d1)<=9223372036854775807;omega,by show -9223372036854775808<=min ln (x.hi+d2);omega,by show min ln (x.hi+d2)<=9223372036854775807;omega⟩;have q5:Int.tmod (at_:Int) (pad.length:Int)=((at_ % pad.length:Nat):Int):=rfl;have jZ:=room48 (n:=out.length) (by omega);simp only[zf,snC]at hT hL;clear px1 px2 px3 px4 hlen r1 r2 hpI hpi hps ha h hs;cases hS with
 |nil hn =>
  subst hn;refine⟨b,v+1,blS 1 [b],[blB [b],blB [b]],⟨hbk,rfl⟩,.own 1 rfl (by intro y hy;simp at hy;subst hy;exact ZaP _) (.inr ⟨by omega,by omega⟩),?_⟩;rw[ZfM z7G.eq_1];rcases hP with⟨rfl,rfl,rfl,rfl⟩ |⟨l0,hh,hpe⟩
  ·have x0:IntKind.i64.wrap 0=0:=rfl;simp only[Int.zero_tdiv,x0]at m2 m4;simp (maxSteps:=1000000) [x0,z9r,cwM,blB,blS,b,zf,snC,agC,zWX,ze,zo,hi,hj,hci,hcj,hag,hx,hjl,hjm,hT,hB,hL,htv,m1,m2,m3,m4,w1,w2,hv1,hv2,hw,hwa,zg,zH]
  ·have l0':(0:Int)<pad.length:=by omega
   have l1:¬pad.length=0:=by omega
   have hq6:0<=(at_:Int) % (pad.length:Int):=qr _ (by omega);have hq7:(at_:Int) % (pad.length:Int)<pad.length:=qp _ (by omega);have hq8:((at_:Int) % (pad.length:Int)).toNat=at_ % pad.length:=by rw[<-Int.natCast_emod];exact yU _
   have hpe':=hpe.symm;simp (maxSteps:=1000000) [z9r,cwM,blB,blS,b,zf,snC,agC,zWX,ze,zo,hi,hj,hci,hcj,hag,hx,hjl,hjm,hT,hB,hL,htv,m1,m2,m3,m4,w1,w2,hv1,hv2,hw,hwa,l0,l0',l1,q5,hq6,hq7,hq8,hh,hpe',zg,zH]
 |own q hq hG hn =>
  have hql:q<G.length:=by by_cases c:q<G.length;exact c;rw[jK (by omega)]at hq;cases hq
  have hE1:∀(x:Option Blk) (N:Mem),(G++x::N)[G.length]?=some x:=fun x N=>by simp
  have hEs:∀(x y:Option Blk) (N:Mem),(G++x::N).set G.length y=G++y::N:=fun x y N=>by rw[ky _ _ (jq _)];simp
  have hq':∀N:Mem,(G++N)[q]?=some (blB out):=fun N=>by rw[jw hql,hq]
  have v9:∀(N:Mem) (x:Option Blk),(G++N).set q x=G.set q x++N:=fun N x=>k9 _ _ hql
  have htk:(zI out).take out.length=zI out:=jE (by simp);have CI:∀y∈G.set q (blB (out++[b])),PB y:=by
   intro y hy;rcases qc hy with hy|rfl
   ·exact hG y hy
   ·exact ZaP _
  have hn4:4<=n0:=by omega
  have hqS:(G.set q (blB (out++[b])))[q]?=some (blB (out++[b])):=kg hql;have key:Y L Cs z7G (some [10,13,3,8,2,4,12,5,11,9]) n0 (z9r at_ j sp pad ps i) (cwM m s v (blS q out) G)=Y L Cs z7G (some [10,13,3,8,2,4,12,5,11,9]) n0 (z9r (at_+1) (j+1) sp pad ps i) (jN n0 (z9r (at_+1) (j+1) sp pad ps i) (cwM m s (v+1) (blS q (out++[b])) (G.set q (blB (out++[b]))++[blB [b]]))):=by
   simp only[blB]at hq';clear CI hqS hG hn hq;rw[ZfM z7G.eq_1];rcases hP with⟨rfl,rfl,rfl,rfl⟩ |⟨l0,hh,hpe⟩
   ·have x0:IntKind.i64.wrap 0=0:=rfl;simp only[Int.zero_tdiv,x0]at m2 m4;simp (maxSteps:=1000000) [x0,z9r,cwM,blB,blS,b,zf,snC,agC,zWX,ze,zo,hi,hj,hci,hcj,hag,hx,hjl,hjm,hT,hB,hL,htv,m1,m2,m3,m4,w1,w2,hv1,hv2,hw,hwa,hE1,hEs,hq',v9,htk,jZ,zg,zH,-jN]
   ·have l0':(0:Int)<pad.length:=by omega
    have l1:¬pad.length=0:=by omega
    have hq6:0<=(at_:Int) % (pad.length:Int):=qr _ (by omega);have hq7:(at_:Int) % (pad.length:Int)<pad.length:=qp _ (by omega);have hq8:((at_:Int) % (pad.length:Int)).toNat=at_ % pad.length:=by rw[<-Int.natCast_emod];exact yU _
    have hpe':=hpe.symm;simp (maxSteps:=1000000) [z9r,cwM,blB,blS,b,zf,snC,agC,zWX,ze,zo,hi,hj,hci,hcj,hag,hx,hjl,hjm,hT,hB,hL,htv,m1,m2,m3,m4,w1,w2,hv1,hv2,hw,hwa,l0,l0',l1,q5,hq6,hq7,hq8,hh,hpe',hE1,hEs,hq',v9,htk,jZ,zg,zH,-jN]
  rcases hn with hn|hn
  ·rw[ZaY (by simpa using hn) (by simpa using hql) CI (ZS _ _ _ _ _ _ hn4)]at key;exact⟨b,v+1,_,_,⟨hbk,rfl⟩,.own q hqS CI (.inl (by simpa using hn)),key⟩
  ·rw[Z4 hn.1 hn.2]at key;refine⟨b,v+1,_,_,⟨hbk,rfl⟩,.own q (by rw[jw (by simpa using hql)];exact hqS) ?_ (.inr hn),key⟩;intro y hy;rcases jt.1 hy with hy|hy
   ·exact CI y hy
   ·simp at hy;subst hy;exact ZaP _
abbrev Zbg(at_ j:Nat)(sp:Int)(pad:List Int)(ps:List Spn)(i:Nat):Env:=(45,.w (Bo false))::z9r at_ j sp pad ps i
theorem ZaD{m:zD}(h:zcp m)(s:SnV)(hs:KSn m s)(sp:Int)(pad:List Int)(Cd:pad.length<=1000)(hpi:∀x∈pad,zk0 x)(ps:List Spn)(hps:∀x∈ps,(0<=x.lane/\x.lane<m.je.length)/\0<=x.lo/\x.lo<=x.hi/\x.hi<=z8 m x.lane)(hpl:ps.length<=8)(i:Nat)(hi:i<s.agents.length)(n0:Nat):∀(f j at_ v:Nat) (out:List zk) (S:Cl) (G:Mem),j+f=ps.length->at_+f<=1000->out.length+f<=1000->(∀b∈out,OKH b)->StB n0 out S G ->
  ∃(at' j' v':Nat) (um:List zk) (S':Cl) (G':Mem),at'<=at_+f/\um.length<=out.length+f/\(∀b∈um,OKH b)/\StB n0 um S' G' /\
  Y L Cs z7G (some [10,13,3,8,2,4,12,5,11,9]) n0 (z9r at_ j sp pad ps i) (cwM m s v S G)=some (.exit 2,Zbg at' j' sp pad ps i,cwM m s v' S' G'):=by
 have yz:=hs.few;have ha:=hs.ags _ (ja hi);have hT:=z56 s i hi;intro f;induction f with
 |zero =>
  intro j at_ v out S G hj hat ho hok hS;obtain rfl:j=ps.length:=by omega
  refine⟨at_,ps.length,v,out,S,G,by omega,by omega,hok,hS,?_⟩;rw[ZfM z7G.eq_1];simp[z9r,cwM]
 |succ f ih =>
  intro j at_ v out S G hj hat ho hok hS;have hcj:(j:Int)<ps.length:=by omega
  by_cases c:thA s.tick (s.agents[i]'hi)=true
  ·obtain⟨b,v1,S1,G1,g1,g2,g3⟩:=ZaC h s hs sp pad Cd hpi ps hps hpl i j at_ hi (by omega) (by omega) c n0 v out (by omega) S G hS;obtain⟨a2,j2,v2,o2,S2,G2,k1,k2,k3,k4,k5⟩:=ih (j+1) (at_+1) v1 (out++[b]) S1 G1 (by omega) (by omega) (by simp;omega) (by
    intro x hx;rcases jt.1 hx with hx|hx
    ·exact hok x hx
    ·simp at hx;subst hx;exact g1) g2
   exact⟨a2,j2,v2,o2,S2,G2,by omega,by simp at k2;omega,k3,k4,g3.trans k5⟩
  ·rw[ul.2 c]at hT;refine⟨at_,j,v,out,S,G,by omega,by omega,hok,hS,?_⟩;simp only[snC]at hT;rw[ZfM z7G.eq_1];simp[z9r,cwM,snC,hcj,hT,zg,zH]
theorem StB.up{n0:Nat}{out:List zk}{S:Cl}{G:Mem}(h:StB n0 out S G):StB 4 out S G/\∀{m:zD} {s:SnV} {v:Nat} {E:Env},E.all (fun x=>x.2.below 4)=true->jN 4 E (cwM m s v S G)=cwM m s v S G:=by
 cases h with
 |nil h=>exact⟨.nil rfl,fun hE=>z9E (by simp)⟩
 |own q hq hG hn=>exact⟨.own q hq hG (.inr ⟨by omega,by omega⟩),fun hE=>Z4 (by omega) (by omega)⟩
theorem StB.down{out:List zk}{S:Cl}{G:Mem}(h:StB 4 out S G):StB (G.length+4) out S G:=by
 cases h with
 |nil h=>exact .nil rfl
 |own q hq hG hn=>exact .own q hq hG (.inl rfl)
abbrev ZA(at_:Nat)(sp:Int)(pad:List Int)(i:Nat):Env:=[(10,.w (W at_)),(8,.w (Pt 2)),(3,.w (W sp)),(2,.w (.c (.jc (zu pad)))),(4,.w (Pt 0)),(5,.w (Pt 1)),(11,.w (W i)),(9,.w (Pt 3))]
abbrev Zbf(at_:Nat)(sp:Int)(pad:List Int)(i:Nat):Env:=[(27,.w (Bo false)),(10,.w (W at_)),(3,.w (W sp)),(8,.w (Pt 2)),(2,.w (.c (.jc (zu pad)))),(4,.w (Pt 0)),(5,.w (Pt 1)),(11,.w (W i)),(9,.w (Pt 3))]
theorem ZR(at_:Nat)(sp:Int)(pad:List Int)(i:Nat):(ZA at_ sp pad i).all (fun x=>x.2.below 4)=true:=by
 simp[AV.below,WV.below,WV.cells,Eng.below,uX]
theorem ZV{m:zD}(h:zcp m){a:AgV}(ha:WAg m a):∀x∈z2B m a,(0<=x.lane/\x.lane<m.je.length)/\0<=x.lo/\x.lo<=x.hi/\x.hi<=z8 m x.lane:=fun x hx=>by
 obtain⟨h1,h2,h3,h4,_⟩:=z8P a _ 0 x hx;exact⟨(ha.on h).1 _ h3,h2,h1,h4⟩
theorem ZaA{m:zD}(h:zcp m)(s:SnV)(hs:KSn m s)(sp:Int)(pad:List Int)(Cd:pad.length<=1000)(hpi:∀x∈pad,zk0 x)(i at_:Nat)(hi:i<s.agents.length)(hat:at_<=8*i)(v:Nat)(out:List zk)(ho:out.length<=8*i)(hok:∀b∈out,OKH b)(S:Cl)(G:Mem)(hS:StB 4 out S G) :
  ∃(at' v':Nat) (um:List zk) (S':Cl) (G':Mem),at'<=8*(i+1)/\um.length<=8*(i+1)/\(∀b∈um,OKH b)/\StB 4 um S' G' /\
  Y L Cs z7O (some [10,8,3,2,4,5,11,9]) 4 (ZA at_ sp pad i) (cwM m s v S G)=Y L Cs z7O (some [10,8,3,2,4,5,11,9]) 4 (ZA at' sp pad (i+1)) (cwM m s v' S' G'):=by
 have yz:=hs.few;have hw:=zB (i:=i) (by omega);have hci:(i:Int)<s.agents.length:=by omega
 have ha:=hs.ags _ (ja hi);have hB:=z5H h ha;have hl:=z38 h ha;obtain⟨a2,j2,v2,o2,S2,G2,k1,k2,k3,k4,k5⟩:=ZaD h s hs sp pad Cd hpi (z2B m s.agents[i]) (ZV h ha) hl i hi (G.length+4) (z2B m s.agents[i]).length 0 at_ v out S G (by omega) (by omega) (by omega) hok hS.down;obtain⟨u1,u2⟩:=k4.up;refine⟨a2,v2,o2,S2,G2,by omega,by omega,k3,u1,?_⟩;have hd:=u2 (m:=m) (s:=s) (v:=v2) (ZR a2 sp pad (i+1));have hdl:∀(E:Env),jN (G.length+4) E (cwM m s v S G)=cwM m s v S G:=fun E=>z9E (by simp)
 generalize hag:s.agents[i]=a at *;simp only[zf,agC]at hB;simp only[ZA,cwM,jP,j9,zf]at hd;simp only[cwM,zf]at hdl;simp only[z9r,Zbg,cwM,zf,jg]at k5;clear u2 hS k4 u1 hok k3;rw[ZfM z7O.eq_1];simp only[snC]at hd hdl k5;simp[ZA,cwM,zf,snC,agC,hi,hci,hag,hw,hB,hdl,k5,hd,zg,zH,-jN]
theorem ZaB{m:zD}(h:zcp m)(s:SnV)(hs:KSn m s)(sp:Int)(pad:List Int)(Cd:pad.length<=1000)(hpi:∀x∈pad,zk0 x):∀(f i at_ v:Nat) (out:List zk) (S:Cl) (G:Mem),i+f=s.agents.length->at_<=8*i->out.length<=8*i->(∀b∈out,OKH b)->StB 4 out S G ->
  ∃(at' v':Nat) (um:List zk) (S':Cl) (G':Mem),um.length<=64/\(∀b∈um,OKH b)/\StB 4 um S' G' /\
  Y L Cs z7O (some [10,8,3,2,4,5,11,9]) 4 (ZA at_ sp pad i) (cwM m s v S G)=some (.exit 0,Zbf at' sp pad s.agents.length,cwM m s v' S' G'):=by
 have yz:=hs.few;intro f;induction f with
 |zero =>
  intro i at_ v out S G hi hat ho hok hS;obtain rfl:i=s.agents.length:=by omega
  refine⟨at_,v,out,S,G,by omega,hok,hS,?_⟩;rw[ZfM z7O.eq_1];simp[ZA,cwM,snC]
 |succ f ih =>
  intro i at_ v out S G hi hat ho hok hS;obtain⟨a1,v1,o1,S1,G1,g1,g2,g3,g4,g5⟩:=ZaA h s hs sp pad Cd hpi i at_ (by omega) hat v out ho hok S G hS;obtain⟨a2,v2,o2,S2,G2,k1,k2,k3,k4⟩:=ih (i+1) a1 v1 o1 S1 G1 (by omega) g1 g2 g3 g4;exact⟨a2,v2,o2,S2,G2,k1,k2,k3,g5.trans k4⟩
theorem Zdt{m:zD}(h:zcp m)(hsh:zmX m)(s:SnV)(hs:KSn m s)(pad:List Int)(Cd:pad.length<=1000)(hpi:∀x∈pad,zk0 x)(sp:Int) :
  ∃k:zci,k.jV.length<=4000/\((∀b∈k.jV,OKB b)/\(∀b∈k.jV,b.hold=0)/\k.ego.shi<=9000000)/\k.tick=s.tick/\R L Cs z8D [.a (zf m),.a (snC s),.c (.jc (zu pad)),W sp] []=some (.w (.a (zG k)),[]):=by
 have qs:=hs.some;have yz:=hs.few;have ha:=hs.ags _ (ja qs);have hsa:=ha.s;have hse:=ha.yf h;have hsle:=ha.len;have e1:IntKind.i64.wrap 1=1:=rfl;obtain⟨at',v,out,S,G,g1,g2,g3,g4⟩:=ZaB h s hs sp pad Cd hpi (s.agents.length-1) 1 0 1 [] .jd [] (by omega) (by omega) (by simp) (by simp) (.nil rfl);have hJ:=zy7 out (by omega) (fun b hb=>(g2 b hb).1);have hjl:=zkq out;have hm:=zD0 sp 600 (by omega) (by omega);have hr:=zDJ sp 600 (by omega);generalize sp % 600=w at *;have t3:0<=w.tdiv 3/\w.tdiv 3<=200:=by rw[kZ hr.1];omega
 have wa:=ku (w.tdiv 3);generalize hag:s.agents[0]=a at *;have w1:=ku (a.s-w.tdiv 3);have w2:=ku (a.s+w);have w3:=ku (a.s+w-w.tdiv 3);generalize hv1:IntKind.i64.wrap (w.tdiv 90)=u1 at *;generalize hv2:IntKind.i64.wrap (w.tdiv 60)=u2 at *;generalize hv3:IntKind.i64.wrap (a.v-u1)=u3 at *;generalize hv4:IntKind.i64.wrap (a.v+u2)=u4 at *;obtain⟨bs,b1,⟨b2,b3⟩,hO⟩:=Zaj h hsh a.jf ha.jf a.len ⟨by have:=ha.len;omega,by have:=ha.len;omega⟩ ⟨s.tick,zcz out,⟨max 0 (a.s-w.tdiv 3),a.s+w-w.tdiv 3,max 0 u3,min 2000 u4⟩⟩ (by simp only;omega) (Zax (fun b hb=>(g2 b hb).1));refine⟨⟨s.tick,bs,⟨max 0 (a.s-w.tdiv 3),a.s+w-w.tdiv 3,max 0 u3,min 2000 u4⟩⟩,b1,⟨b2,b3 (ZdV (fun b hb=>(g2 b hb).2)),by simp only;omega⟩,rfl,?_⟩;generalize zcz out=J at *;simp only[zf,snC,zG,ZA,Zbf,cwM,cvZ,jg,j9]at g4 hO;rw[zUa z8G rfl];have hci:(0:Int)<s.agents.length:=by omega
 cases g3 with
 |nil hn =>
  have hJ0:R L Cs zlm [.c (.jc [])] []=some (.w (.c (.jc (zI J))),[]):=by simpa using hJ
  simp (maxSteps:=1000000) [z7Z,zf,snC,agC,zG,qs,hci,hag,g4,hJ0,hm,wa,w1,w2,w3,hv1,hv2,hv3,hv4,hO,zg,zH,zX]
 |own q hq hG hn =>
  have hql:q<G.length:=by by_cases c:q<G.length;exact c;rw[jK (by omega)]at hq;cases hq
  have hq':G[q]?=some (some { box:=false,esz:=6,rows:=zI out,gen:=out.length,fz:=false,ver:=out.length }):=hq;have htk:(zI out).take out.length=zI out:=jE (by simp);have hqq:∀(x:Option Blk),(G.set q x)[q]?=some x:=fun x=>kg hql
  have hE1:∀(y x:Option Blk) (N:Mem),(G.set q y++x::N)[G.length]?=some x:=fun y x N=>by rw[jX (by simp)];simp
  have hEs:∀(z x y:Option Blk) (N:Mem),(G.set q z++x::N).set G.length y=G.set q z++y::N:=fun z x y N=>by rw[ky _ _ (by simp)];simp
  clear hql hq;simp (maxSteps:=1000000) [z7Z,zf,snC,agC,zG,qs,hci,hag,g4,hJ,hm,wa,w1,w2,w3,hv1,hv2,hv3,hv4,hO,hq',hqq,htk,hE1,hEs,zg,zH,zX]
abbrev z7r:Sh:=.st [zmN,zmN,zmN,zmN,zmN,.bool]
theorem z7q{r:List Cl}(h:zfo z7r r):∃x,r=z3N x:=by
 simp only[zfo,znD]at h;obtain⟨_,_,rfl,⟨a1,rfl,q1⟩,_,_,rfl,⟨a2,rfl,q2⟩,_,_,rfl,⟨a3,rfl,q3⟩,_,_,rfl,⟨a4,rfl,q4⟩,_,_,rfl,⟨a5,rfl,q5⟩,_,_,rfl,⟨a6,rfl⟩,rfl⟩:=h;exact⟨⟨a1,a2,a3,a4,a5,a6⟩,rfl⟩
theorem z6p:∀{rows:List (List Cl)},(∀r∈rows,zfo z7r r)->∃l,rows=z32 l
 |[],_=>⟨[],rfl⟩
 |r::rows,h=>by
  obtain⟨b,rfl⟩:=z7q (h r (ju ..));obtain⟨l,rfl⟩:=z6p fun x hx=>h x (jy _ hx)
  exact⟨b::l,rfl⟩
def Zcg(l:List (List Int)):List (List Cl):=l.map fun a=>[.jc (zu a)]
@[simp] theorem ZeH(l:List (List Int)):(Zcg l).length=l.length:=by simp[Zcg]
@[simp] theorem Zd8{l:List (List Int)}{i:Nat}(h:i<(Zcg l).length):(Zcg l)[i]=[.jc (zu (l[i]'(by simpa using h)))]:=by simp[Zcg]
theorem Zeg{m:zD}{zs:List Zon}{ss:List Sgn}{sg:Bool}{s:SnV}{k:zci}(hs:KSn m s)(ht:s.tick=0)(hl:s.agents.length<=7)(hp:ZeX m zs sg s.agents)(hc:z4P m s k=true)(hh:∀b∈k.jV,b.hold=0)(hshi:k.ego.shi<=9000000):CnI m sg 0 s k:=by
 refine⟨hs,hl,hc,by rw[ht];rfl,hp.free,hp.all,fun j h0 hj hj0 hth=>?_,fun _ j hj hj0 hth b hb _ _ _=>.inl (hh b hb),by simpa using hshi⟩;have:=(ZcK hth).2;exact(hp.apart 0 j h0 hj hj0 (by rw[hp.own h0];omega) (by omega)).1
abbrev hiE(l:List Int)(x:Int)(k:Nat):Env:=[(0,.w (.c (.jc (zu l)))),(1,.w (W x)),(5,.w (W k))]
theorem ZgT(l:List Int)(hl:l.length<=1000)(x:Int):∀(f k:Nat),k+f=l.length ->
  Y L Cs Ze6 (some [0,1,5]) 0 (hiE l x k) []=if(l.drop k).contains x then some (.ret,[(4,.w (Bo true))],[]) else some (.exit 0,[(9,.w (Bo false)),(1,.w (W x)),(0,.w (.c (.jc (zu l)))),(5,.w (W l.length))],[]):=by
 intro f;induction f with
 |zero =>
  intro k hk;obtain rfl:k=l.length:=by omega
  rw[ZfM Ze6.eq_1];simp[hiE]
 |succ f ih =>
  intro k hk;have hkl:k<l.length:=by omega
  have hck:(k:Int)<l.length:=by omega
  have hw:=zB (i:=k) (by omega);rw[ki hkl,List.contains_cons];generalize hz:l[k]=z at *;by_cases c:z=x
  ·have cb:(z==x)=true:=by simp[c]
   have cb2:(x==z)=true:=by simp[c]
   rw[cb2,Bool.true_or,if_pos rfl,ZfM Ze6.eq_1];simp[hiE,hkl,hck,hz,cb]
  ·have cb:(z==x)=false:=by simp[c]
   have cb2:(x==z)=false:=by simp[qK c]
   rw[cb2,k7,<-ih (k+1) (by omega),ZfM Ze6.eq_1];simp[hiE,hkl,hck,hz,cb,hw]
theorem ZgP(l:List Int)(hl:l.length<=1000)(x:Int):R L Cs ZfU [.c (.jc (zu l)),W x] []=some (.w (Bo (l.contains x)),[]):=by
 have h:=ZgT l hl x l.length 0 (by omega);simp only[hiE,uc,jg]at h;rw[zUa ZfV rfl];cases c:l.contains x with
 |true =>
  rw[c,if_pos rfl]at h;simp[Ze7,h]
 |false =>
  rw[c,if_neg (by decide)]at h;simp[Ze7,h]
theorem Zg8(rows:List (List Int))(i:Nat):R L Cs ZfY [.c (.jc (Zcg rows)),W i] []=some (.w (.c (.jc (zu (rows.getD i [])))),[]):=by
 rw[zUa Zf0 rfl];have h0:¬(i:Int)<0:=by omega
 by_cases c:i<rows.length
 ·have c1:¬(rows.length:Int)<=i:=by omega
  have c2:(i:Int)<rows.length:=by omega
  simp[Ze8,h0,c,c1,c2,zg,zX]
 ·have c1:(rows.length:Int)<=i:=by omega
  have e:rows[i]?.getD []=[]:=by simp[c]
  simp[Ze8,h0,c1,e,zg,zX]
def obS(sg:Bool)(x:z45):z45:=⟨x.r,x.s,x.v,x.len,x.start,x.dis && !sg⟩
def obT(sg:Bool)(l:List z45)(i:Nat):List z45:=(l.take i).map (obS sg)++l.drop i
theorem ZgC(sg:Bool)(l:List z45)(i:Nat):(obT sg l i).length=l.length:=by simp[obT];omega
theorem ZgR(sg:Bool)(l:List z45)(i:Nat)(h:i<l.length):(obT sg l i)[i]'(by rw[ZgC];exact h)=l[i]:=by
 unfold obT;rw[yN (by simp;omega)];simp
 congr 1
 omega
theorem ZgQ(sg:Bool)(l:List z45)(i:Nat)(h:i<l.length):(obT sg l i).set i (obS sg l[i])=obT sg l (i+1):=by
 unfold obT;have h1:((l.take i).map (obS sg)).length=i:=by simp;omega
 rw[ky _ _ (by omega),h1,Ag,ki h,yG,vK h,uL,jF];rfl
abbrev Zgv(n i:Nat)(up hold sp:Int)(pad rows:List (List Cl))(sg:Bool):Env:=[(22,.w (W i)),(7,.w (.c (.jc rows))),(19,.w (Pt 1)),(20,.w (Pt 2)),(6,.w (W hold)),(5,.w (W up)),(4,.w (W sp)),(3,.w (.c (.jc pad))),(21,.w (.c (.slice 3 n 6 0 n none))),(8,.w (Bo sg))]
abbrev Zgu(b0 b1 b2:Option Blk)(sg:Bool)(l:List z45)(i:Nat):Mem:=[b0,b1,b2,some { box:=false,esz:=6,rows:=z32 (obT sg l i),gen:=l.length,fz:=false,ver:=l.length+i }]
theorem ZgL(b0 b1 b2:Option Blk)(up hold sp:Int)(pad rows:List (List Cl))(sg:Bool)(l:List z45)(hl:l.length<=7)(i:Nat)(hi:i<l.length):Y L Cs Ze4 (some [22,7,19,20,6,5,4,3,21,8]) 4 (Zgv l.length i up hold sp pad rows sg) (Zgu b0 b1 b2 sg l i)=Y L Cs Ze4 (some [22,7,19,20,6,5,4,3,21,8]) 4 (Zgv l.length (i+1) up hold sp pad rows sg) (Zgu b0 b1 b2 sg l (i+1)):=by
 have hw:=zB (i:=i) (by omega);have hci:(i:Int)<l.length:=by omega
 have hlen:=ZgC sg l i;have hg:=ZgR sg l i hi;have hs:(z32 (obT sg l i)).set i (z3N (obS sg l[i]))=z32 (obT sg l (i+1)):=by rw[Zdw,ZgQ sg l i hi]
 have hil:i<(obT sg l i).length:=by omega
 have hv:l.length+(i+1)=l.length+i+1:=by omega
 generalize hx:l[i]=x at *;simp only[z3N,obS]at hs;rw[ZfM Ze4.eq_1];cases hd:x.dis<;>cases sg<;>simp only[hd,yZ,yJ,Bool.and_true,Bool.and_false]at hs<;>simp[Zgv,Zgu,z3N,hi,hci,hlen,hil,hg,hs,hw,hv,hd]
theorem ZgM(b0 b1 b2:Option Blk)(up hold sp:Int)(pad rows:List (List Cl))(sg:Bool)(l:List z45)(hl:l.length<=7):∀(f i:Nat),i+f=l.length->Y L Cs Ze4 (some [22,7,19,20,6,5,4,3,21,8]) 4 (Zgv l.length i up hold sp pad rows sg) (Zgu b0 b1 b2 sg l i)=some (.exit 0,(57,.w (Bo false))::Zgv l.length l.length up hold sp pad rows sg,Zgu b0 b1 b2 sg l l.length):=by
 intro f;induction f with
 |zero =>
  intro i hi;obtain rfl:i=l.length:=by omega
  rw[ZfM Ze4.eq_1];simp[Zgv,Zgu]
 |succ f ih =>
  intro i hi;rw[ZgL b0 b1 b2 up hold sp pad rows sg l hl i (by omega)];exact ih (i+1) (by omega)
abbrev Zgt(x1 x2 x3 x4 x5 x6:AV)(cs:List CrV)(k:Nat):Env:=[(32,.w (W k)),(23,x1),(19,x2),(26,x3),(7,x4),(27,x5),(29,x6),(30,.w (.c (.jc (ZbD cs))))]
theorem Zgm(x1 x2 x3 x4 x5 x6:AV)(M:Mem)(n0:Nat)(hn:M.length<=n0)(cs:List CrV)(hcl:cs.length<=200)(hno:∀c∈cs,(0:Int)∉c.who/\c.who.length<=2):∀(f k:Nat),k+f=cs.length ->
  Y L Cs Ze3 (some [32,23,19,26,7,27,29,30]) n0 (Zgt x1 x2 x3 x4 x5 x6 cs k) M=if(cs.drop k).any (fun c=>decide (c.a=0)) then some (.ret,[(18,.w (Bo true))],M) else some (.exit 4,(169,.w (Bo false))::Zgt x1 x2 x3 x4 x5 x6 cs cs.length,M):=by
 intro f;induction f with
 |zero =>
  intro k hk;obtain rfl:k=cs.length:=by omega
  rw[ZfM Ze3.eq_1];simp[Zgt]
 |succ f ih =>
  intro k hk;have hkl:k<cs.length:=by omega
  have hck:(k:Int)<cs.length:=by omega
  have hw:=zB (i:=k) (by omega);have haw:=Pl.B5;obtain⟨h1,h2⟩:=hno _ (ja hkl);have hH:=ZgP cs[k].who (by omega) 0;have hb:cs[k].who.contains 0=false:=by rw[<-uC,vU];exact h1
  rw[hb]at hH;have hd:∀E,jN n0 E M=M:=fun E=>ZcL hn
  rw[ki hkl,uq];by_cases c:cs[k].a=0
  ·rw[decide_eq_true c,Bool.true_or,if_pos rfl,ZfM Ze3.eq_1];simp[Zgt,crC,hkl,hck,hH,c,haw,hd,-jN]
  ·have cb:(cs[k].a==0)=false:=by simp[c]
   rw[decide_eq_false c,k7,<-ih (k+1) (by omega),ZfM Ze3.eq_1];simp[Zgt,crC,hkl,hck,hH,c,cb,hw,hd,-jN]
open Go Go.Eng Go.PlanLaw
theorem zUm(m:zD)(zs:List Zon)(ss:List Sgn)(r:List Int)(c:zK8)(k:zci)(p:List Int)(signals:Bool):(zOk m zs ss r c k p signals).1=true <->
  zKW m r c k=true/\vh c p=0/\(zKr m zs ss r c.len (zKh m zs 0 r) (pvV m zs r) signals p 0 k).1=none/\fbF m r p k.tick k.ego=none/\zLQ c.len (pvV m zs r) (zKr m zs ss r c.len (zKh m zs 0 r) (pvV m zs r) signals p 0 k).2=true:=by
 unfold zOk;by_cases h:zKW m r c k=true/\vh c p=0
 ·rw[if_pos h];unfold zNw zLH;generalize zKr m zs ss r c.len (zKh m zs 0 r) (pvV m zs r) signals p 0 k=V;obtain⟨v1,v2⟩:=V;cases v1 with
  |none =>
   simp only;by_cases hs:zLQ c.len (pvV m zs r) v2=true
   ·rw[if_pos hs];cases fbF m r p k.tick k.ego with
    |none=>simp[zKX,h,hs]
    |some b=>simp[zKX]
   ·rw[if_neg hs];cases fbF m r p k.tick k.ego with
    |none=>simp[zKX,hs]
    |some b=>simp[zKX]
  |some x =>
   obtain⟨x1,x2⟩:=x;cases fbF m r p k.tick k.ego with
   |none=>simp[zKX]
   |some b =>
    simp only[zKX];split<;>simp
 ·rw[if_neg h];constructor
  ·intro q;cases q
  ·rintro⟨h1,h2,_⟩;exact absurd ⟨h1,h2⟩ h
theorem Zgr{m:zD}{r:List Int}{a:Int}(ha:a<=0):zcD m r a 0=0:=by
 have hcl:zgH m r a<=0:=by
  unfold zgH zif zd4
  repeat' split
  all_goals omega
 have:0<=zeR (zaK m (r.getD 0 0)):=by unfold zeR;(repeat' split)<;>omega
 unfold zcD;omega
def ZgF(m:zD)(zs:List Zon)(s:SnV)(bs:List AgV):Prop:=∀(j:Nat) (h0:0<s.agents.length) (hb0:0<bs.length) (hj:j<s.agents.length) (hjb:j<bs.length),0<j->thA s.tick s.agents[j]=true->(∀z,z<zs.length->ZcH m zs s.agents[0] s.agents[j] bs[0] bs[j] z=false)/\∀l:Nat,l<m.je.length->lnB m s.agents[0] s.agents[j] bs[0] bs[j] l=true->¬s.agents[0].s-ZbS m s.agents[0].jf l<s.agents[j].s-ZbS m s.agents[j].jf l
theorem ZgX{m:zD}{zs:List Zon}{ss:List Sgn}(hF:z7y m zs ss)(hFr:zKj m zs ss)(hcon:∀r,zdA m r=0->∀z:Nat,z<zs.length->zTY (zKh m zs 0 r) z=true){sg:Bool}{i:Nat}{s:SnV}{k:zci}(hI:CnI m sg i s k)(qs:0<s.agents.length){jL:List Int}{bs:List AgV}
  (hbl:bs.length=s.agents.length) (hM:∀(j:Nat) (h1:j<s.agents.length) (h2:j<bs.length),MvS m zs ss s.tick (jL.getD j 0) s.agents[j] bs[j]) (hlen:1<=s.agents[0].s-s.agents[0].len) (A6:s.agents[0].gone=false) (hb0:0<bs.length) (AB:jL.getD 0 0<=0)
  (hst:zLQ s.agents[0].len (pvV m zs s.agents[0].jf) k=true):ZgF m zs s bs/\bs[0].v=0:=by
 have hf:=hF.full;have hs:=hI.ks;obtain⟨q1,q2,q3,q4,q5⟩:=Zck.1 hI.cov;have htk:=hI.tick;have ha0:=hs.ags _ (ja qs);have hg0:s.agents.getD 0 z3O=s.agents[0]:=by simp[qs]
 rw[hg0]at q4;have Cc:=hs.first;have BA:thA s.tick s.agents[0]=true:=Zd7 (by omega) A6;obtain⟨ho,he⟩:=ZeT hf ha0 (hI.free qs) (hM 0 qs hb0) BA q4;have hm0:=((hM 0 qs hb0).here BA).1;have hl0:=ha0.len;have hs0':=hm0.s;have hp0':=hm0.pos;unfold zLQ at hst;simp only[jh,decide_eq_true_eq,kR]at hst;obtain⟨hv0,hvis⟩:=hst;have hvh:(zaN m s.agents[0].jf k.ego (jL.getD 0 0)).vhi=0:=by
  show zcD m s.agents[0].jf (jL.getD 0 0) k.ego.vhi=0;rw[hv0];exact Zgr AB
 unfold z7p at he;simp only[jh,decide_eq_true_eq]at he;have hv:bs[0].v=0:=by omega
 have hse:bs[0].s=s.agents[0].s:=by omega
 have e1:=ho.sl;have e2:=ho.sh;rw[zRZ,zT2 hFr (hcon _ ha0.jf) _ _ _ (by omega) (by omega)]at hvis;refine⟨fun j _ _ hj hjb hj0 hth=>⟨fun z hz=>?_,fun l hl hb hlt=>?_⟩,hv⟩
 ·cases hzb:ZcH m zs s.agents[0] s.agents[j] bs[0] bs[j] z with
  |false=>rfl
  |true =>
   exfalso;unfold ZcH at hzb;simp only[jh]at hzb;obtain⟨p,hp,p1,p2,p3⟩:=ZfR hzb.1;have:=kK.1 hvis p hp;simp only[jh,decide_eq_true_eq]at this;exact this ⟨by omega,by omega⟩
 ·have ha:=hs.ags _ (ja hj);obtain⟨hm,_⟩:=(hM j hj hjb).here hth;have hto:=hI.apart j qs hj hj0 hth;unfold lnB at hb;simp only[jh]at hb;obtain⟨b1,b2,b3⟩:=hb;rw[if_pos hlt]at b3;unfold Zed at b3;simp only[jh,decide_eq_true_eq]at b3;obtain⟨c1,c2,c3,c4,c5⟩:=b3;rw[hse]at c1 c5;have hnl:=zcX hf.qe (x:=(l:Int)) ⟨by omega,by omega⟩;have hms:=hm.s;have hmp:=hm.pos;exact Zgn hto ⟨by omega,hm.len⟩ (by omega) (by have:=ha.len;omega) (by omega) b1 b2 hlt c1 c3 c4 c5
structure FlI(m:zD)(zs:List Zon)(ss:List Sgn)(sg:Bool)(p:List Int)(i:Nat)(s:SnV)(k:zci):Prop where
 cn:CnI m sg i s k
 zfree:Zgx m zs s
 pop:0<s.agents.length
 outs:1<=s.agents[0].s-s.agents[0].len
 stays:s.agents[0].gone=false
 left:i<=p.length
 vok:(zKr m zs ss s.agents[0].jf s.agents[0].len (zKh m zs 0 s.agents[0].jf) (pvV m zs s.agents[0].jf) sg (p.drop i) i k).1=none
 vst:zLQ s.agents[0].len (pvV m zs s.agents[0].jf) (zKr m zs ss s.agents[0].jf s.agents[0].len (zKh m zs 0 s.agents[0].jf) (pvV m zs s.agents[0].jf) sg (p.drop i) i k).2=true
theorem Zgk{m:zD}{zs:List Zon}{s:SnV}{bs:List AgV}(h:ZgF m zs s bs){cs:List CrV}(hcw:∀c∈cs,∃u k,u<k/\CrW m zs s bs u k c):∀c∈cs,(0:Int)∉c.who/\c.who.length<=2:=by
 intro c hc;obtain⟨u,k,huk,e1,e2,e3,e4⟩:=hcw c hc;refine⟨fun h0=>?_,e3⟩;have hu:u=0:=by
  rcases e2 0 h0 with h|h<;>omega
 subst hu;obtain⟨h1,h2,h3,h4,g1,g2,g3⟩:=e4 h0 (by omega);obtain⟨a1,a2⟩:=h k h1 h3 h2 h4 huk g2;rcases g3 with⟨l,l1,l2,l3⟩ |⟨z,z1,z2⟩
 ·exact a2 l l1 l2 l3
 ·rw[a1 z z1]at z2;exact absurd z2 (by decide)
theorem ZgZ{p:List Int}{i:Nat}(h:i<p.length):Pl.Be p i=p[i]:=by
 unfold Pl.Be;rw[if_neg (by omega),show(max 0 (min (i:Int) ((p.length:Int)-1))).toNat=i by omega];simp[h]
theorem ZgO{p:List Int}(h:p≠[]):Pl.Be p p.length=p.getLastD 0:=by
 have hl:=kj.2 h;unfold Pl.Be;rw[if_neg (by omega),show(max 0 (min (p.length:Int) ((p.length:Int)-1))).toNat=p.length-1 by omega,yL,yM]
theorem ZgW{m:zD}{zs:List Zon}{ss:List Sgn}(hF:z7y m zs ss)(hFr:zKj m zs ss)(hZ:Zgw m zs)(hcon:∀r,zdA m r=0->∀z:Nat,z<zs.length->zTY (zKh m zs 0 r) z=true){sg:Bool}{p:List Int}(hp:p≠[])(hpl:p.length<=60)(uf:p.getLastD 0<=0){i:Nat}{s:SnV}{k:zci}(h:FlI m zs ss sg p i s k){jL:List Int}{bs:List AgV}{ins:List z2T}(AB:jL.getD 0 0=Pl.Be p i)
  (hbl:bs.length=s.agents.length) (hM:∀(j:Nat) (h1:j<s.agents.length) (h2:j<bs.length),MvS m zs ss s.tick (jL.getD j 0) s.agents[j] bs[j]) (hO:ZbX s.agents.length m.kr.length s.tick s.agents.length 0 ins)
  {cs:List CrV} (hcw:∀c∈cs,∃u k,u<k/\CrW m zs s bs u k c) (hcr:∀u k,u<k->k<s.agents.length->ZcG m zs s bs u k->∃c∈cs,c.a=u) :
  (∀c∈cs,(0:Int)∉c.who/\c.who.length<=2)/\(cs.any (fun c=>decide (c.a=0))=false->i<p.length/\(∃k',FlI m zs ss sg p (i+1) ⟨s.tick+1,bs,ins⟩ k')\/i=p.length/\∃hb:0<bs.length,bs[0].v=0):=by
 have Bq:=h.pop;have hb0:0<bs.length:=by omega
 have hle:=h.left;rcases kD i p.length with hi|hi
 ·have hvk:=h.vok;have hvs:=h.vst;rw[ki hi]at hvk hvs;rw[ZgZ hi]at AB;rw[zKr]at hvk hvs;by_cases c:zMi m zs ss s.agents[0].jf s.agents[0].len (zKh m zs 0 s.agents[0].jf) (pvV m zs s.agents[0].jf) k (zEt m zs ss s.agents[0].jf s.agents[0].len sg k p[i]) (zKu m zs ss s.agents[0].jf s.agents[0].len sg k p[i])=0
  ·rw[if_pos c]at hvk hvs;have hV:=Zgy c;rw[<-AB]at hV;obtain⟨hA,hB⟩:=ZgV hF hZ (by omega) h.cn h.zfree h.pop hbl hM hO h.outs h.stays hb0 hV;refine⟨Zgk (fun j _ _ hj hjb hj0 hth=>hA j hj hjb hj0 hth) hcw,fun hno=>.inl ⟨hi,zEt m zs ss s.agents[0].jf s.agents[0].len sg k p[i],?_⟩⟩;obtain⟨r1,r2,r3,r4,r5,r6⟩:=hB fun j hj0 hj hc=>by
    obtain⟨c,hc1,hc2⟩:=hcr 0 j hj0 hj hc;have:=kK.1 hno c hc1;simp[hc2]at this
   have hnx:zpg m zs ss s.agents[0].jf s.agents[0].len k (zaN m s.agents[0].jf k.ego (jL.getD 0 0)) sg=zEt m zs ss s.agents[0].jf s.agents[0].len sg k p[i]:=by rw[AB]
   rw[hnx]at r1;refine⟨r1,r2,hb0,r3,r4,hi,?_,?_⟩
   ·simp only[r5,r6];exact hvk
   ·simp only[r5,r6];exact hvs
  ·rw[if_neg c]at hvk;cases hvk
 ·obtain rfl:i=p.length:=by omega
  have hvs:=h.vst;rw[List.drop_length]at hvs;simp only[zKr]at hvs;rw[ZgO hp]at AB;obtain⟨hA,hB⟩:=ZgX hF hFr hcon h.cn h.pop hbl hM h.outs h.stays hb0 (by omega) hvs;exact⟨Zgk hA hcw,fun _=>.inr ⟨rfl,hb0,hB⟩⟩
theorem zSv(v a:Int)(hv:0<=v/\v<=2000)(ha:-2000<=a/\a<=2000):R L Cs zSt [W v,W a] []=some (.w (W (doV v a)),[]):=by
 have w0:=ku (v+a);have e:doV v a=max 0 (min (v+a) 2000):=by unfold doV;omega
 rw[e,zUa zSw rfl];simp[zSk,w0]
theorem zS3(v x:Int):doV v (max (-2000) (min x 2000))=doV v x:=by unfold doV;omega
abbrev slI(id:Nat)(l:List Int):WV:=.c (.slice id l.length 1 0 l.length none)
abbrev owI(l:List Int):Option Blk:=some (own 1 (zu l))
abbrev rsE(a v:Int)(l:List Int):Env:=[(1,.w (W a)),(2,.w (W v)),(7,.w (slI 2 l)),(3,.w (Pl.Pt 0))]
theorem zST{c:Car}(hc:c.ok):∀(f:Nat) (l:List Int) (a v:Int) (r:List Int),zGI c f (decide (l.length=0)) a v=some r->l.length+f<=1000->0<=v/\v<=2000 ->
  ∃a' v',Y L Cs zSh (some [1,2,7,3]) 3 (rsE a v l) [bx 5 (Pl.kY c),gb 1,owI l]=some (.exit 0,(24,.w (Bo false))::rsE a' v' (l++r),[bx 5 (Pl.kY c),gb 1,owI (l++r)]):=by
 intro f;induction f with
 |zero=>intro l a v r h;cases h
 |succ f ih =>
  intro l a v r h hf hv;have Bu:=hc;obtain⟨q1,q2,q3,q4,q5,q6,q7,q8,q9,q10⟩:=Bu;rw[zF7]at h;by_cases cnd:(decide (l.length=0)=true)\/0<v\/0<a
  ·rw[if_pos cnd]at h;obtain⟨r',hr',rfl⟩:=jb.1 h;have hx:=zNt hc a (-c.qj);have hd:=zG1 v (zFX c a (-c.qj));have hS:=zSv v (zFX c a (-c.qj)) hv (by omega);have hR:=Pl.A3 hc a (-c.qj);have w0:=ku (-c.qj);simp only[Pl.kY]at hR;generalize zFX c a (-c.qj)=x at *;obtain⟨a',v',h⟩:=ih (l++[x]) x (doV v x) r' (by rw[show decide ((l++[x]).length=0)=false by simp];exact hr') (by simp;omega) hd;refine⟨a',v',?_⟩;rw[show l++x::r'=l++[x]++r' by simp,<-h];have jZ:(l.length+1)*8<=140737488355328:=by omega
   rw[ZfM zSh.eq_1];by_cases e1:l.length=0
   ·have e2:l=[]:=kA e1;subst e2;simp[rsE,slI,owI,own,Pl.kY,w0,hR,hS]
   ·have e0:((l.length:Int)==0)=false:=by rw[beq_eq_false_iff_ne];omega
    by_cases e2:0<v
    ·simp[rsE,slI,owI,own,Pl.kY,w0,hR,hS,e0,e1,e2,jZ]
    ·have e3:0<a:=by
      rcases cnd with q|q|q
      ·exact absurd (of_decide_eq_true q) e1
      ·omega
      ·exact q
     simp[rsE,slI,owI,own,Pl.kY,w0,hR,hS,e0,e1,e2,e3,jZ]
  ·rw[if_neg cnd]at h;obtain rfl:=yi h;have e1:¬l.length=0:=fun e=>cnd (.inl (by simp[e]))
   have e2:¬0<v:=fun e=>cnd (.inr (.inl e))
   have e3:¬0<a:=fun e=>cnd (.inr (.inr e))
   have e0:((l.length:Int)==0)=false:=by rw[beq_eq_false_iff_ne];omega
   refine⟨a,v,?_⟩;rw[ZfM zSh.eq_1];simp[rsE,slI,owI,own,Pl.kY,e0,e1,e2,e3]
theorem zSH{c:Car}(hc:c.ok)(a v:Int):R L Cs zSu [.a (Pl.kY c),W a,W v] []=some (.w (.c (.jc (zu (stops c a (max 0 (min v 2000)))))),[]):=by
 have h1:=Pl.AG hc;obtain⟨h2,_,h4⟩:=zMs hc a (max 0 (min v 2000)) (by omega) (by omega);obtain⟨a',v',h3⟩:=zST hc 111 [] a (max 0 (min v 2000)) _ h2 (by simp) (by omega);generalize stops c a (max 0 (min v 2000))=r at *;simp only[Pl.kY]at h1;simp only[rsE,owI,slI,own,Pl.kY,zay,js,jk,jg]at h3;rw[zUa zSx rfl];simp[zSl,Pl.kY,h1,h3,zg]
abbrev rpM(c:Car)(l:List Int):Mem:=[bx 5 (Pl.kY c),bx 1 [.jd],owI l]
abbrev zS2(q:List Int)(up hold:Nat)(i:Nat)(s:Drv):Env:=[(2,.w (W s.last)),(13,.w (slI 2 s.l)),(3,.w (W s.v)),(14,.w (W i)),(6,.w (Pl.Pt 0)),(5,.w (W hold)),(12,.w (Pl.Pt 1)),(4,.w (W up)),(1,.w (.c (.jc (zu q))))]
abbrev zS5(q:List Int)(up hold:Nat)(i:Nat)(s:Drv):Env:=[(31,.w (Bo false)),(2,.w (W s.last)),(13,.w (slI 2 s.l)),(3,.w (W s.v)),(14,.w (W i)),(6,.w (Pl.Pt 0)),(5,.w (W hold)),(12,.w (Pl.Pt 1)),(4,.w (W up)),(1,.w (.c (.jc (zu q))))]
theorem zSS(c:Car)(q:List Int)(hql:q.length<=1000)(up hold:Nat):∀(r:List Int) (i:Nat) (s:Drv),(q.take 5).drop i=r->i<=(q.take 5).length->s.l.length<=i->0<=s.v/\s.v<=2000 ->
  Y L Cs zSf (some [2,13,3,14,6,5,12,4,1]) 3 (zS2 q up hold i s) (rpM c s.l)=some (.exit 0,zS5 q up hold (q.take 5).length (Drv.queue r s),rpM c (Drv.queue r s).l):=by
 intro r;induction r with
 |nil =>
  intro i s hd hi hs hv;obtain rfl:=zUb hd hi;rw[ZfM zSf.eq_1];by_cases e:q.length<=5
  ·have e1:(q.take 5).length=q.length:=by simp;omega
   rw[e1];simp[zS2,zS5,rpM,Drv.queue]
  ·have e1:(q.take 5).length=5:=by simp;omega
   have e2:(5:Int)<q.length:=by omega
   have e3:5<q.length:=by omega
   rw[e1];simp[zS2,zS5,rpM,Drv.queue,e2,e3]
 |cons x r ih =>
  intro i s hd hi hs hv;obtain⟨hil,hx,hd'⟩:=zL hd;have h5:i<5/\i<q.length:=by simp at hil;omega
  have hx':q[i]'(h5.2)=x:=by rw[<-hx];simp
  have yx:=ih (i+1) (s.AO x) hd' hil (by simp[Drv.AO];omega) (zG1 ..);have hw:=zB (i:=i) (by omega);have hS:=zSv s.v (max (-2000) (min x 2000)) hv (by omega);rw[zS3]at hS;have jZ:(s.l.length+1)*8<=140737488355328:=by omega
  have h5':(i:Int)<5:=by omega
  have h6':(i:Int)<q.length:=by omega
  have h6:=h5.2;rw[Drv.queue,<-yx,ZfM zSf.eq_1];simp[zS2,rpM,slI,owI,own,Pl.kY,h5',h6',h6,hx',hS,hw,jZ,Drv.AO]
abbrev zS1(hold n:Nat)(i:Nat)(s:Drv):Env:=[(2,.w (W s.last)),(13,.w (slI 2 s.l)),(3,.w (W s.v)),(15,.w (W i)),(4,.w (W n)),(12,.w (Pl.Pt 1)),(5,.w (W hold)),(6,.w (Pl.Pt 0))]
theorem zSR{c:Car}(hc:c.ok)(hold n:Nat)(hn:n<=20):∀(t i:Nat) (s:Drv),i+t=n->s.l.length<=5+i->0<=s.v/\s.v<=2000 ->
  Y L Cs zSe (some [2,13,3,15,4,12,5,6]) 3 (zS1 hold n i s) (rpM c s.l)=some (.exit 2,(59,.w (Bo false))::zS1 hold n n (Drv.uY c c.qO t s),rpM c (Drv.uY c c.qO t s).l):=by
 intro t;induction t with
 |zero =>
  intro i s hi hs hv;obtain rfl:i=n:=by omega
  rw[ZfM zSe.eq_1];simp[zS1,rpM,Drv.uY]
 |succ t ih =>
  intro i s hi hs hv;have yx:=ih (i+1) (s.AO (zFX c s.last c.qO)) (by omega) (by simp[Drv.AO];omega) (zG1 ..);have hw:=zB (i:=i) (by omega);have hx:=zNt hc s.last c.qO;have hR:=Pl.A3 hc s.last c.qO;have Bu:=hc;obtain⟨q1,q2,q3,q4,q5,q6,q7,q8,q9,q10⟩:=Bu;have hS:=zSv s.v (zFX c s.last c.qO) hv (by omega);have jZ:(s.l.length+1)*8<=140737488355328:=by omega
  have h5:(i:Int)<n:=by omega
  have h5':(i:Int)<20:=by omega
  have h6:i<20:=by omega
  have h7:i<n:=by omega
  rw[Drv.uY,<-yx,ZfM zSe.eq_1];generalize zFX c s.last c.qO=x at *;simp only[Pl.kY]at hR;simp[zS1,rpM,slI,owI,own,Pl.kY,h5,h5',h6,h7,hR,hS,hw,jZ,Drv.AO]
abbrev zS0(n:Nat)(i:Nat)(s:Drv):Env:=[(2,.w (W s.last)),(13,.w (slI 2 s.l)),(3,.w (W s.v)),(16,.w (W i)),(5,.w (W n)),(12,.w (Pl.Pt 1)),(6,.w (Pl.Pt 0))]
theorem zSQ{c:Car}(hc:c.ok)(n:Nat)(hn:n<=20):∀(t i:Nat) (s:Drv),i+t=n->s.l.length<=25+i->0<=s.v/\s.v<=2000 ->
  Y L Cs zSd (some [2,13,3,16,5,12,6]) 3 (zS0 n i s) (rpM c s.l)=some (.exit 4,(80,.w (Bo false))::zS0 n n (Drv.uY c 0 t s),rpM c (Drv.uY c 0 t s).l):=by
 intro t;induction t with
 |zero =>
  intro i s hi hs hv;obtain rfl:i=n:=by omega
  rw[ZfM zSd.eq_1];simp[zS0,rpM,Drv.uY]
 |succ t ih =>
  intro i s hi hs hv;have yx:=ih (i+1) (s.AO (zFX c s.last 0)) (by omega) (by simp[Drv.AO];omega) (zG1 ..);have hw:=zB (i:=i) (by omega);have hx:=zNt hc s.last 0;have hR:=Pl.A3 hc s.last 0;have Bu:=hc;obtain⟨q1,q2,q3,q4,q5,q6,q7,q8,q9,q10⟩:=Bu;have hS:=zSv s.v (zFX c s.last 0) hv (by omega);have jZ:(s.l.length+1)*8<=140737488355328:=by omega
  have h5:(i:Int)<n:=by omega
  have h5':(i:Int)<20:=by omega
  have h6:i<20:=by omega
  have h7:i<n:=by omega
  rw[Drv.uY,<-yx,ZfM zSd.eq_1];generalize zFX c s.last 0=x at *;simp only[Pl.kY]at hR;simp[zS0,rpM,slI,owI,own,Pl.kY,h5,h5',h6,h7,hR,hS,hw,jZ,Drv.AO]
theorem zSy{c:Car}{w:Int}:∀{n:Nat} {s:Drv},0<=s.v/\s.v<=2000->0<=(Drv.uY c w n s).v/\(Drv.uY c w n s).v<=2000
 |0,s,h=>h
 |n+1,s,h=>zSy (n:=n) (zG1 s.v _)
theorem zSD:∀{q:List Int} {s:Drv},0<=s.v/\s.v<=2000->0<=(Drv.queue q s).v/\(Drv.queue q s).v<=2000
 |[],s,h=>h
 |x::q,s,h=>zSD (q:=q) (zG1 s.v _)
theorem zSO{c:Car}(hc:c.ok)(q:List Int)(hql:q.length<=1000)(last v:Int)(up hold:Nat)(hu:up<=20)(hh:hold<=20) :
  R L Cs zSq [.a (Pl.kY c),.c (.jc (zu q)),W last,W v,W up,W hold] []=some (.w (.a [.jc (zu (Bg c q last (max 0 (min v 2000)) up hold))]),[]):=by
 have h0:=Pl.AG hc;have hv:0<=max 0 (min v 2000)/\max 0 (min v 2000)<=2000:=by omega
 generalize hvv:max 0 (min v 2000)=v' at hv;have ht5:(q.take 5).length<=5:=by simp;omega
 have hl1:(Drv.queue (q.take 5) (Drv.mk last v' [])).l.length=(q.take 5).length:=by rw[Drv.AX];simp
 have h1:=zSS c q hql up hold (q.take 5) 0 (Drv.mk last v' []) rfl (jD _) (by simp) hv;have g1:=zSD (q:=q.take 5) (s:=Drv.mk last v' []) hv;unfold Bg;generalize Drv.queue (q.take 5) (Drv.mk last v' [])=s1 at *;have h2:=zSR hc hold up hu up 0 s1 (by omega) (by omega) g1;have g2:=zSy (c:=c) (w:=c.qO) (n:=up) g1;have hl2:=Drv.y8 (c:=c) (w:=c.qO) (n:=up) (s:=s1);simp only[];generalize Drv.uY c c.qO up s1=s2 at *;have h3:=zSQ hc hold hh hold 0 s2 (by omega) (by omega) g2;have g3:=zSy (c:=c) (w:=0) (n:=hold) g2;have hl3:=Drv.y8 (c:=c) (w:=0) (n:=hold) (s:=s2);generalize Drv.uY c 0 hold s2=s3 at *;have h4:=zSH hc s3.last s3.v;rw[show max 0 (min s3.v 2000)=s3.v by omega]at h4;have h5:=zMs hc s3.last s3.v g3.1 g3.2;generalize stops c s3.last s3.v=st at *;simp only[zS2,zS5,zS1,zS0,rpM,slI,owI,own,Pl.kY,zay,zfq,js,jg]at h0 h1 h2 h3 h4;have jZ:(s3.l.length+st.length)*8<=140737488355328:=by omega
 have hne:zu st≠[]:=by
  have:=h5.2.1;intro e;have e2:(zu st).length=0:=by rw[e];rfl
  rw[zfq]at e2;omega
 have hT:List.take (s3.l.length+st.length) (zu s3.l++zu st)=zu s3.l++zu st:=jE (by simp);rw[zUa zSs rfl];simp[zSi,Pl.kY,hvv,h0,h1,h2,h3,h4,jZ,hne,hT,zg,zX]
theorem zLx{c:zK8}{w:Int}:∀{n:Nat} {s:Drv},0<=s.v/\s.v<=2000->0<=(Drv.uY c w n s).v/\(Drv.uY c w n s).v<=2000
 |0,s,h=>h
 |n+1,s,h=>zLx (n:=n) (zG1 s.v _)
theorem zMg:∀{q:List Int} {s:Drv},0<=s.v/\s.v<=2000->0<=(Drv.queue q s).v/\(Drv.queue q s).v<=2000
 |[],s,h=>h
 |x::q,s,h=>zMg (q:=q) (zG1 s.v _)
theorem zOt{c:zK8}(hc:c.ok)(q:List Int)(last v:Int)(up hold:Nat)(hv:0<=v/\v<=2000):(Bg c q last v up hold).length<=115+up+hold:=by
 unfold Bg;have h1:=zMg (q:=q.take 5) (s:=Drv.mk last v []) hv;have h2:=zLx (c:=c) (w:=c.qO) (n:=up) h1;have h3:=zLx (c:=c) (w:=0) (n:=hold) h2;have hl1:(Drv.queue (q.take 5) (Drv.mk last v [])).l.length=(q.take 5).length:=by rw[Drv.AX];simp
 have hl2:=Drv.y8 (c:=c) (w:=c.qO) (n:=up) (s:=Drv.queue (q.take 5) (Drv.mk last v []));have hl3:=Drv.y8 (c:=c) (w:=0) (n:=hold) (s:=Drv.uY c c.qO up (Drv.queue (q.take 5) (Drv.mk last v [])));generalize Drv.uY c 0 hold (Drv.uY c c.qO up (Drv.queue (q.take 5) (Drv.mk last v [])))=s at *;have h4:=(zMs hc s.last s.v h3.1 h3.2).2.2;have h5:(q.take 5).length<=5:=by simp;omega
 simp only[jr];omega
theorem zVs{c:zK8}(hc:c.ok)(q:List Int)(hq:∀a∈q,zk0 a)(last v:Int)(hv:0<=v/\v<=2000)(up hold:Nat):∀a∈Bg c q last v up hold,zk0 a:=by
 have hcc:=hc;obtain⟨q1,q2,q3,q4,q5,q6,q7,q8,q9,q10⟩:=hcc;have hr:∀(w:Int) (n:Nat) (s:Drv),(∀a∈s.l,zk0 a)->∀a∈(Drv.uY c w n s).l,zk0 a:=by
  intro w n;induction n with
  |zero=>intro s h;exact h
  |succ n ih =>
   intro s h;refine ih _ fun a ha=>?_
   simp only[Drv.AO,jt,jz]at ha;rcases ha with ha|rfl
   ·exact h a ha
   ·have:=zNt hc s.last w;exact⟨by omega,by omega⟩
 have hs:∀(m:Nat) (f:Bool) (last v:Int) (l:List Int),zGI c m f last v=some l->∀a∈l,zk0 a:=by
  intro m;induction m with
  |zero=>intro f last v l h;cases h
  |succ m ih =>
   intro f last v l h;rw[zF7]at h;split at h
   ·obtain⟨l',h',rfl⟩:=jb.1 h;intro a ha;rcases jB.1 ha with rfl|ha
    ·have:=zNt hc last (-c.qj);exact⟨by omega,by omega⟩
    ·exact ih _ _ _ _ h' a ha
   ·obtain rfl:=yi h;intro a ha;cases ha
 intro a ha;unfold Bg at ha;simp only[jt]at ha;have g1:=zMg (q:=q.take 5) (s:=Drv.mk last v []) hv;have g2:=zLx (c:=c) (w:=c.qO) (n:=up) g1;have g3:=zLx (c:=c) (w:=0) (n:=hold) g2;rcases ha with ha|ha
 ·refine hr _ _ _ (hr _ _ _ fun a ha=>?_) a ha;rw[Drv.CG,jk]at ha;exact hq a (qD ha)
 ·exact hs _ _ _ _ _ (zMs hc _ _ g3.1 g3.2).1 a ha
theorem Zgb(n:Int):∃m zs ss,z7y m zs ss/\zKj m zs ss/\Zgw m zs/\(∀l,zdA m l=0->∀z:Nat,z<zs.length->zTY (zKh m zs 0 l) z=true)/\R L Cs zY [W n] []=some (.w (.a (zf m)),[]):=by
 obtain⟨k,lim,r,o1,o2,o3,v,ws,hk,nu,hR⟩:=zA5 n;have hF:=zTs k hk nu;refine⟨_,_,_,z7A k hk nu,hF,Zg1 hk nu,fun l hr z hz=>?_,hR⟩;exact jA.1 (zTp hF.full.yV (zT6 k hk lim r o1 o2 o3 v ws) hr) z (kP.2 hz)
abbrev Zf6(rows:List (List Int))(i:Nat):Env:=[(27,.w (W i)),(7,.w (.c (.jc (Zcg rows)))),(26,.w (Pt 6)),(19,.w (Pt 1)),(23,.w (Pt 4))]
abbrev Zhb(w g:Nat)(rws:List (List Cl)):Option Blk:=some { box:=false,esz:=6,rows:=rws,gen:=g,fz:=true,ver:=w }
abbrev Zf5(x0 x1 x2 x3:Int)(m:zD)(vc:Nat)(c:List Cl)(w g:Nat)(rws:List (List Cl))(v:Nat)(s:SnV)(k:zci)(p:List Int):Mem :=
 [bx 4 [I x0,I x1,I x2,I x3],bxv 1 5 (zf m),bxv vc 5 c,Zhb w g rws,bxv v 3 (snC s),bxv 1 6 (zG k),bxv 1 1 [.jc (zu p)]]
theorem Zgl{m:zD}{zs:List Zon}{ss:List Sgn}(hF:z7y m zs ss)(hFr:zKj m zs ss)(hZ:Zgw m zs)(hcon:∀r,zdA m r=0->∀z:Nat,z<zs.length->zTY (zKh m zs 0 r) z=true){sg:Bool}{p:List Int}(hp:p≠[])(hpl:p.length<=60)(BW:∀a∈p,zk0 a)(uf:p.getLastD 0<=0)(rows:List (List Int))(hin:∀a∈rows,∀x∈a,zk0 x)(hrl:∀a∈rows,a.length<=1048576)
  (x0 x1 x2 x3:Int) (vc:Nat) (a0 a1 a2 a3 a4:Int) (w g:Nat) (rws:List (List Cl)) (v:Nat) (K:zci) {i:Nat} {s:SnV} {k:zci} (h:FlI m zs ss sg p i s k) :
  (∃M',Y L Cs Ze2 (some [27,7,26,19,23]) 7 (Zf6 rows i) (Zf5 x0 x1 x2 x3 m vc [I a0,I a1,I a2,I a3,I a4] w g rws v s K p)=some (.ret,[(18,.w (Bo true))],M')) \/
  (∃s',Y L Cs Ze2 (some [27,7,26,19,23]) 7 (Zf6 rows i) (Zf5 x0 x1 x2 x3 m vc [I a0,I a1,I a2,I a3,I a4] w g rws v s K p)=Y L Cs Ze2 (some [27,7,26,19,23]) 7 (Zf6 rows (i+1)) (Zf5 x0 x1 x2 x3 m vc [I a0,I a1,I a2,I a3,I a4] w g rws (v+1) s' K p)/\(i<p.length/\(∃k',FlI m zs ss sg p (i+1) s' k')\/i=p.length/\∃hb:0<s'.agents.length,s'.agents[0].v=0)):=by
 have hle:=h.left;have hI:=h.cn;obtain⟨q1,-,-,-,-⟩:=Zck.1 hI.cov;have htk:=hI.tick;have BF:=Zg8 rows (i % 12);have hA:=Pl.R_Act p (by omega) i;have haI:zk0 (Pl.Be p i):=by
  unfold Pl.Be;split
  ·exact⟨by omega,by omega⟩
  ·generalize (max 0 (min (i:Int) ((p.length:Int)-1))).toNat=j;by_cases c:j<p.length
   ·simp only[jv c,qC];exact BW _ (ja c)
   ·rw[jK (by omega)];exact⟨by simp,by simp⟩
 obtain⟨r,hr,hrin,Dn⟩:∃r,r=rows.getD (i % 12) []/\(∀x∈r,zk0 x)/\r.length<=1048576:=by
  refine⟨_,rfl,?_,?_⟩
  ·by_cases c:i % 12<rows.length
   ·simp only[jo,jv c,qC];exact hin _ (ja c)
   ·simp[jK (show rows.length<=i % 12 by omega)]
  ·by_cases c:i % 12<rows.length
   ·simp only[jo,jv c,qC];exact hrl _ (ja c)
   ·simp[jK (show rows.length<=i % 12 by omega)]
 rw[<-hr]at BF;clear hr;have hm12:(i:Int).tmod 12=(i:Int) % 12:=rfl;have e12:((i % 12:Nat):Int)=(i:Int) % 12:=by omega
 rw[e12]at BF;clear e12;have hw:=zB (i:=i) (by omega);have hci:(i:Int)<=p.length:=by omega
 generalize CR:Pl.Be p i::r.tail=jL;have AB:jL.getD 0 0=Pl.Be p i:=by rw[<-CR];rfl
 have hai:∀a∈jL,zk0 a:=by
  intro a ha;rw[<-CR]at ha;rcases jB.1 ha with rfl|ha
  ·exact haI
  ·exact hrin a (List.mem_of_mem_tail ha)
 obtain⟨bs,ins,cs,hbl,hM,hO,hcl,hcw,hcr,hS⟩:=Zd0 hF hI.ks q1 hI.few (by omega) jL hai;obtain⟨hno,yx⟩:=ZgW hF hFr hZ hcon hp hpl uf h AB hbl hM hO hcw hcr;rw[<-CR,zaP]at hS;clear hF hFr hZ hcon hM hO hcw hcr h hI AB CR BW hin hrl hai;have jZ:(r.length:Nat)*8<=140737488355328:=by omega
 cases ha0:cs.any (fun c=>decide (c.a=0))with
 |true =>
  left;have hL2:=fun x1 x2 x3 x4 x5 x6 (M:Mem) (n0:Nat) (hn:M.length<=n0)=>Zgm x1 x2 x3 x4 x5 x6 M n0 hn cs hcl hno cs.length 0 (by omega)
  simp only[uc,ha0,↓reduceIte,Zgt,jg]at hL2;simp only[zf,snC]at hS;cases r with
  |nil =>
   simp only[zay,List.tail_nil]at hS BF;apply Exists.intro;rw[ZfM Ze2.eq_1];simp (maxSteps:=1000000) [Zf6,Zf5,zf,snC,zG,zch,hci,hm12,BF,hA,hS,hL2,zg,zH,zX];rfl
  |cons x r =>
   have hl1:((r.length:Int)+1==0)=false:=beq_false_of_ne (by omega);have hl2:¬(r.length:Int)+1=0:=by omega
   have hl3:(0:Int)<(r.length:Int)+1:=by omega
   have htk:(zu r).take r.length=zu r:=jE (by simp);simp only[zaP,List.tail_cons]at hS BF;simp only[jm]at jZ;apply Exists.intro;rw[ZfM Ze2.eq_1];simp (maxSteps:=1000000) [Zf6,Zf5,zf,snC,zG,zch,hci,hm12,BF,hA,hS,hL2,hl1,hl2,hl3,htk,jZ,zg,zH,zX];rfl
 |false =>
  right;refine⟨⟨s.tick+1,bs,ins⟩,?_,yx ha0⟩;have hL2:=fun x1 x2 x3 x4 x5 x6 (M:Mem) (n0:Nat) (hn:M.length<=n0)=>Zgm x1 x2 x3 x4 x5 x6 M n0 hn cs hcl hno cs.length 0 (by omega)
  simp only[uc,ha0,jI,↓reduceIte,Zgt,jg]at hL2;simp only[zf,snC]at hS;rw[ZfM Ze2.eq_1];cases r with
  |nil =>
   simp only[zay,List.tail_nil]at hS BF;simp (maxSteps:=1000000) [Zf6,Zf5,zf,snC,zG,zch,hci,hm12,BF,hA,hS,hL2,hw,zg,zH,zX]
  |cons x r =>
   have hl1:((r.length:Int)+1==0)=false:=beq_false_of_ne (by omega);have hl2:¬(r.length:Int)+1=0:=by omega
   have hl3:(0:Int)<(r.length:Int)+1:=by omega
   have htk:(zu r).take r.length=zu r:=jE (by simp);simp only[zaP,List.tail_cons]at hS BF;simp only[jm]at jZ;simp (maxSteps:=1000000) [Zf6,Zf5,zf,snC,zG,zch,hci,hm12,BF,hA,hS,hL2,hl1,hl2,hl3,htk,jZ,hw,zg,zH,zX]
theorem ZgK{m:zD}{zs:List Zon}{ss:List Sgn}(hF:z7y m zs ss)(hFr:zKj m zs ss)(hZ:Zgw m zs)(hcon:∀r,zdA m r=0->∀z:Nat,z<zs.length->zTY (zKh m zs 0 r) z=true){sg:Bool}{p:List Int}(hp:p≠[])(hpl:p.length<=60)(BW:∀a∈p,zk0 a)(uf:p.getLastD 0<=0)(rows:List (List Int))(hin:∀a∈rows,∀x∈a,zk0 x)(hrl:∀a∈rows,a.length<=1048576)
  (x0 x1 x2 x3:Int) (vc:Nat) (a0 a1 a2 a3 a4:Int) (w g:Nat) (rws:List (List Cl)) (K:zci):∀(f i v:Nat) (s:SnV) (k:zci),i+f=p.length->FlI m zs ss sg p i s k ->
  (∃M',Y L Cs Ze2 (some [27,7,26,19,23]) 7 (Zf6 rows i) (Zf5 x0 x1 x2 x3 m vc [I a0,I a1,I a2,I a3,I a4] w g rws v s K p)=some (.ret,[(18,.w (Bo true))],M')) \/
  (∃(s':SnV) (v':Nat),Y L Cs Ze2 (some [27,7,26,19,23]) 7 (Zf6 rows i) (Zf5 x0 x1 x2 x3 m vc [I a0,I a1,I a2,I a3,I a4] w g rws v s K p)=some (.exit 2,(138,.w (Bo false))::Zf6 rows (p.length+1),Zf5 x0 x1 x2 x3 m vc [I a0,I a1,I a2,I a3,I a4] w g rws v' s' K p)/\∃hb:0<s'.agents.length,s'.agents[0].v=0):=by
 intro f;induction f with
 |zero =>
  intro i v s k hi h;obtain rfl:i=p.length:=by omega
  rcases Zgl hF hFr hZ hcon hp hpl BW uf rows hin hrl x0 x1 x2 x3 vc a0 a1 a2 a3 a4 w g rws v K h with h |⟨s',e,h |⟨_,h⟩⟩
  ·exact .inl h
  ·exact absurd h.1 (by omega)
  ·refine .inr ⟨s',v+1,e.trans ?_,h⟩;have hc:¬(p.length:Int)+1<=p.length:=by omega
   rw[ZfM Ze2.eq_1];simp[Zf6,Zf5,hc]
 |succ f ih =>
  intro i v s k hi h;rcases Zgl hF hFr hZ hcon hp hpl BW uf rows hin hrl x0 x1 x2 x3 vc a0 a1 a2 a3 a4 w g rws v K h with h |⟨s',e,⟨_,k',h⟩ |⟨h,_⟩⟩
  ·exact .inl h
  ·rw[e];exact ih (i+1) (v+1) s' k' (by omega) h
  ·omega
theorem Zf7{m:zD}{zs:List Zon}{ss:List Sgn}(hF:z7y m zs ss)(hFr:zKj m zs ss)(hZ:Zgw m zs)(hcon:∀r,zdA m r=0->∀z:Nat,z<zs.length->zTY (zKh m zs 0 r) z=true)(n x0 x1 x2 x3:Int)(l:List z45)(d1:l.length<=7)(pad:List Int)(d2:pad.length<=8)(hpi:∀x∈pad,zk0 x)(sp up hold:Int)(rows:List (List Int))(d3:rows.length<=12)(hin:∀a∈rows,∀x∈a,zk0 x)(hrl:∀a∈rows,a.length<=1048576)(sg:Bool)(hM:R L Cs zY [W n] []=some (.w (.a (zf m)),[])) :
  R L Cs ZfO [W n,.a [I x0,I x1,I x2,I x3],.c (.jc (z32 l)),.c (.jc (zu pad)),W sp,W up,W hold,.c (.jc (Zcg rows)),Bo sg] []=some (.w (Bo true),[]):=by
 have haw:=Pl.B5;have h:=hF.full.qe;have hsh:=hF.full.yV;have c1:¬(7:Int)<l.length:=by omega
 have c1':¬7<l.length:=by omega
 have c2:¬(8:Int)<pad.length:=by omega
 have c2':¬8<pad.length:=by omega
 have c3:¬(12:Int)<rows.length:=by omega
 have c3':¬12<rows.length:=by omega
 have hmu:=zEW up 7 (by omega) (by omega);have hmh:=zEW hold 5 (by omega) (by omega);obtain⟨u,hu⟩:=jx (qr up (show(7:Int)≠0 by decide));obtain⟨hh,hhd⟩:=jx (qr hold (show(5:Int)≠0 by decide));have hu2:u<=20:=by omega
 have hh2:hh<=20:=by omega
 rw[hu]at hmu;rw[hhd]at hmh;have hC:=Pl.R_made x0 x1 x2 x3;have hcok:=Pl.Dg x0 x1 x2 x3;generalize Pl.B8 x0 x1 x2 x3=c0 at *;obtain⟨s,hs,⟨ht,hl7,hP⟩,hS⟩:=Zep hF sg (l.map (obS sg)) (by
  intro h x hx;obtain⟨y,_,rfl⟩:=kJ.1 hx;simp[obS,h]) (by simpa using d1)
 obtain⟨k,b1,⟨b2,b3,b4⟩,b5,hCv⟩:=Zdt h hsh s hs pad (by omega) hpi sp;have hCo:=z54 h s hs k (by omega) b2;have C5:l.length*48<=140737488355328:=by omega
 have hL1:=ZgM (bx 4 [I x0,I x1,I x2,I x3]) (bxv 1 5 (zf m)) (bxv 1 5 (Pl.kY c0)) up hold sp (zu pad) (Zcg rows) sg l d1 l.length 0 (by omega);have e0:obT sg l 0=l:=by simp[obT]
 have e1:obT sg l l.length=l.map (obS sg):=by simp[obT]
 have tk:(z32 (l.map (obS sg))).take l.length=z32 (l.map (obS sg)):=jE (by simp);simp only[Zgv,Zgu,e0,e1,kH,jg]at hL1;have Bq:=hs.some;have ha0:=hs.ags _ (ja Bq);have hsl:=ha0.len;have BM:(0:Int)<s.agents.length:=by omega
 obtain⟨c,hc⟩:∃c:Go.PlanLaw.Car,c=⟨s.agents[0].len,c0.qO,c0.qj,c0.vQ,c0.As⟩:=⟨_,rfl⟩;have hok:c.ok:=by
  obtain⟨q1,q2,q3,q4,q5,q6,q7,q8,q9,q10⟩:=hcok;rw[hc];exact⟨by simp only;omega,by simp only;omega,q3,q4,q5,q6,q7,q8,q9,q10⟩
 have hPr:=zSO hok [] (by simp) 0 k.ego.vhi u hh hu2 hh2;have hci:=zOt hok [] 0 (max 0 (min k.ego.vhi 2000)) u hh (by omega);have BW:=zVs hok [] (fun _ h=>nomatch h) 0 (max 0 (min k.ego.vhi 2000)) (by omega) u hh;generalize hpe:Go.PlanLaw.Bg c [] 0 (max 0 (min k.ego.vhi 2000)) u hh=p at hPr hci BW;have hV:=zOJ hFr s.agents[0].jf (by have:=((ha0.on h).2.2);omega) c k (by have:=b1;omega) p BW (by omega) sg;have hvi:=zUm m zs ss s.agents[0].jf c k p sg;have hce:Pl.kY c=[I s.agents[0].len,I c0.qO,I c0.qj,I c0.vQ,I c0.As]:=by rw[hc];rfl
 have hcl:c.len=s.agents[0].len:=by rw[hc]
 have r0:z32 []=[]:=rfl;have hle:(l=[]/\True)\/z32 l≠[]:=by
  cases l with
  |nil=>exact .inl ⟨rfl,trivial⟩
  |cons a t=>exact .inr (by simp[z32])
 by_cases cp:60<p.length
 ·have cp':(60:Int)<p.length:=by omega
  rw[hce]at hPr;clear hFr hF hs hP hvi hV hCo;simp only[zf,snC,zG,zch,Pl.kY,zay]at hM hS hC hCv hPr hL1;rw[zUa ZfN rfl];rcases hle with⟨rfl,hlr⟩|hlr<;>(try simp only[qi,js,r0,kH,jg]at hL1 hS tk)<;>simp (maxSteps:=1000000) [Ze5,zf,snC,agC,zG,zch,Pl.kY,c1,c1',c2,c2',c3,c3',haw,hM,hC,C5,hlr,r0,hL1,tk,hS,hCv,hmu,hmh,hPr,cp,cp',Bq,BM,zg,zH,zX]
 have cp':¬(60:Int)<p.length:=by omega
 cases hcv:z4P m s k with
 |false =>
  rw[hce]at hPr;rw[hcv]at hCo;clear hFr hF hs hP hvi hV;simp only[zf,snC,zG,zch,Pl.kY,zay]at hM hS hC hCv hPr hL1 hCo;rw[zUa ZfN rfl];rcases hle with⟨rfl,hlr⟩|hlr<;>(try simp only[qi,js,r0,kH,jg]at hL1 hS tk)<;>simp (maxSteps:=1000000) [Ze5,zf,snC,agC,zG,zch,Pl.kY,c1,c1',c2,c2',c3,c3',haw,hM,hC,C5,hlr,r0,hL1,tk,hS,hCv,hmu,hmh,hPr,cp,cp',hCo,Bq,BM,zg,zH,zX]
 |true =>
  rw[hcv]at hCo;by_cases co:s.agents[0].s<=s.agents[0].len
  ·rw[hce]at hPr;clear hFr hF hs hP hvi hV;simp only[zf,snC,zG,zch,Pl.kY,zay]at hM hS hC hCv hPr hL1 hCo;rw[zUa ZfN rfl];rcases hle with⟨rfl,hlr⟩|hlr<;>(try simp only[qi,js,r0,kH,jg]at hL1 hS tk)<;>simp (maxSteps:=1000000) [Ze5,zf,snC,agC,zG,zch,Pl.kY,c1,c1',c2,c2',c3,c3',haw,hM,hC,C5,hlr,r0,hL1,tk,hS,hCv,hmu,hmh,hPr,cp,cp',hCo,co,Bq,BM,zg,zH,zX]
  generalize hy:zOk m zs ss s.agents[0].jf c k p sg=y at hV hvi;obtain⟨y1,y2,y3⟩:=y;cases y1 with
  |false =>
   rw[hce]at hPr hV;clear hFr hF hs hP hvi;simp only[zf,snC,zG,zch,Pl.kY,zay,zJ4,zJY]at hM hS hC hCv hPr hL1 hCo hV;rw[zUa ZfN rfl];rcases hle with⟨rfl,hlr⟩|hlr<;>(try simp only[qi,js,r0,kH,jg]at hL1 hS tk)<;>simp (maxSteps:=1000000) [Ze5,zf,snC,agC,zG,zch,Pl.kY,c1,c1',c2,c2',c3,c3',haw,hM,hC,C5,hlr,r0,hL1,tk,hS,hCv,hmu,hmh,hPr,cp,cp',hCo,co,hV,Bq,BM,zg,zH,zX]
  |true =>
   obtain⟨f1,f2,f3,-,f5⟩:=hvi.1 rfl;rw[hcl]at f3 f5;obtain⟨-,hne,-⟩:=zVR f2;have uf:p.getLastD 0<=0:=by
    unfold Go.PlanLaw.vh at f2
    (repeat' split at f2)<;>omega
   have hI:=Zeg (ss:=ss) hs ht hl7 hP hcv b3 b4;have hst:=hs.first;have A6:s.agents[0].gone=false:=by
    obtain⟨a,t,rfl⟩:∃a t,p=a::t:=by cases p with|nil=>exact absurd rfl hne|cons a t=>exact⟨a,t,rfl⟩
    rw[zKr]at f3;by_cases cw:zMi m zs ss s.agents[0].jf s.agents[0].len (zKh m zs 0 s.agents[0].jf) (pvV m zs s.agents[0].jf) k (zEt m zs ss s.agents[0].jf s.agents[0].len sg k a) (zKu m zs ss s.agents[0].jf s.agents[0].len sg k a)=0
    ·have h1:=(Zgy cw).on;have h2:0<=zcD m s.agents[0].jf a k.ego.vhi:=by
      have:0<=zeR (zaK m (s.agents[0].jf.getD 0 0)):=by unfold zeR;(repeat' split)<;>omega
      unfold zcD;omega
     have h3:(zaN m s.agents[0].jf k.ego a).shi=k.ego.shi+zcD m s.agents[0].jf a k.ego.vhi:=rfl;obtain⟨-,-,-,q4,-⟩:=Zck.1 hcv;have hg0:s.agents.getD 0 z3O=s.agents[0]:=by simp[Bq]
     rw[hg0]at q4;unfold z7p at q4;simp only[jh,decide_eq_true_eq]at q4;rw[ha0.here];exact decide_eq_false (by omega)
    ·rw[if_neg cw]at f3;cases f3
   have hFl:FlI m zs ss sg p 0 s k:=⟨hI,fun j _ hj hj0 hth=>(hP.apart 0 j Bq hj hj0 (by omega) (by have:=(ZcK hth).2;omega)).2,Bq,by omega,A6,jD _,by rw[uc];exact f3,by rw[uc];exact f5⟩;have hL3:=ZgK hF hFr hZ hcon hne (by omega) BW uf rows hin hrl x0 x1 x2 x3 2 s.agents[0].len c0.qO c0.qj c0.vQ c0.As (l.length+l.length+1) l.length (z32 (l.map (obS sg))) k p.length 0 1 s k (by omega) hFl;rw[hce]at hPr hV;clear hFr hF hst hs hP hvi hI hFl f1 f2 f3 f5;simp only[zf,snC,zG,zch,Pl.kY,zay,zJ4,zJY]at hM hS hC hCv hPr hL1 hCo hV;simp only[Zf6,Zf5,zf,snC,zG,zch,jg]at hL3;rw[zUa ZfN rfl];rcases hL3 with⟨M',hL3⟩ |⟨s',v',hL3,hp',hv'⟩
   ·rcases hle with⟨rfl,hlr⟩|hlr<;>(try simp only[qi,js,r0,kH,jH,jg]at hL1 hS tk hL3)<;>simp (maxSteps:=1000000) [Ze5,zf,snC,agC,zG,zch,Pl.kY,c1,c1',c2,c2',c3,c3',haw,hM,hC,C5,hlr,r0,hL1,tk,hS,hCv,hmu,hmh,hPr,cp,cp',hCo,co,hV,Bq,BM,hL3,zg,zH,zX]
   ·have hcp':(0:Int)<s'.agents.length:=by omega
    rcases hle with⟨rfl,hlr⟩|hlr<;>(try simp only[qi,js,r0,kH,jH,jg]at hL1 hS tk hL3)<;>simp (maxSteps:=1000000) [Ze5,zf,snC,agC,zG,zch,Pl.kY,c1,c1',c2,c2',c3,c3',haw,hM,hC,C5,hlr,r0,hL1,tk,hS,hCv,hmu,hmh,hPr,cp,cp',hCo,co,hV,Bq,BM,hL3,hp',hcp',hv',zg,zH,zX]
end Go.TrRun
namespace Go.Eng
open Go Go.ChangeShapes
mutual
def ZfP(N:Nat):Sh->List Cl->Prop
 |.int k,cs=>∃n,cs=[.int k n]/\k.min<=n/\n<=k.max
 |.bool,cs=>∃b,cs=[.bool b]
 |.str,cs=>∃s,cs=[.str s]/\s.size<=N
 |.slice s,cs=>∃rows,cs=[.jc rows]/\rows.length<=N/\∀r∈rows,ZfP N s r
 |.st l,cs=>ZfQ N l cs
def ZfQ(N:Nat):List Sh->List Cl->Prop
 |[],cs=>cs=[]
 |s::l,cs=>∃c d,cs=c++d/\ZfP N s c/\ZfQ N l d
end
def ZfW(N:Nat):List Sh->List WV->Prop
 |[],xs=>xs=[]
 |s::l,xs=>∃cl ys,xs=zAK s cl::ys/\ZfP N s cl/\ZfW N l ys
section
variable{H:Type}{enc:TypeId×Value->H}{P:Program}{W:World}{spare:Nat->Bool}{held:Bool}
structure Bk(bk:DataW H->Nat)(bkA:List (DataW H)->Nat):Prop where
 sl:∀e s,bkA e<=bk (.slice e s)
 ag:∀p,bkA p<=bk (.agg p)
 st:∀b,List.length b<=bk (.lit (.string b))
 cons:∀d r,bkA (d::r)=bk d+bkA r
 pos:∀d,0<bk d
variable{bk:DataW H->Nat}{bkA:List (DataW H)->Nat}
theorem Bk.mem(hB:Bk bk bkA){d:DataW H}:∀{l:List (DataW H)},d∈l->bk d<=bkA l
 |a::l,h=>by
  rw[hB.cons];rcases jB.1 h with rfl|h
  ·exact uz _ _
  ·exact j7 (hB.mem h) (Nat.le_add_left _ _)
theorem Bk.len(hB:Bk bk bkA):∀l:List (DataW H),l.length<=bkA l
 |[]=>jD _
 |a::l=>by
  have:=hB.len l;have:=hB.pos a;rw[hB.cons,jm];omega
theorem Zf1{N d:Nat}{n:Nat}(hB:Bk bk bkA)(ih:∀{t:TypeId} {cs:List Value} {x:DataW H×List MemPlace} {s:Sh},DataW.trod enc P W 0 spare held n t cs=some x->bk x.1<=N->zey P d t=some s->∃cl,VCs (zcC W) zb1 cl cs/\ZfP N s cl) :
  ∀{fs:List Field} {off:Nat} {l:List Sh} {cs:List Value} {xs:List (DataW H×List MemPlace)},zl5 P (zey P d) fs off=some l->(fs.mapM fun f=>DataW.trod enc P W 0 spare held n f.type ((cs.drop f.offset).take (P.cellsOf f.type)))=some xs->(∀x∈xs,bk x.1<=N)->cs.length=off+Sh.ns l ->
   ∃cl,VCs (zcC W) zb1 cl (cs.drop off)/\ZfQ N l cl
 |[],off,l,cs,xs,hf,hx,hb,hl=>by
  simp only[zl5,ji]at hf;subst hf;simp only[Sh.ns,kH]at hl;exact⟨[],by rw[uF (by omega)];exact VCs.nil,rfl⟩
 |f::fs,off,l,cs,xs,hf,hx,hb,hl=>by
  simp only[zl5]at hf;split at hf
  ·rename_i s hs;split at hf
   ·rename_i hc;obtain⟨C4,v5⟩:=hc;simp only[jb]at hf;obtain⟨l',hl',rfl⟩:=hf;rw[yH]at hx;simp only[Sh.ns]at hl;cases h1:DataW.trod enc P W 0 spare held n f.type ((cs.drop f.offset).take (P.cellsOf f.type))with
    |none=>rw[h1]at hx;simp at hx
    |some y =>
     rw[h1]at hx;cases h2:(fs.mapM fun f=>DataW.trod enc P W 0 spare held n f.type ((cs.drop f.offset).take (P.cellsOf f.type)))with
     |none=>rw[h2]at hx;simp at hx
     |some ys =>
      rw[h2]at hx;simp at hx;subst hx;obtain⟨c1,hv1,hs1⟩:=ih h1 (hb y (by simp)) hs;obtain⟨c2,hv2,hs2⟩:=Zf1 hB ih hl' h2 (fun x hx=>hb x (by simp[hx])) (by omega);refine⟨c1++c2,?_,c1,c2,rfl,hs1,hs2⟩;have e:cs.drop off=(cs.drop off).take s.n++cs.drop (off+s.n):=by rw[<-vM,ke]
      rw[e];rw[C4,v5]at hv1;exact hv1.append hv2
   ·cases hf
  ·cases hf
theorem Zf9{N d:Nat}{n:Nat}{e:TypeId}{s:Sh}(ih:∀{t:TypeId} {cs:List Value} {x:DataW H×List MemPlace} {s:Sh},DataW.trod enc P W 0 spare held n t cs=some x->bk x.1<=N->zey P d t=some s->∃cl,VCs (zcC W) zb1 cl cs/\ZfP N s cl)(hs:zey P d e=some s) :
  ∀{m k:Nat} {cs:List Value},(∀i,i<m->∃x,bk x.1<=N/\DataW.trod enc P W 0 spare held n e ((cs.drop ((k+i)*s.n)).take s.n)=some x)->cs.length=(k+m)*s.n->∃cl,VCs (zcC W) zb1 cl (cs.drop (k*s.n))/\ZfQ N (List.replicate m s) cl
 |0,k,cs,h,hl=>⟨[],by rw[uF (by simp at hl;omega)];exact VCs.nil,rfl⟩
 |m+1,k,cs,h,hl=>by
  obtain⟨x,hb,hx⟩:=h 0 (by omega);obtain⟨c1,hv1,hs1⟩:=ih hx hb hs;obtain⟨c2,hv2,hs2⟩:=Zf9 ih hs (m:=m) (k:=k+1) (cs:=cs) (fun i hi=>by
   obtain⟨y,hy,hz⟩:=h (i+1) (by omega);exact⟨y,hy,by rw[show k+1+i=k+(i+1) by omega];exact hz⟩) (by rw[hl];congr 1;omega)
  refine⟨c1++c2,?_,c1,c2,rfl,hs1,hs2⟩;have e:cs.drop (k*s.n)=(cs.drop (k*s.n)).take s.n++cs.drop ((k+1)*s.n):=by
   rw[qt,<-vM,ke]
  rw[e];exact(by simpa using hv1:VCs (zcC W) zb1 c1 ((cs.drop (k*s.n)).take s.n)).append hv2
theorem Zgg{N:Nat}(hB:Bk bk bkA):∀{n d:Nat} {t:TypeId} {cs:List Value} {x:DataW H×List MemPlace} {s:Sh},DataW.trod enc P W 0 spare held n t cs=some x->bk x.1<=N->zey P d t=some s->∃cl,VCs (zcC W) zb1 cl cs/\ZfP N s cl
 |0,d,t,cs,x,s,h,hb,hs=>by simp[DataW.trod]at h
 |n+1,0,t,cs,x,s,h,hb,hs=>by simp[zey]at hs
 |n+1,d+1,t,cs,x,s,h,hb,hs=>by
  have ih:∀{t:TypeId} {cs:List Value} {x:DataW H×List MemPlace} {s:Sh},DataW.trod enc P W 0 spare held n t cs=some x->bk x.1<=N->zey P d t=some s->∃cl,VCs (zcC W) zb1 cl cs/\ZfP N s cl:=fun h hb hs=>Zgg hB h hb hs
  simp only[zey]at hs;split at hs
  ·rename_i k hu;cases hs;obtain⟨m,rfl,_,hw⟩:=DataW.trod_int hu h;simp only[Lit.wf,jh,decide_eq_true_eq]at hw;exact⟨[.int k m],VCs.cons (.int _ _ _) VCs.nil,m,rfl,hw⟩
  ·rename_i hu;cases hs;obtain⟨b,rfl,_⟩:=DataW.trod_bool hu h;exact⟨[.bool b],VCs.cons (.bool _ _) VCs.nil,b,rfl⟩
  ·rename_i hu;cases hs;obtain⟨b,rfl,rfl,_⟩:=DataW.trod_string hu h;have:=j7 (hB.st b.data.toList) hb;exact⟨[.str b],VCs.cons (.str _ _) VCs.nil,b,rfl,by simpa using this⟩
  ·rename_i e hu;split at hs
   ·rename_i s' hse;split at hs
    ·rename_i hc;obtain⟨v5,qI⟩:=hc;cases hs;rcases DataW.trod_slice hu h with⟨rfl,_⟩ |⟨a,len,cap,elems,rest,m,hm,rfl,rfl,_,hl,qV,hel,hx,_,_⟩
     ·exact⟨[.jc []],VCs.cons (.jc _ s'.n [] none 0 0 0 (fun _ _=>undef) (jq _) (Or.inl rfl) (fun _ h=>by simp at h) (fun _ _ _ _ h=>by simp at h) (fun _ _ _ _ h=>by simp at h)) VCs.nil,[],rfl,jD _,fun _ h=>by simp at h⟩
     ·obtain rfl:n=m:=by omega
      rw[v5]at hx;have hb:=j7 (hB.sl _ _) hb;obtain⟨rows,h1,h2,h3⟩:=zx4 (W:=W) (a:=a) (Q:=ZfP N s') qI hl (fun i hi=>by
       have h4:=hx i hi;rw[jv (by omega)]at h4;obtain⟨cs',h5,h6⟩:=Option.bind_eq_some_iff.1 h4;obtain⟨cl,h7,h8⟩:=ih h6 (j7 (hB.mem (vj (ja _))) hb) hse;exact⟨cs',cl,h5,h7,h8⟩)
      have hlen:=j7 (hB.len _) hb;rw[uN]at hlen;exact⟨[.jc rows],VCs.cons h3 VCs.nil,rows,rfl,by omega,h2⟩
    ·cases hs
   ·cases hs
  ·rename_i fs hu;split at hs
   ·rename_i l hf;split at hs
    ·rename_i hc;cases hs;simp only[DataW.trod,hu]at h;split at h
     ·rename_i hl;obtain⟨xs,h1,rfl⟩:=jb.1 h;have hb:=j7 (hB.ag _) hb;obtain⟨cl,h2,h3⟩:=Zf1 hB ih hf h1 (fun x hx=>j7 (hB.mem (vj hx)) hb) (by rw[hl,hc];simp);exact⟨cl,by simpa using h2,h3⟩
     ·cases h
    ·cases hs
   ·cases hs
  ·rename_i m e hu;split at hs
   ·rename_i s' hse;split at hs
    ·rename_i hc;cases hs;obtain⟨hce,hct⟩:=hc;obtain⟨xs,k,hk,rfl,hl,hxs,hx⟩:=DataW.trod_array hu h;obtain rfl:n=k:=by omega
     rw[hce]at hx;have hb:=j7 (hB.ag _) hb;obtain⟨cl,h2,h3⟩:=Zf9 (k:=0) (m:=m) ih hse (fun i hi=>by
      have:=hx i hi;rw[jv (by omega)]at this;exact⟨_,j7 (hB.mem (vj (ja _))) hb,by simpa using this⟩) (by rw[hl,hct];simp)
     exact⟨cl,by simpa using h2,h3⟩
    ·cases hs
   ·cases hs
  ·cases hs
mutual
theorem ZfP.has{N:Nat}(hN:N<=maxLen):∀{s:Sh} {cl:List Cl},ZfP N s cl->zfo s cl
 |.int k,cs,h=>h
 |.bool,cs,h=>h
 |.str,cs,h=>by simp only[ZfP,zfo]at *;obtain⟨s,h1,h2⟩:=h;exact⟨s,h1,by omega⟩
 |.slice s,cs,h=>by simp only[ZfP,zfo]at *;obtain⟨r,h1,h2,h3⟩:=h;exact⟨r,h1,by omega,fun x hx=>ZfP.has hN (h3 x hx)⟩
 |.st l,cs,h=>by simp only[ZfP,zfo]at *;exact ZfQ.has hN h
theorem ZfQ.has{N:Nat}(hN:N<=maxLen):∀{l:List Sh} {cl:List Cl},ZfQ N l cl->znD l cl
 |[],cs,h=>h
 |s::l,cs,h=>by simp only[ZfQ,znD]at *;obtain⟨c,d,h1,h2,h3⟩:=h;exact⟨c,d,h1,ZfP.has hN h2,ZfQ.has hN h3⟩
end
theorem Zg2{d:Nat}{t:TypeId}{v:Value}{cl:List Cl}{s:Sh}{r:Reach}{base:Nat}(hs:zey P d t=some s)(h1:VCs (zcC W) zb1 cl v.cells.toList)(h2:zfo s cl)(hok:Value.okWide P W r base t v):WVR (zcC W) zb1 (zAK s cl) v:=by
 cases d with
 |zero=>simp[zey]at hs
 |succ d =>
  simp only[zey]at hs;have single:∀x,cl=[x]->(∀a,v≠.agg a)->(∀a,v≠.tuple a)->WVR (zcC W) zb1 (.c x) v:=by
   intro x hx ha ht;subst hx;obtain⟨u,us,h3,h4,h5⟩:=h1.qM;have h5:=h5.yl;subst h5;have:v.cells = #[v]:=by
    cases v<;>first |rfl |exact absurd rfl (ha _) |exact absurd rfl (ht _)
   rw[this]at h3;simp at h3;subst h3;exact h4
  split at hs
  all_goals rename_i hu
  ·cases hs;simp only[zfo]at h2;obtain⟨m,rfl,_⟩:=h2;exact single _ rfl (fun a ha=>by subst ha;simp[Value.okWide,Cell.okWide,Cell.ok,hu]at hok) (fun a ha=>by subst ha;simp[Value.okWide,Cell.okWide,Cell.ok,hu]at hok)
  ·cases hs;simp only[zfo]at h2;obtain⟨m,rfl⟩:=h2;exact single _ rfl (fun a ha=>by subst ha;simp[Value.okWide,Cell.okWide,Cell.ok,hu]at hok) (fun a ha=>by subst ha;simp[Value.okWide,Cell.okWide,Cell.ok,hu]at hok)
  ·cases hs;simp only[zfo]at h2;obtain⟨m,rfl,_⟩:=h2;exact single _ rfl (fun a ha=>by subst ha;simp[Value.okWide,Cell.okWide,Cell.ok,hu]at hok) (fun a ha=>by subst ha;simp[Value.okWide,Cell.okWide,Cell.ok,hu]at hok)
  ·split at hs
   ·split at hs
    ·cases hs;simp only[zfo]at h2;obtain⟨m,rfl,_⟩:=h2;exact single _ rfl (fun a ha=>by subst ha;simp[Value.okWide,Cell.okWide,Cell.ok,hu]at hok) (fun a ha=>by subst ha;simp[Value.okWide,Cell.okWide,Cell.ok,hu]at hok)
    ·cases hs
   ·cases hs
  ·split at hs
   ·split at hs
    ·cases hs;simp only[Value.okWide,hu]at hok;obtain⟨cs,rfl,_⟩:=hok;exact⟨cs,rfl,h1⟩
    ·cases hs
   ·cases hs
  ·split at hs
   ·split at hs
    ·cases hs;simp only[Value.okWide,hu]at hok;obtain⟨cs,rfl,_⟩:=hok;exact⟨cs,rfl,h1⟩
    ·cases hs
   ·cases hs
  ·cases hs
theorem Zgo{N d:Nat}(hN:N<=maxLen)(hB:Bk bk bkA){r:Reach}{base:Nat}:∀{ts:List TypeId} {l:List Sh} {vs:List Value} {ds:List (DataW H)} {ps:List MemPlace},zlM P d ts=some l->DataW.TrodAll enc P W 0 spare held ts vs ds ps->bkA ds<=N ->
  (∀(j:Nat) t v,ts[j]?=some t->vs[j]?=some v->Value.okWide P W r base t v)->∃xs,zac (zcC W) zb1 xs vs/\ZfW N l xs
 |[],l,[],[],ps,hs,h,hb,hv=>by
  simp only[zlM,ji]at hs;subst hs;exact⟨[],zac.nil,rfl⟩
 |t::ts,l,v::vs,d::ds,ps,hs,h,hb,hv=>by
  obtain⟨p,q,h1,h2,_⟩:=h;rw[hB.cons]at hb;simp only[zlM]at hs;split at hs
  ·rename_i s l' h3 h4;cases hs;obtain⟨n,hn⟩:=h1;obtain⟨cl,h5,h6⟩:=Zgg hB hn (show bk d<=N by omega) h3;obtain⟨xs,h7,h8⟩:=Zgo hN hB h4 h2 (by omega) (fun j t v ht hv'=>hv (j+1) t v (by simpa using ht) (by simpa using hv'));exact⟨zAK s cl::xs,zac.cons (Zg2 h3 h5 (h6.has hN) (hv 0 t v rfl rfl)) h7,cl,xs,rfl,h6,h8⟩
  ·cases hs
 |[],l,_::_,_,ps,hs,h,hb,hv |[],l,[],_::_,ps,hs,h,hb,hv |_::_,l,[],_,ps,hs,h,hb,hv |_::_,l,_::_,[],ps,hs,h,hb,hv=>by simp[DataW.TrodAll]at h
theorem ZgG [GlobP]{N:Nat}(hN:N<=maxLen)(hB:Bk bk bkA)(u6:P.follows .mixedOrders=true){an:Ann}{L:List (Nat×CFn)}{Cs:List (Nat×Nat×Nat×Bool)}(hL:(L.map fun p=>zcF P an true p.1)=L.map fun p=>some p.2)(hV:zql P L=true)
  (hC:(Cs.all fun c=>c.2.1==0||zf2 P c.1 c.2.1 c.2.2.1)=true) (hS:∀c∈Cs,c.2.1=0->zqh P c) {fid:FuncId} (hfid:fid<P.funcs.size) {f:Func} {s:ChangeSpec} {l:List Sh} {d:Nat} {tb:TypeId}
  (hsh:zlM P d f.params.toList=some l) (AK:f.resultTypes = #[tb]) (htb:P.underlying tb=some .bool) (Ca:s.vars=[])
  (hfn:∀ds:List (DataW H),ds.length=f.params.toList.length->s.fn H ds={ results:=[.lit (.bool true)],args:=ds })
  (hlaid:laidOutB P=true) (hmaps:mapsRowed P=true) (hts:f.params.toList.all (· < P.types.size)=true)
  (ve:((List.range P.types.size).all fun t=>match P.underlying t with |some (.slice e)=>decide (0<P.cellsOf e) |_=>true)=true)
  (qY:∀xs,ZfW N l xs->∃M',R L Cs fid xs []=some (.w (.c (.bool true)),M'))
  {W:World} {base:Nat} {args:Array Value} {ds gs:List (DataW H)} {before:List MemPlace} (hbk:bkA (ds++gs)<=N)
  (hG:GK (zcC W)) (hval:∀(j:Nat) t v,f.params[j]?=some t->args[j]?=some v->Value.okWide P W .any base t v) (hW:DataW.Whole enc P f.params.toList s.vars false W args.toList ds gs before) :
  Calls P fid args W fun e W'=>∃v,e=.returned v/\s.post enc P f false true false false W args v W':=by
 letI:=zww P fun f=>L.lookup f
 have hW':=hW;obtain⟨p,q,hA,hV',hb,hfz,hnd⟩:=hW;rw[Ca]at hV';have hg:gs=[]/\q=[]:=by
  cases gs with
  |nil=>exact⟨rfl,hV'⟩
  |cons g gs=>exact absurd hV' (by simp[DataW.TrodVars])
 obtain⟨rfl,rfl⟩:=hg;rw[kN]at hbk;obtain⟨xs,hx1,hx2⟩:=Zgo hN hB hsh hA hbk (fun j t v ht hv=>hval j t v (by simpa using ht) (by simpa using hv));obtain⟨M',hr⟩:=qY xs hx2;obtain⟨n,hn⟩:=zah.1 hr;refine(zsd (zsT u6 hL hV hC hS n) (f:=fid) hfid hn (fun id hid=>by simp at hid) (zml (W:=W) hG) MR.nil hx1).mono fun e W' ⟨he,hsd,hold⟩=>?_
 subst he;have hlen:=zpd hA;have e0:s.fn H (ds++[])={ results:=[.lit (.bool true)],args:=ds }:=by rw[kN];exact hfn ds hlen
 have hlt:∀p'∈p,p'.block<W.heap.size:=fun p' hp=>hA.lt p' hp
 refine⟨_,rfl,zzI (pa:=p) (pv:=[]) hW' hold (zAf hsd hold) hb (fun b sp hd=>?_) (fun sp hsp=>?_) (fun sp _=>?_) ?_⟩
 ·rw[e0,AK];exact⟨[],[],⟨1,by simp[DataW.trod,htb,Value.cells,Value.resultList]⟩,rfl,rfl⟩
 ·rw[e0];exact DataW.TrodAll.respare (T:=(· < P.types.size)) (kids_rows hlaid hmaps) (slices_full_of P ve) (fun t ht=>by simpa using jA.1 hts t ht) (zpc hold hlt hA) (fun x hx=>hsp x (by rw[hb];exact j6 _ hx))
 ·rw[Ca,e0];rfl
 ·intro j t r hj hr;rw[AK]at hj hr;cases j with
  |zero =>
   simp[Value.resultList]at hj hr;subst hj;subst hr;simp[Value.okWide,Cell.okWide,Cell.ok,htb]
  |succ j=>simp at hj
end
end Go.Eng
namespace Go.TrRun
open Go Go.Eng
theorem Zf8(n x0 x1 x2 x3:Int)(l:List z45)(pad:List Int)(hpi:∀x∈pad,zk0 x)(sp up hold:Int)(rows:List (List Int))(hin:∀a∈rows,∀x∈a,zk0 x)(hrl:∀a∈rows,a.length<=1048576)(sg:Bool) :
  R L Cs ZfO [W n,.a [I x0,I x1,I x2,I x3],.c (.jc (z32 l)),.c (.jc (zu pad)),W sp,W up,W hold,.c (.jc (Zcg rows)),Bo sg] []=some (.w (Bo true),[]):=by
 have ha:=Pl.B5;by_cases c1:(7:Int)<l.length
 ·have c1':7<l.length:=by omega
  rw[zUa ZfN rfl];simp[Ze5,c1,c1',ha,zg]
 have c1':¬7<l.length:=by omega
 by_cases c2:(8:Int)<pad.length
 ·have c2':8<pad.length:=by omega
  rw[zUa ZfN rfl];simp[Ze5,c1,c1',c2,c2',ha,zg]
 have c2':¬8<pad.length:=by omega
 by_cases c3:(12:Int)<rows.length
 ·have c3':12<rows.length:=by omega
  rw[zUa ZfN rfl];simp[Ze5,c1,c1',c2,c2',c3,c3',ha,zg]
 obtain⟨m,zs,ss,hF,hFr,hZ,hcon,hM⟩:=Zgb n;exact Zf7 hF hFr hZ hcon n x0 x1 x2 x3 l (by omega) pad (by omega) hpi sp up hold rows (by omega) hin hrl sg hM
theorem ZgD{N:Nat}(hN:N<=maxLen):∀{rows:List (List Cl)},(∀r∈rows,ZfP N (.slice zmN) r)->∃l,rows=Zcg l/\(∀a∈l,∀x∈a,zk0 x)/\∀a∈l,a.length<=N
 |[],_=>⟨[],rfl,by simp,by simp⟩
 |r::rows,h=>by
  obtain⟨l,rfl,hl,hn⟩:=ZgD hN (rows:=rows) (fun x hx=>h x (jy _ hx));have h1:=h r ju;simp only[ZfP]at h1;obtain⟨rs,rfl,hk,hrs⟩:=h1;obtain⟨a,rfl,ha⟩:=zxB (rows:=rs) (fun r hr=>by simp only[zfo];exact hrs r hr);have hk':a.length<=N:=by simpa using hk
  exact⟨a::l,rfl,fun b hb=>by
   rcases jB.1 hb with rfl|hb
   ·exact ha
   ·exact hl b hb,fun b hb=>by
   rcases jB.1 hb with rfl|hb
   ·exact hk'
   ·exact hn b hb⟩
theorem Zga:∀xs,ZfW 1048576 [zmN,.st [zmN,zmN,zmN,zmN],.slice z7r,.slice zmN,zmN,zmN,zmN,.slice (.slice zmN),.bool] xs->∃M',R L Cs ZfO xs []=some (.w (.c (.bool true)),M'):=by
 intro xs h;have hN:1048576<=maxLen:=by decide
 simp only[ZfW]at h;obtain⟨c1,_,rfl,h1,c2,_,rfl,h2,c3,_,rfl,h3,c4,_,rfl,h4,c5,_,rfl,h5,c6,_,rfl,h6,c7,_,rfl,h7,c8,_,rfl,h8,c9,_,rfl,h9,rfl⟩:=h;have h1:=h1.has hN;have h2:=h2.has hN;have h3:=h3.has hN;have h4:=h4.has hN;have h5:=h5.has hN;have h6:=h6.has hN;have h7:=h7.has hN;have h9:=h9.has hN;simp only[zfo,znD]at h1 h2 h3 h4 h5 h6 h7 h9;simp only[ZfP]at h8;obtain⟨n,rfl,_⟩:=h1;obtain⟨_,_,rfl,⟨x0,rfl,_⟩,_,_,rfl,⟨x1,rfl,_⟩,_,_,rfl,⟨x2,rfl,_⟩,_,_,rfl,⟨x3,rfl,_⟩,rfl⟩:=h2;obtain⟨rows,rfl,_,AP⟩:=h3;obtain⟨l,rfl⟩:=z6p (rows:=rows) (fun r hr=>by
  have:=AP r hr;simp only[zfo,znD];exact this)
 obtain⟨rows4,rfl,_,hrows4⟩:=h4;obtain⟨pad,rfl,hpi⟩:=zxB (rows:=rows4) (fun r hr=>by simp only[zfo];exact hrows4 r hr);obtain⟨sp,rfl,_⟩:=h5;obtain⟨up,rfl,_⟩:=h6;obtain⟨hold,rfl,_⟩:=h7;obtain⟨rows8,rfl,_,hrows8⟩:=h8;obtain⟨jL,rfl,hin,hrl⟩:=ZgD hN (rows:=rows8) (fun r hr=>by simp only[ZfP];exact hrows8 r hr);obtain⟨sg,rfl⟩:=h9;exact⟨[],Zf8 n x0 x1 x2 x3 l pad hpi sp up hold jL hin hrl sg⟩
theorem zq2(a:Int):R L [] zlc [W a] []=some (.w (Bo false),[]):=by
 rw[zUa zle rfl];simp[zfU]
theorem zn3(a:Int):R L [] zi5 [W a] []=some (.w (Bo false),[]):=by
 rw[zUa zi9 rfl];simp[ze6]
theorem zuB(a b:Int):R L [] zi6 [W a,W b] []=some (.w (W (zgQ a b)),[]):=by
 have h1:=zq2 a;have h2:=zq2 b;rw[zUa zja rfl];unfold zgQ;by_cases h:a<b
 ·simp[zb3,h1,h2,h]
 ·by_cases h':b<a
  ·simp[zb3,h1,h2,h,h']
  ·simp[zb3,h1,h2,h,h']
theorem zmv(a b:Int):R L [] zhQ [W a,W b] []=some (.w (W (zgQ a b)),[]):=by
 have h1:=zn3 a;have h2:=zn3 b;rw[zUa zhS rfl];unfold zgQ;by_cases h:a<b
 ·simp[zbq,h1,h2,h]
 ·by_cases h':b<a
  ·simp[zbq,h1,h2,h,h']
  ·simp[zbq,h1,h2,h,h']
theorem zxz(b:Bool):R L [] zhB [Bo b] []=some (.w (W (if b then 1 else 0)),[]):=by
 rw[zUa zp4 rfl];cases b<;>simp[zhF]
def orI(a b c d:Int):Int:=if a=0 then(if b=0 then(if c=0 then d else c) else b) else a
abbrev orE(a b c d:Int)(i:Int):Env:=[(7,.w (W 4)),(6,.w (.c (.jc [[I a],[I b],[I c],[I d]]))),(3,.w (W 0)),(8,.w (W i))]
theorem or0(a b c d:Int):R L [] zob [.c (.jc [[I a],[I b],[I c],[I d]])] []=some (.w (W (orI a b c d)),[]):=by
 have w1:IntKind.i64.wrap 1=1:=rfl;have w2:IntKind.i64.wrap 2=2:=rfl;have w3:IntKind.i64.wrap 3=3:=rfl;have w4:IntKind.i64.wrap 4=4:=rfl;have h4:Y L [] zab (some [7,6,3,8]) 0 (orE a b c d 4) []=some (.exit 0,[(9,.w (Bo false)),(3,.w (W 0)),(6,.w (.c (.jc [[I a],[I b],[I c],[I d]]))),(7,.w (W 4)),(8,.w (W 4))],[]):=by
  rw[ZfM zab.eq_1];simp
 have h3:Y L [] zab (some [7,6,3,8]) 0 (orE a b c d 3) []=if d=0 then Y L [] zab (some [7,6,3,8]) 0 (orE a b c d 4) [] else some (.ret,[(2,.w (W d))],[]):=by
  rw[ZfM zab.eq_1];by_cases h:d=0
  ·simp[h,w4]
  ·have h':(d !=0)=true:=by simp[h]
   simp[h,h']
 have h2:Y L [] zab (some [7,6,3,8]) 0 (orE a b c d 2) []=if c=0 then Y L [] zab (some [7,6,3,8]) 0 (orE a b c d 3) [] else some (.ret,[(2,.w (W c))],[]):=by
  rw[ZfM zab.eq_1];by_cases h:c=0
  ·simp[h,w3]
  ·have h':(c !=0)=true:=by simp[h]
   simp[h,h']
 have h1:Y L [] zab (some [7,6,3,8]) 0 (orE a b c d 1) []=if b=0 then Y L [] zab (some [7,6,3,8]) 0 (orE a b c d 2) [] else some (.ret,[(2,.w (W b))],[]):=by
  rw[ZfM zab.eq_1];by_cases h:b=0
  ·simp[h,w2]
  ·have h':(b !=0)=true:=by simp[h]
   simp[h,h']
 have h0:Y L [] zab (some [7,6,3,8]) 0 (orE a b c d 0) []=if a=0 then Y L [] zab (some [7,6,3,8]) 0 (orE a b c d 1) [] else some (.ret,[(2,.w (W a))],[]):=by
  rw[ZfM zab.eq_1];by_cases h:a=0
  ·simp[h,w1]
  ·have h':(a !=0)=true:=by simp[h]
   simp[h,h']
 rw[h4]at h3;rw[h3]at h2;rw[h2]at h1;rw[h1]at h0;rw[zUa zow rfl];unfold orI;by_cases c1:a=0<;>by_cases c2:b=0<;>by_cases c3:c=0<;>by_cases c4:d=0<;>simp only[c1,c2,c3,c4,if_true,if_false]at h0 ⊢<;>simp[zfw,h0]
def zoG(b:Bool):Int:=if b then 1 else 0
def zu6(a b:Swp):Int:=orI (zgQ a.lane b.lane) (zgQ a.lo b.lo) (zgQ a.hi b.hi) (zoG a.cap-zoG b.cap)
theorem less0(a b:Swp):R L [] zar [.a (swC a),.a (swC b)] []=some (.w (W (zu6 a b)),[]):=by
 have h1:=zuB a.lane b.lane;have h2:=zmv a.lo b.lo;have h3:=zmv a.hi b.hi;have h4:R L [] zhB [Bo a.cap] []=some (.w (W (zoG a.cap)),[]):=zxz a.cap;have h5:R L [] zhB [Bo b.cap] []=some (.w (W (zoG b.cap)),[]):=zxz b.cap;have h6:=or0 (zgQ a.lane b.lane) (zgQ a.lo b.lo) (zgQ a.hi b.hi) (zoG a.cap-zoG b.cap);have w:IntKind.i64.wrap (zoG a.cap-zoG b.cap)=zoG a.cap-zoG b.cap:=by
  cases a.cap<;>cases b.cap<;>rfl
 unfold zu6;generalize zgQ a.lane b.lane=x1 at *;generalize zgQ a.lo b.lo=x2 at *;generalize zgQ a.hi b.hi=x3 at *;generalize zoG a.cap=o1 at *;generalize zoG b.cap=o2 at *;rw[zUa zsv rfl];simp[zjq,swC,h1,h2,h3,h4,h5,h6,w,zg,zX]
theorem zz5(a b:Swp):(zu6 a b<0)<->ltS a b=true:=by
 rw[zz2];unfold zu6 orI zgQ zoG;by_cases h1:a.lane<b.lane
 ·simp[h1]
 ·by_cases h2:b.lane<a.lane
  ·have:¬a.lane=b.lane:=by omega
   simp[h1,h2,this]
  ·have e1:a.lane=b.lane:=by omega
   by_cases h3:a.lo<b.lo
   ·simp[e1,h3]
   ·by_cases h4:b.lo<a.lo
    ·have:¬a.lo=b.lo:=by omega
     simp[e1,h3,h4,this]
    ·have e2:a.lo=b.lo:=by omega
     by_cases h5:a.hi<b.hi
     ·simp[e1,e2,h5]
     ·by_cases h6:b.hi<a.hi
      ·have:¬a.hi=b.hi:=by omega
       simp[e1,e2,h5,h6,this]
      ·have e3:a.hi=b.hi:=by omega
       cases a.cap<;>cases b.cap<;>simp[e1,e2,e3]
end Go.TrRun
namespace Go.Eng
open Go
theorem zsf [zb0]{P:Program}{cf:za4}(hcf:FnS P cf){f:FuncId}(hf:f<zb0.base){args:List WV}{vs:Array Value}{w:World}{σ:zP}{j:Inj}{M':Mem}{c:Int}(h:cf f args []=some (.w (.c (.int .i64 c)),M'))
  (hag:zM σ w) (hvs:zac σ j args vs.toList) (hm:MR (fun b=>w.heap.size<=b) σ j [] w) :
  Calls P f vs w fun e w'=>e=.returned (.int .i64 c)/\∃q os',w'=Go.Sort.grow (w.drewN q) os':=by
 obtain⟨_,_,_,_,hc⟩:=(hcf f args [] _ _ h (fun id hid=>by simp at hid)).1 hf;refine Calls.y9 (hc (fun b=>w.heap.size<=b) σ j w vs (fun _ h=>h) hag hm hvs) ?_;rintro e w' ⟨v,σ',j',rfl,hr,_,_,hst⟩;have hr:VC σ' j' (.int .i64 c) v:=hr;cases hr;refine⟨rfl,w'.drawn-w.drawn,w'.heap.extract w.heap.size w'.heap.size,?_⟩;have h1:=hst.side.os;have h2:=hst.side.output;have h3:=hst.side.tape;have h4:=hst.side.drawn;have h5:=hst.frame;have h6:=hst.size;cases w' with |mk heap tape drawn os output =>
 simp only at h1 h2 h3 h4 h5 h6;subst h1;subst h2;subst h3;unfold Go.Sort.grow World.drewN;simp only[World.mk.injEq,and_true,true_and];refine⟨?_,by omega⟩;apply Array.ext_getElem?;intro i;by_cases hi:i<w.heap.size
 ·rw[kT hi];exact h5 i hi (by omega)
 ·rw[yu (by omega),uH];by_cases hi2:i<heap.size
  ·rw[if_pos (by omega)]
   congr 1;omega
  ·rw[if_neg (by omega)];exact qZ (by omega)
end Go.Eng
namespace Go.TrRun
open Go Go.Eng
theorem zxp(σ:zP)(j:Inj)(x:List Int):WVR σ j (.a (swC (zik x))) (.agg (ziq 4 7 x).toArray):=by
 refine⟨_,rfl,?_⟩;have e:(ziq 4 7 x).toArray.toList=[.int .i64 (x.getD 0 0),.int .i64 (x.getD 1 0),.int .i64 (x.getD 2 0),.bool (x.getD 3 0 !=0)]:=rfl;rw[e];refine⟨rfl,fun n c v hc hv=>?_⟩
 match n with
 |0=>cases hc;cases hv;exact .int _ _ _
 |1=>cases hc;cases hv;exact .int _ _ _
 |2=>cases hc;cases hv;exact .int _ _ _
 |3=>cases hc;cases hv;exact .bool _ _
 |n+4=>cases hc
def zAw(x y:List Int):Int:=zu6 (zik x) (zik y)
theorem zBC:(fun x y=>decide (zAw x y<0))=ltZ 4 7:=by
 funext x y;have h:=zz5 (zik x) (zik y);have e:ltS (zik x) (zik y)=ltZ 4 7 x y:=by
  have k1:∀z:List Int,zji (zik z)=zsY 4 7 z:=fun z=>by
   simp[zji,zik,zsY,List.range,List.range.loop,zgk]
  simp only[ltS,ltZ,k1,if_true]
 rw[e]at h;unfold zAw;cases hz:ltZ 4 7 x y with
 |true=>exact decide_eq_true (h.2 hz)
 |false =>
  refine decide_eq_false fun h'=>?_
  rw[h.1 h']at hz;cases hz
theorem zwK{P:Program}(u6:P.follows .mixedOrders=true)(hL:(L.map fun p=>zcF P an true p.1)=L.map fun p=>some p.2)(hV:zql P L=true)(hf:zar<P.funcs.size)(x y:List Int)(W:World) :
  Calls P zar #[.agg (ziq 4 7 x).toArray,.agg (ziq 4 7 y).toArray] W fun e w'=>e=.returned (.int .i64 (zAw x y))/\∃q os',w'=Go.Sort.grow (W.drewN q) os':=by
 letI:=zww P fun f=>L.lookup f
 obtain⟨n,hn⟩:=zah.1 (less0 (zik x) (zik y));exact zsf (zsT u6 hL hV (Cs:=[]) rfl (fun c hc=>by cases hc) n) (f:=zar) hf hn (zml (W:=W) fun g row hr=>by cases hr) (.cons (zxp _ _ x) (.cons (zxp _ _ y) .nil)) MR.nil
end Go.TrRun
