/- This text proves what functions of this seat's program answer, run by the evaluator; no condition. -/
import Derived.Test.YtdndkdliiojpiaaGreatTx3
import Derived.WalkSmall
set_option maxHeartbeats 8000000
set_option linter.unusedVariables false
set_option linter.unusedSimpArgs false
set_option linter.unusedSectionVars false
set_option maxRecDepth 10000
namespace Go.TrRun
open Go Go.Eng
theorem zRk(m:zD)(zs:List Zon)(r:List Int)(y:Nat):0<=(zKn (zKh m zs 0 r) y).entry<->(zNx (zKh m zs 0 r) y).2.2=true:=by
 obtain⟨_,h2,h3,_⟩:=zOR (zKh m zs 0 r) (fun p hp=>(zNh m zs r 0 p hp).2.1) y;cases hb:(zNx (zKh m zs 0 r) y).2.2 with
 |true=>exact⟨fun _=>rfl,fun _=>(h2 hb).1⟩
 |false=>rw[h3 hb];exact⟨fun h=>absurd h (by decide),fun h=>by cases h⟩
theorem zRC(m:zD)(zs:List Zon)(r:List Int)(p:Vis->Bool)(q:Nat->Bool)(h:∀y:Nat,y<zs.length->q y=((zNx (zKh m zs 0 r) y).2.2&&p (zKn (zKh m zs 0 r) y))):(pvV m zs r).any p=(List.range zs.length).any q:=by
 rw[AH,jS,jS];constructor
 ·rintro⟨v,hv,hp⟩;obtain⟨y,_,hy,he,rfl⟩:=(zNn _ _ _ _).1 hv;refine⟨y,qE.2 (by omega),?_⟩;rw[h y (by omega),hp,(zRk m zs r y).1 he];rfl
 ·rintro⟨y,hy,hq⟩;have hy:=qE.1 hy;rw[h y hy,jk]at hq;exact⟨zKn (zKh m zs 0 r) y,(zNn _ _ _ _).2 ⟨y,by omega,by omega,(zRk m zs r y).2 hq.1,rfl⟩,hq.2⟩
theorem zRZ(m:zD)(zs:List Zon)(r:List Int)(len:Int)(e:Ego):(pvV m zs r).any (zOS len e)=(List.range zs.length).any (enP (zKh m zs 0 r) len e.shi e.slo):=by
 refine zRC m zs r _ _ fun y hy=>?_
 obtain⟨_,_,_,h4,h5⟩:=zOR (zKh m zs 0 r) (fun p hp=>(zNh m zs r 0 p hp).2.1) y;unfold enP zOS;rw[h4,h5,Bool.and_assoc]
theorem zRE(m:zD)(zs:List Zon)(ss:List Sgn)(r:List Int)(shi slo tick:Int):(pvV m zs r).any (zNj zs ss shi slo tick)=(List.range zs.length).any (grP zs ss (zKh m zs 0 r) shi slo tick):=by
 refine zRC m zs r _ _ fun y hy=>?_
 obtain⟨h1,h2,_,h4,h5⟩:=zOR (zKh m zs 0 r) (fun p hp=>(zNh m zs r 0 p hp).2.1) y;unfold grP zNj zP1 zP0;cases hb:(zNx (zKh m zs 0 r) y).2.2 with
 |false=>simp
 |true =>
  rw[h1,h4,(h2 hb).2];simp only[vW,Bool.and_assoc]
abbrev vU(l:List Int)(i:Int):Int:=Pl.vU l i
@[simp] theorem zHc(k:zci):(zG k).length=6:=rfl
theorem zGU{jP:List Int}(h:∀a∈jP,zk0 a)(i:Int):zk0 (vU jP i):=by
 unfold vU Pl.vU;split
 ·simp[zk0]
 ·cases hq:jP[(max 0 (min i (jP.length-1))).toNat]? with
  |none=>simp[zk0]
  |some a=>exact h a (kF hq)
theorem z5c(l:List zk)(hl:l.length<=100000000000)(fnv:Cl)(f:zk->Bool)(M:Mem)(hc:∀p∈l,zx (R L Cs) ⟨true⟩ (.c fnv) [.a (ze p)] M=some (.w (Bo (f p)),M,.no)) :
  ∃k:Int,R L Cs zjK [.c (.jc (zI l)),.c fnv] M=some (.w (W k),M)/\(decide (0<=k)=l.any f):=by
 have htk:∀p:zk,List.take (ze p).length (ze p)=ze p:=fun p=>qu
 have h:=zxf (L:=L) (Cs:=Cs) (b:=zbF) (live:=some [7,1,0,8]) (n0:=M.length) l (fun i=>[(7,.w (W l.length)),(1,.w (.c fnv)),(0,.w (.c (.jc (zI l)))),(8,.w (W i))]) M f (fun i=>(.ret,[(4,.w (W i))],M)) (.exit 0,[(9,.w (Bo false)),(0,.w (.c (.jc (zI l)))),(1,.w (.c fnv)),(7,.w (W l.length)),(8,.w (W l.length))],M) ?_ ?_ ?_
 ·cases hq:l.findIdx? f with
  |none =>
   rw[hq]at h;refine⟨-1,?_,?_⟩
   ·simp only[jh]at h;rw[zUa zj5 rfl];simp[zc2,h]
   ·rw[kj]at hq;have:l.any f=false:=by simpa using hq
    rw[this];decide
  |some k =>
   rw[hq]at h;refine⟨k,?_,?_⟩
   ·simp only[jh]at h;rw[zUa zj5 rfl];simp[zc2,h]
   ·obtain⟨h1,h2,_⟩:=jU.1 hq;have:l.any f=true:=jS.2 ⟨_,jf h1,h2⟩;rw[this];simp
 ·intro i hi hp;have hw:=zB (i:=i) (by omega);have hcc:=hc l[i] (jf hi);have ht:=htk l[i];simp only[zDd]at ht;rw[hp]at hcc;rw[ZfM zbF.eq_1];simp[hi,hw,hcc,ht,-zx]
 ·intro i hi hp;have hcc:=hc l[i] (jf hi);have ht:=htk l[i];simp only[zDd]at ht;rw[hp]at hcc;rw[ZfM zbF.eq_1];simp[hi,hcc,ht,-zx]
 ·rw[ZfM zbF.eq_1];simp
theorem ZaX(l:List Fnd)(hl:l.length<=100000000000)(fnv:Cl)(f:Fnd->Bool)(M:Mem)(hc:∀p∈l,zx (R L Cs) ⟨true⟩ (.c fnv) [.a (zWN p)] M=some (.w (Bo (f p)),M,.no)) :
  ∃k:Int,R L Cs z8y [.c (.jc (zWw l)),.c fnv] M=some (.w (W k),M)/\(decide (0<=k)=l.any f):=by
 have htk:∀p:Fnd,List.take (zWN p).length (zWN p)=zWN p:=fun p=>qu
 have h:=zxf (L:=L) (Cs:=Cs) (b:=z7Q) (live:=some [7,1,0,8]) (n0:=M.length) l (fun i=>[(7,.w (W l.length)),(1,.w (.c fnv)),(0,.w (.c (.jc (zWw l)))),(8,.w (W i))]) M f (fun i=>(.ret,[(4,.w (W i))],M)) (.exit 0,[(9,.w (Bo false)),(0,.w (.c (.jc (zWw l)))),(1,.w (.c fnv)),(7,.w (W l.length)),(8,.w (W l.length))],M) ?_ ?_ ?_
 ·cases hq:l.findIdx? f with
  |none =>
   rw[hq]at h;refine⟨-1,?_,?_⟩
   ·simp only[jh]at h;rw[zUa z8m rfl];simp[z7X,h]
   ·rw[kj]at hq;have:l.any f=false:=by simpa using hq
    rw[this];decide
  |some k =>
   rw[hq]at h;refine⟨k,?_,?_⟩
   ·simp only[jh]at h;rw[zUa z8m rfl];simp[z7X,h]
   ·obtain⟨h1,h2,_⟩:=jU.1 hq;have:l.any f=true:=jS.2 ⟨_,jf h1,h2⟩;rw[this];simp
 ·intro i hi hp;have hw:=zB (i:=i) (by omega);have hcc:=hc l[i] (jf hi);have ht:=htk l[i];simp only[z1L]at ht;rw[hp]at hcc;rw[ZfM z7Q.eq_1];simp[hi,hw,hcc,ht,-zx]
 ·intro i hi hp;have hcc:=hc l[i] (jf hi);have ht:=htk l[i];simp only[z1L]at ht;rw[hp]at hcc;rw[ZfM z7Q.eq_1];simp[hi,hcc,ht,-zx]
 ·rw[ZfM z7Q.eq_1];simp
def htF(b:zk)(f:Fnd):Bool:=decide (f.lo<=b.hi)&&decide (b.lo<=f.hi)
theorem Zbc(f:Fnd)(b:zk):R L Cs z8c [.a (zWN f),.c (.ptr 0 0 0 0)] [bx 6 (ze b)]=some (.w (Bo (htF b f)),[bx 6 (ze b)]):=by
 rw[zUa z83 rfl];unfold htF;by_cases c1:f.lo<=b.hi<;>by_cases c2:b.lo<=f.hi<;>simp[z8d,zWN,ze,c1,c2,zg,zH]
theorem Za6(b:zk)(l:List Fnd)(hl:l.length<=100000000000):R L Cs z8t [.c (.jc (zWw l)),.c (.fn z8c [] [.ptr 0 0 0 0])] [bx 6 (ze b)]=some (.w (Bo (l.any (htF b))),[bx 6 (ze b)]):=by
 obtain⟨k,h1,h2⟩:=ZaX l hl (.fn z8c [] [.ptr 0 0 0 0]) (htF b) [bx 6 (ze b)] (fun f _=>by
  have h:=Zbc f b;simp only[ze,zWN]at h;simp[h,ze,zWN])
 rw[zUa z8u rfl];simp only[ze]at h1;simp[z71,h1,h2,ze]
def exB(m:zD)(p:Pnt)(b:zk):Bool:=if h:0<=b.lane/\b.lane.toNat<m.jd.length then(zXt b.lane (m.jd[b.lane.toNat]'h.2) p).any (htF b) else false
theorem Zy{m:zD}(h1:zXl m){l:zfn}(hl:l∈m.jd)(x:Int)(p:Pnt):(zXt x l p).length<=1:=by
 have:=(zYS h1 hl p).1;simpa [zXt]using this
theorem Zbj{m:zD}(h:zcp m)(h1:zXl m)(v:Nat)(p:Pnt)(hp:zXq p=true)(b:zk):R L Cs z8j [.a (ze b),.c (.ptr 0 0 0 0),.c (.ptr 1 0 0 0)] [bx 5 (zf m),bxv v 3 (zYi p)]=some (.w (Bo (exB m p b)),[bx 5 (zf m),bxv v 3 (zYi p)]):=by
 rw[zUa z9i rfl];unfold exB;by_cases c1:0<=b.lane
 ·obtain⟨j,hj⟩:=jz c1;by_cases c2:j<m.jd.length
  ·have hF:=z1F h h1 c2 p hp;have hC:=Za6 b (zXt j m.jd[j] p) (by have:=Zy h1 (jf c2) j p;omega);have c3:(j:Int)<m.jd.length:=by omega
   obtain⟨lane,lo,hi,vlo,vhi,hold⟩:=b;simp only at hj;subst hj;have hc:0<=(j:Int)/\(j:Int).toNat<m.jd.length:=⟨c1,by simpa using c2⟩;rw[dif_pos hc];simp only[Int.toNat_natCast];generalize zXt j m.jd[j] p=fs at *;simp only[zf,zYi,ze]at hF hC;simp[z70,zf,zYi,ze,c3,hF,hC,zg,zH]
  ·have c3:¬b.lane<m.jd.length:=by omega
   rw[dif_neg (by rw[hj];simpa using c2)];simp[z70,zf,zYi,ze,c1,c3,zg,zH]
 ·rw[dif_neg (fun h=>c1 h.1)];simp[z70,zf,zYi,ze,c1,zg,zH]
theorem Zbe{m:zD}(h:zcp m)(h1:zXl m)(v:Nat)(p:Pnt)(hp:zXq p=true)(l:List zk)(hl:l.length<=100000000000):R L Cs z3f [.c (.jc (zI l)),.c (.fn z8j [] [.ptr 0 0 0 0,.ptr 1 0 0 0])] [bx 5 (zf m),bxv v 3 (zYi p)]=some (.w (Bo (l.any (exB m p))),[bx 5 (zf m),bxv v 3 (zYi p)]):=by
 obtain⟨k,e1,e2⟩:=z5c l hl (.fn z8j [] [.ptr 0 0 0 0,.ptr 1 0 0 0]) (exB m p) [bx 5 (zf m),bxv v 3 (zYi p)] (fun b _=>by
  have h:=Zbj h h1 v p hp b;simp only[ze,zf,zYi]at h;simp[h,ze,zf,zYi])
 rw[zUa z3h rfl];simp only[zf,zYi]at e1;simp[z2O,e1,e2,zf,zYi]
theorem KNd.chk{m:zD}{k:zci}(h:KNd m k):zdf m k=0:=by
 refine zFv ?_ h.j.vb h.j.apt;have h1:=h.t;have h2:=h.j.ego.s;have h3:=h.j.ego.v;unfold ziI zsa;omega
def Zib(m:zD)(k:zci)(x:zZP):zci:=⟨k.tick,zXm m x.seen x.pts k.jZ,k.ego⟩
theorem KNd.upd{m:zD}{k:zci}(h:KNd m k)(x:zZP):KNd m (Zib m k x):=by
 obtain⟨h1,h2⟩:=zZj (seen:=x.seen) (pts:=x.pts) h.j.vb h.j.apt;exact⟨⟨h1,h2,h.j.ego⟩,h.t⟩
theorem KNd.own{S:StV}{k:zci}(h:KNd S.m k):KNd S.m (Zhv S k):=⟨⟨ztK _ _ _ _ h.j.vb,zFg _ _ _ _ _ h.j.apt,h.j.ego⟩,h.t⟩
theorem KNd.spd{m:zD}{k:zci}(h:KNd m k)(a b c:Int):KNd m (z9f k a b c).1:=by
 obtain⟨q1,q2,_⟩:=ZhO k a b c;exact⟨⟨by rw[q1];exact h.j.vb,by rw[q1];exact h.j.apt,Zj1 h.j.ego a b c⟩,by rw[q2];exact h.t⟩
theorem KNd.fix{m:zD}{k:zci}(h:KNd m k)(a b c:Int):KNd m (Zag k a b c).1:=by
 obtain⟨q1,q2,_⟩:=ZiV k a b c;exact⟨⟨by rw[q1];exact h.j.vb,by rw[q1];exact h.j.apt,ZkO h.j.ego a b c⟩,by rw[q2];exact h.t⟩
theorem KNd.spds{m:zD}:∀(l:List Mrk) {k:zci} (b:Bool),KNd m k->KNd m (ZhZ l (k,b)).1/\(ZhZ l (k,b)).1.tick=k.tick
 |[],k,b,h=>⟨h,rfl⟩
 |x::l,k,b,h=>by
  have e:=(ZhO k x.st x.lo x.hi).2.1;obtain⟨h1,h2⟩:=KNd.spds l (b&&(z9f k x.st x.lo x.hi).2) (h.spd x.st x.lo x.hi);exact⟨h1,h2.trans e⟩
theorem KNd.fixs{m:zD}:∀(l:List Mrk) {k:zci} (b:Bool),KNd m k->KNd m (Zis l (k,b)).1/\(Zis l (k,b)).1.tick=k.tick
 |[],k,b,h=>⟨h,rfl⟩
 |x::l,k,b,h=>by
  have e:=(ZiV k x.st x.lo x.hi).2.1;obtain⟨h1,h2⟩:=KNd.fixs l (b&&(Zag k x.st x.lo x.hi).2) (h.fix x.st x.lo x.hi);exact⟨h1,h2.trans e⟩
def ZiS(m:zD)(k:zci)(pts:List Pnt):Bool:=(pts.filter zXq).all fun p=>k.jZ.any (exB m p)
theorem Zk6{m:zD}(h:zcp m)(h1:zXl m)(k:zci)(hk:k.jZ.length<=100000000000)(pts:List Pnt)(hp:pts.length<=1000):R L Cs z9x [.a (zf m),.a (zG k),.c (.jc (zWs pts))] []=some (.w (Bo (ZiS m k pts)),[]):=by
 have hC:=z0z pts hp;have hck:=h.chk;have hfl:=qB zXq pts;have hex':∀p∈pts.filter zXq,zXq p=true:=fun p hq=>(qs.1 hq).2
 unfold ZiS;generalize pts.filter zXq=q at *;have hlen:(zWs q).length=q.length:=by simp[zWs]
 have hL:=zxf (L:=L) (Cs:=Cs) (b:=z76) (live:=some [15,14,3,4,16]) (n0:=2) q (fun i=>[(15,.w (W q.length)),(14,.w (.c (.jc (zWs q)))),(3,.w (Pt 0)),(4,.w (Pt 1)),(16,.w (W i))]) [bx 5 (zf m),bx 6 (zG k)] (fun p=>!(k.jZ.any (exB m p)))
  (fun i=>(.ret,[(6,.w (Bo false))],[bx 5 (zf m),bx 6 (zG k),bxv 1 3 (zYi (q.getD i ⟨0,0,0⟩))])) (.exit 0,[(17,.w (Bo false)),(4,.w (Pt 1)),(3,.w (Pt 0)),(14,.w (.c (.jc (zWs q)))),(15,.w (W q.length)),(16,.w (W q.length))],[bx 5 (zf m),bx 6 (zG k)])
  (fun i hi hh=>by
   have hw:=zB (i:=i) (by omega);have hci:(i:Int)<q.length:=by omega
   have hE:=Zbe h h1 1 q[i] (hex' _ (jf hi)) k.jZ hk;have hh:k.jZ.any (exB m q[i])=true:=by simpa using hh
   rw[hh]at hE;have kV:(zWs q)[i]?=some (zYi q[i]):=by simp[zWs,hi]
   generalize q[i]=p at *;simp only[zf,zYi,zG]at hE;rw[ZfM z76.eq_1];simp only[zYi]at kV;simp[zf,zG,zYi,hci,hw,hlen,kV,hE,zg,zH])
  (fun i hi hh=>by
   have hci:(i:Int)<q.length:=by omega
   have hE:=Zbe h h1 1 q[i] (hex' _ (jf hi)) k.jZ hk;have hh:k.jZ.any (exB m q[i])=false:=by simpa using hh
   rw[hh]at hE;have kV:(zWs q)[i]?=some (zYi q[i]):=by simp[zWs,hi]
   have hd:q.getD i ⟨0,0,0⟩=q[i]:=by simp[hi]
   rw[hd];generalize q[i]=p at *;simp only[zf,zYi,zG]at hE;rw[ZfM z76.eq_1];simp only[zYi]at kV;simp[zf,zG,zYi,hci,hlen,kV,hE,zg,zH])
  (by rw[ZfM z76.eq_1];simp[zf,zG])
 simp only[zf,zG,jh]at hC hck hL;rw[zUa z9y rfl];cases hf:q.findIdx? (fun p=>!(k.jZ.any (exB m p)))with
 |none =>
  rw[hf]at hL;have ha:(q.all fun p=>k.jZ.any (exB m p))=true:=by
   rw[kj]at hf;exact jI.2 fun p hp=>by simpa using hf p hp
  rw[ha];simp[z8o,zf,zG,hC,hck,hlen,hL,zg,zH]
 |some i =>
  rw[hf]at hL;have ha:(q.all fun p=>k.jZ.any (exB m p))=false:=by
   obtain⟨h1,h2,_⟩:=jU.1 hf;exact List.all_eq_false.2 ⟨_,jf h1,by simpa using h2⟩
  rw[ha];simp[z8o,zf,zG,hC,hck,hlen,hL,zg,zH]
def ZiH(S:StV)(l:List zZP)(x:zci×Bool):zci×Bool:=l.foldl (fun q y=>(Zhv S (Zib S.m q.1 y),q.2&&ZiS S.m (Zhv S (Zib S.m q.1 y)) y.pts)) x
theorem KNd.scns{S:StV}:∀(l:List zZP) {k:zci} (b:Bool),KNd S.m k->KNd S.m (ZiH S l (k,b)).1/\(ZiH S l (k,b)).1.tick=k.tick
 |[],k,b,h=>⟨h,rfl⟩
 |x::l,k,b,h=>by
  obtain⟨h1,h2⟩:=KNd.scns l (b&&ZiS S.m (Zhv S (Zib S.m k x)) x.pts) (h.upd x).own;exact⟨h1,h2⟩
structure Zld(h:Hrd)(t:Int):Prop where
 n1:h.ku.length<=1000
 n2:h.qf.length<=1000
 n3:h.qk.length<=1000
 st:∀x∈h.qk,x.uJ=t
 se:∀x∈h.qk,x.seen.length<=5000
 pt:∀x∈h.qk,x.pts.length<=1000
abbrev Zlk(l:List zZP)(i:Nat)(ok:Bool):Env:=[(6,.w (Bo ok)),(69,.w (W i)),(68,.w (W l.length)),(4,.w (Pt 4)),(67,.w (.c (.jc (ZlG l)))),(0,.w (Pt 0)),(3,.w (Pt 3))]
theorem Zj6{S:StV}{zs:List Zon}{ss:List Sgn}(hS:z6u S zs ss)(d:NdV)(g:RgV)(c:Int)(es:List Ent)(v w u:Nat)(l:List zZP)(t:Int)(hl:l.length<=1000)(hst:∀x∈l,x.uJ=t)(hse:∀x∈l,x.seen.length<=5000)(hpt:∀x∈l,x.pts.length<=1000)(H:Hrd):∀(r:List zZP) (i:Nat) (k:zci) (ok:Bool) (vk:Nat),l.drop i=r->i<=l.length->KNd S.m k->k.tick=t ->
  ∃vk',Y L Cs Zhf (some [6,69,68,4,67,0,3]) 6 (Zlk l i ok) (fuM S d g c es v w u k vk H)=some (.exit 4,(70,.w (Bo false))::Zlk l l.length (ZiH S r (k,ok)).2,fuM S d g c es v w u (ZiH S r (k,ok)).1 vk' H)
 |[],i,k,ok,vk,hd,hi,hk,ht=>by
  have e:i=l.length:=by
   have:=congrArg List.length hd;simp at this;omega
  subst e;refine⟨vk,?_⟩;obtain⟨s0,s1,s2,s3,s4,n,ini,p⟩:=g;rw[ZfM Zhf.eq_1];cases ini<;>simp[ZiH,Zly]
 |x::r,i,k,ok,vk,hd,hi,hk,ht=>by
  have h1:i<l.length:=by
   have:=congrArg List.length hd;simp at this;omega
  have h2:l[i]=x:=by rw[jy h1]at hd;exact(j9 hd).1
  have h3:l.drop (i+1)=r:=by rw[jy h1]at hd;exact(j9 hd).2
  have hx:x∈l:=by rw[<-h2];exact jf h1
  have hw:=zB (i:=i) (by omega);have hci:(i:Int)<l.length:=by omega
  have kV:(ZlG l)[i]?=some (zX6 x):=by rw[ZjE h1,h2]
  have hf:=hS.full.full;have hU:=Zal hf.qR hf.yz ⟨hf.one.one⟩ k hk.chk x (by rw[hst x hx,ht]) (hse x hx) (hpt x hx);have hk1:=hk.upd x;have hO:=ZjW hS d g c es v w u (k:=Zib S.m k x) (by have:=hk1.len hS;omega) hk1.j.ego;have hk2:=hk1.own;have hE:=Zk6 hf.qR ⟨hf.one.one⟩ (Zhv S (Zib S.m k x)) (by have:=hk2.len hS;omega) x.pts (hpt x hx);obtain⟨vk',ih⟩:=Zj6 hS d g c es v w u l t hl hst hse hpt H r (i+1) (Zhv S (Zib S.m k x)) (ok&&ZiS S.m (Zhv S (Zib S.m k x)) x.pts) (vk+1) h3 (by omega) hk2 ht;refine⟨vk',?_⟩;have e:ZiH S (x::r) (k,ok)=ZiH S r (Zhv S (Zib S.m k x),ok&&ZiS S.m (Zhv S (Zib S.m k x)) x.pts):=rfl;rw[e,<-ih];have e2:Zib S.m k x=⟨k.tick,zXm S.m x.seen x.pts k.jZ,k.ego⟩:=rfl;rw[<-e2]at hU;generalize Zib S.m k x=k1 at *;generalize Zhv S k1=k2 at *;generalize ZiS S.m k2 x.pts=b at *;obtain⟨s0,s1,s2,s3,s4,n,ini,p⟩:=g;simp only[zf,zG,zX6]at hU hO hE;simp only[zX6]at kV;rw[ZfM Zhf.eq_1];cases ok<;>cases ini<;>simp[ndM,ndC,rgC,mpB,bxv]at hO<;>simp[hci,hw,kV,hU,hO,hE,zG,Zly,-Int.natCast_add]
def znB(n:Int):List Ent->Option Hrd
 |[]=>none
 |e::r=>if n=e.key then some e.hrd else znB n r
def ZiR(n:Int):List Ent->Nat->Option (Nat×Hrd)
 |[],_=>none
 |e::r,i=>if n=e.key then some (i,e.hrd) else ZiR n r (i+1)
theorem Zkr(n:Int):∀(es:List Ent) (i:Nat),(ZiR n es i).map Prod.snd=znB n es
 |[],_=>rfl
 |e::r,i=>by
  unfold ZiR znB;split
  ·rfl
  ·exact Zkr n r (i+1)
theorem ZiE(n:Int):∀(es:List Ent) (i:Nat),zta .i64 n (List.map Zly es) i=some ((ZiR n es i).map fun q=>(q.1,Zli q.2))
 |[],_=>rfl
 |e::r,i=>by
  rw[kH];show zta .i64 n ([I e.born,I e.key,_,_,_]::_) i=_;unfold zta ZiR;by_cases h:n=e.key
  ·simp[h]
  ·simp only[↓reduceIte,h];exact ZiE n r (i+1)
theorem Zia{M:Mem}{c:Int}{es:List Ent}{u:Nat}{id:Nat}(h:M[id]?=some (mpB c es u)):zi4 M id=some ({ box:=true,esz:=1,rows:=[I c]::es.map Zly,gen:=0,fz:=false,ver:=u },c,es.map Zly):=by
 unfold zi4 Eng.look;rw[h];simp
theorem Zih{M:Mem}{c:Int}{es:List Ent}{u:Nat}{id:Nat}(h:M[id]?=some (mpB c es u))(n:Int)(z:WV):znp M false true z [.c (.map id true),.c (.int .i64 n)]=some (.w (match znB n es with |some h=>.a (Zli h) |none=>z),M,.no):=by
 unfold znp;simp only[↓reduceIte,Zia h,ZiE,<-Zkr n es 0];cases ZiR n es 0 with
 |none=>rfl
 |some q=>rfl
def znE(S:StV)(h:Option Hrd)(k:zci):zci×Bool:=match h with
 |none=>(Zhv S k,true)
 |some h=>ZiH S h.qk (Zhv S (Zis h.qf (ZhZ h.ku (k,true))).1,(Zis h.qf (ZhZ h.ku (k,true))).2)
theorem KNd.Bl{S:StV}{k:zci}(h:KNd S.m k)(q:Option Hrd):KNd S.m (znE S q k).1/\(znE S q k).1.tick=k.tick:=by
 cases q with
 |none=>exact⟨h.own,rfl⟩
 |some y =>
  obtain⟨a1,a2⟩:=h.spds y.ku true;obtain⟨b1,b2⟩:=a1.fixs y.qf (ZhZ y.ku (k,true)).2;obtain⟨c1,c2⟩:=KNd.scns (S:=S) y.qk (Zis y.qf (ZhZ y.ku (k,true))).2 b1.own;exact⟨c1,c2.trans (b2.trans a2)⟩
theorem Zk2(ok:Bool)(M:Mem):Y L Cs Zhh (some [6,28,27,7,4,0,26,3]) 6 [(6,.w (Bo ok)),(28,.w (W 0)),(27,.w (W 0)),(7,.w (Pt 5)),(4,.w (Pt 4)),(0,.w (Pt 0)),(26,.w (.c .jb)),(3,.w (Pt 3))] M=some (.exit 0,[(29,.w (Bo false)),(6,.w (Bo ok)),(28,.w (W 0)),(27,.w (W 0)),(7,.w (Pt 5)),(4,.w (Pt 4)),(0,.w (Pt 0)),(26,.w (.c .jb)),(3,.w (Pt 3))],M):=by
 rw[ZfM Zhh.eq_1];simp
theorem Zk1(ok:Bool)(M:Mem):Y L Cs Zhg (some [6,47,46,0,4,7,45,3]) 6 [(6,.w (Bo ok)),(47,.w (W 0)),(46,.w (W 0)),(0,.w (Pt 0)),(4,.w (Pt 4)),(7,.w (Pt 5)),(45,.w (.c .jb)),(3,.w (Pt 3))] M=some (.exit 2,[(48,.w (Bo false)),(6,.w (Bo ok)),(47,.w (W 0)),(46,.w (W 0)),(0,.w (Pt 0)),(4,.w (Pt 4)),(7,.w (Pt 5)),(45,.w (.c .jb)),(3,.w (Pt 3))],M):=by
 rw[ZfM Zhg.eq_1];simp
theorem Zk0(ok:Bool)(M:Mem):Y L Cs Zhf (some [6,69,68,4,67,0,3]) 6 [(6,.w (Bo ok)),(69,.w (W 0)),(68,.w (W 0)),(4,.w (Pt 4)),(67,.w (.c .jb)),(0,.w (Pt 0)),(3,.w (Pt 3))] M=some (.exit 4,[(70,.w (Bo false)),(6,.w (Bo ok)),(69,.w (W 0)),(68,.w (W 0)),(4,.w (Pt 4)),(67,.w (.c .jb)),(0,.w (Pt 0)),(3,.w (Pt 3))],M):=by
 rw[ZfM Zhf.eq_1];simp
theorem ZjM{S:StV}{zs:List Zon}{ss:List Sgn}(hS:z6u S zs ss)(d:NdV)(g:RgV)(c:Int)(es:List Ent)(v w u:Nat){k:zci}(hk:KNd S.m k)(hh:∀h,znB k.tick es=some h->Zld h k.tick) :
  R L Cs Zi4 [Pt 0,.a (zG k)] (ndM S d g c es v w u)=some (.t [.a (zG (znE S (znB k.tick es) k).1),Bo (znE S (znB k.tick es) k).2],ndM S d g c es v w u):=by
 have hG:∀(M:Mem),M[2]?=some (mpB c es u)->znp M false true (.a [.jb,.jb,.jb]) [.c (.map 2 true),.c (.int .i64 k.tick)]=_:=fun M h=>Zih h k.tick _
 cases hf:znB k.tick es with
 |none =>
  rw[hf]at hG;have hO:=ZjW hS d g c es v w u (k:=k) (by have:=hk.len hS;omega) hk.j.ego;unfold znE;simp only;generalize Zhv S k=k2 at *;obtain⟨s0,s1,s2,s3,s4,n,ini,p⟩:=g;simp only[zG]at hO;rw[zUa Zh6 rfl];cases ini<;>simp[ndM,ndC,rgC,mpB,bxv]at hO<;>simp[Zhx,hG,hO,Zk2,Zk1,Zk0,zG,Zly]
 |some y =>
  rw[hf]at hG;obtain⟨n1,n2,n3,st,se,pt⟩:=hh y hf;obtain⟨a1,a2⟩:=hk.spds y.ku true;obtain⟨b1,b2⟩:=a1.fixs y.qf (ZhZ y.ku (k,true)).2;obtain⟨v1,h1⟩:=Zj8 S d g c es v w u y.ku n1 y y.ku 0 k true 0 rfl (ju _) (by have:=hk.len hS;omega);obtain⟨v2,h2⟩:=Zj7 S d g c es v w u y.qf n2 y y.qf 0 (ZhZ y.ku (k,true)).1 (ZhZ y.ku (k,true)).2 v1 rfl (ju _) (jV (a1.len hS) (by decide));have hO:=ZjW hS d g c es v w u (k:=(Zis y.qf (ZhZ y.ku (k,true))).1) (jV (b1.len hS) (by decide)) b1.j.ego;obtain⟨v3,h3⟩:=Zj6 hS d g c es v w u y.qk k.tick n3 st se pt y y.qk 0 (Zhv S (Zis y.qf (ZhZ y.ku (k,true))).1) (Zis y.qf (ZhZ y.ku (k,true))).2 (v2+1) rfl (ju _) b1.own (b2.trans a2);unfold znE;simp only;generalize ZhZ y.ku (k,true)=q1 at *;obtain⟨k1,o1⟩:=q1;simp only at *;generalize Zis y.qf (k1,o1)=q2 at *;obtain⟨k2,o2⟩:=q2;simp only at *;generalize Zhv S k2=k3 at *;generalize ZiH S y.qk (k3,o2)=q4 at *;obtain⟨k4,o4⟩:=q4;obtain⟨s0,s1,s2,s3,s4,n,ini,p⟩:=g;simp only[zG,jh]at hO h1 h2 h3;simp only[Zlm,Zll,Zlk,fuM,ndM,ji,je,zG,jh]at h1 h2 h3;rw[zUa Zh6 rfl];cases ini<;>simp[ndM,ndC,rgC,mpB,bxv]at hO<;>simp[Zhx,hG,hO,h1,h2,h3,zG,Zly]
def Zjv(d:NdV)(st:Int):Bool:=decide (st<=d.now)&&decide (max d.first (d.now-4)<=st)
theorem ZiY(S:StV)(d:NdV)(g:RgV)(c:Int)(es:List Ent)(v w u:Nat)(hn:0<=d.now/\d.now<=1099511627776)(st:Int):R L Cs ZiJ [Pt 0,W st] (ndM S d g c es v w u)=some (.w (Bo (Zjv d st)),ndM S d g c es v w u):=by
 have hw:IntKind.i64.wrap (d.now-4)=d.now-4:=zTd _ (by omega) (by omega);obtain⟨s0,s1,s2,s3,s4,n,ini,p⟩:=g;rw[zUa ZiN rfl];unfold Zjv;by_cases h1:st<=d.now
 ·by_cases h2:max d.first (d.now-4)<=st
  ·cases ini<;>simp[Zhm,h1,h2,hw]
  ·cases ini<;>simp[Zhm,h1,h2,hw]
 ·cases ini<;>simp[Zhm,h1]
theorem Zij(l:List Mrk)(hl:l.length<=100000):R L Cs ZhV [.c (.jc (zb l))] []=some (.w (.c (sl 0 3 (zb l))),[some (own 3 (zb l))]):=by
 have hr:l.length*24<=140737488355328:=by omega
 have h3:∀x,x∈zb l->x.length=3:=by
  intro x hx;obtain⟨y,_,rfl⟩:=jW.1 hx;rfl
 have hL:Cs.lookup ZhV=some (3,24,false):=by kernel_rfl
 rw[zrP rfl];simp[uN,hL,zuh,hr];exact h3
theorem ZjJ(l:List zZP)(hl:l.length<=100000):R L Cs ZhU [.c (.jc (ZlG l))] []=some (.w (.c (sl 0 3 (ZlG l))),[some (own 3 (ZlG l))]):=by
 have hr:l.length*56<=140737488355328:=by omega
 have h3:∀x,x∈ZlG l->x.length=3:=by
  intro x hx;obtain⟨y,_,rfl⟩:=jW.1 hx;rfl
 have hL:Cs.lookup ZhU=some (3,56,false):=by kernel_rfl
 rw[zrP rfl];simp[uN,hL,zuh,hr];exact h3
theorem Zkh(l:List Spn)(hl:l.length<=100000):R L Cs ZhT [.c (.jc (zWx l))] []=some (.w (.c (.jc (zWx l))),[]):=by
 have hr:l.length*24<=140737488355328:=by omega
 have h3:∀x,x∈zWx l->x.length=3:=by
  intro x hx;obtain⟨y,_,rfl⟩:=jW.1 hx;rfl
 have hL:Cs.lookup ZhT=some (3,24,true):=by kernel_rfl
 rw[zrP rfl];simp[uN,hL,zuh,hr];exact h3
theorem Zkb(l:List Pnt)(hl:l.length<=100000):R L Cs ZhQ [.c (.jc (zWs l))] []=some (.w (.c (.jc (zWs l))),[]):=by
 have hr:l.length*24<=140737488355328:=by omega
 have h3:∀x,x∈zWs l->x.length=3:=by
  intro x hx;obtain⟨y,_,rfl⟩:=jW.1 hx;rfl
 have hlen:(zWs l).length=l.length:=by simp[zWs]
 have hL:Cs.lookup ZhQ=some (3,24,true):=by kernel_rfl
 rw[zrP rfl];simp[uN,hL,zuh,hr,hlen];exact h3
def Ziq(es:List Ent)(n:Int):Hrd:=(znB n es).getD ⟨[],[],[]⟩
def ZiZ(n:Int)(h:Hrd)(q:Int×List Ent):Int×List Ent:=match ZiR n q.2 0 with
 |some (i,_)=>(q.1,q.2.modify i fun e=>⟨e.born,n,h⟩)
 |none=>(q.1+1,q.2++[⟨q.1,n,h⟩])
theorem ZhM{M:Mem}{c:Int}{es:List Ent}{u:Nat}{id:Nat}(h:M[id]?=some (mpB c es u))(n:Int)(H:Hrd):zoJ M true [.c (.map id true),.c (.int .i64 n),.a [.jc (zb H.ku),.jc (zb H.qf),.jc (ZlG H.qk)]]=some (.u,M.set id (mpB (ZiZ n H (c,es)).1 (ZiZ n H (c,es)).2 (u+1)),.wr [(id,0,whole)]):=by
 unfold zoJ ZiZ;simp only[↓reduceIte,Zia h,ZiE,okW,zlW];cases ZiR n es 0 with
 |none=>simp[Zly,mpB]
 |some q =>
  have e:(List.map Zly es).modify q.1 (fun row=>row.take 1++.int .i64 n::[.jc (zb H.ku),.jc (zb H.qf),.jc (ZlG H.qk)])=List.map Zly (es.modify q.1 fun e=>⟨e.born,n,H⟩):=by
   apply uh;intro i;simp only[List.getElem?_modify,kY];by_cases hi:q.1=i
   ·simp only[hi,if_true];cases es[i]?<;>simp[Zly]
   ·simp only[hi,if_false];cases es[i]?<;>simp[Zly]
  simp[WV.cells,mpB,e]
@[simp] theorem ZiP(a b:List Mrk):zb (a++b)=zb a++zb b:=by simp[zb]
@[simp] theorem ZjN(a b:List zZP):ZlG (a++b)=ZlG a++ZlG b:=by simp[ZlG]
abbrev Zkx(t:Int)(sc:List zZP)(sp fx:List Mrk):List Cl:=[I t,.jc (ZlG sc),.jc (zb sp),.jc (zb fx)]
abbrev heM(S:StV)(d:NdV)(g:RgV)(q:Int×List Ent)(v w u:Nat)(X:List Cl):Mem:=ndM S d g q.1 q.2 v w u++[bx 4 X]
def he1(d:NdV)(q:Int×List Ent)(y:Mrk):Int×List Ent:=if Zjv d y.st then ZiZ y.st { Ziq q.2 y.st with ku:=(Ziq q.2 y.st).ku++[y] } q else q
def he2(d:NdV)(q:Int×List Ent)(y:Mrk):Int×List Ent:=if Zjv d y.st then ZiZ y.st { Ziq q.2 y.st with qf:=(Ziq q.2 y.st).qf++[y] } q else q
def he3(d:NdV)(q:Int×List Ent)(y:zZP):Int×List Ent:=if Zjv d y.uJ then ZiZ y.uJ { Ziq q.2 y.uJ with qk:=(Ziq q.2 y.uJ).qk++[y] } q else q
def Zlq(n:Nat)(es:List Ent):Prop:=∀t,(Ziq es t).ku.length<=n/\(Ziq es t).qf.length<=n/\(Ziq es t).qk.length<=n
theorem Zie(x:Mrk):zb [x]=[[I x.st,I x.lo,I x.hi]]:=rfl
theorem ZjD(x:zZP):ZlG [x]=[[I x.uJ,.jc (zWx x.seen),.jc (zWs x.pts)]]:=rfl
theorem ZiU:zb []=[]:=rfl
theorem ZiT:ZlG []=[]:=rfl
theorem Zix(l:List Mrk):(zb l).take l.length=zb l:=jE (by simp)
theorem Zid(l:List Mrk)(r:List Cl):(zb l++[r]).take (l.length+1)=zb l++[r]:=jE (by simp)
theorem Ziw(l:List zZP):(ZlG l).take l.length=ZlG l:=jE (by simp)
theorem Zic(l:List zZP)(r:List Cl):(ZlG l++[r]).take (l.length+1)=ZlG l++[r]:=jE (by simp)
abbrev ZkL(l:List Mrk)(i:Nat):Env:=[(16,.w (W i)),(15,.w (W l.length)),(3,.w (Pt 3)),(14,.w (.c (.jc (zb l)))),(0,.w (Pt 0))]
theorem ZkK{S:StV}(d:NdV)(g:RgV)(q:Int×List Ent)(v w u:Nat)(hn:0<=d.now/\d.now<=1099511627776)(X:Int×List zZP×List Mrk×List Mrk)(l:List Mrk)(hl:l.length<=1000)(i:Nat)(h1:i<l.length)(ho:Zlq 1000 q.2) :
  ∃u',(u<=u'/\(u'=u->he1 d q l[i]=q))/\Y L Cs zn2 (some [16,15,3,14,0]) 4 (ZkL l i) (heM S d g q v w u (Zkx X.1 X.2.1 X.2.2.1 X.2.2.2))=Y L Cs zn2 (some [16,15,3,14,0]) 4 (ZkL l (i+1)) (heM S d g (he1 d q l[i]) v w u' (Zkx X.1 X.2.1 X.2.2.1 X.2.2.2)):=by
 have hw:=zB (i:=i) (by omega);have hci:(i:Int)<l.length:=by omega
 have kV:(zb l)[i]?=some (ZjO l[i]):=Zif h1;generalize l[i]=x at *;obtain⟨c,es⟩:=q;have hC:=ZiY S d g c es v w u hn x.st;have hG:∀(M:Mem),M[2]?=some (mpB c es u)->znp M false true (.a [.jb,.jb,.jb]) [.c (.map 2 true),.c (.int .i64 x.st)]=_:=fun M h=>Zih h x.st _
 have hq:=ho x.st;simp only[ZjO]at kV;unfold he1;cases hb:Zjv d x.st with
 |false =>
  rw[hb]at hC;refine⟨u,⟨jm _,fun _=>by simp⟩,?_⟩;simp only[jH,if_false];obtain⟨s0,s1,s2,s3,s4,n,ini,p⟩:=g;rw[ZfM zn2.eq_1];cases hf:znB x.st es with
  |none =>
   rw[hf]at hG;cases ini<;>simp[ndM,ndC,rgC,mpB,bxv]at hC<;>simp[hci,hw,kV,hC,hG,Zly,-Int.natCast_add]
  |some y =>
   rw[hf]at hG;cases ini<;>simp[ndM,ndC,rgC,mpB,bxv]at hC<;>simp[hci,hw,kV,hC,hG,Zly,-Int.natCast_add]
 |true =>
  rw[hb]at hC;refine⟨u+1,⟨kW u,fun h=>absurd h (by omega)⟩,?_⟩;simp only[if_true];obtain⟨s0,s1,s2,s3,s4,n,ini,p⟩:=g;rw[ZfM zn2.eq_1];unfold Ziq at hq ⊢;cases hf:znB x.st es with
  |none =>
   rw[hf]at hG;have hK:=Zij [] (by decide);have hP:∀(M:Mem),M[2]?=some (mpB c es u)->zoJ M true [.c (.map 2 true),.c (.int .i64 x.st),.a [.jc (zb [x]),.jc (zb []),.jc (ZlG [])]]=_:=fun M h=>ZhM h x.st ⟨[x],[],[]⟩
   simp only[Zie,ZiU,ZiT]at hP hK;simp only[yE,je];generalize ZiZ x.st ⟨[x],[],[]⟩ (c,es)=z at *;obtain⟨c',es'⟩:=z;cases ini<;>simp[ndM,ndC,rgC,mpB,bxv]at hC<;>simp[hci,hw,kV,hC,hG,hK,hP,Zig,zX,Zly,-Int.natCast_add]
  |some y =>
   rw[hf]at hG hq;simp only[qI]at hq ⊢;have hK:=Zij y.ku (by omega);have hr:(y.ku.length+1)*24<=140737488355328:=by omega
   have hP:∀(M:Mem),M[2]?=some (mpB c es u)->zoJ M true [.c (.map 2 true),.c (.int .i64 x.st),.a [.jc (zb (y.ku++[x])),.jc (zb y.qf),.jc (ZlG y.qk)]]=_:=fun M h=>ZhM h x.st ⟨y.ku++[x],y.qf,y.qk⟩
   simp only[ZiP,Zie]at hP;generalize ZiZ x.st ⟨y.ku++[x],y.qf,y.qk⟩ (c,es)=z at *;obtain⟨c',es'⟩:=z;cases ini<;>simp[ndM,ndC,rgC,mpB,bxv]at hC<;>simp[hci,hw,kV,hC,hG,hK,hP,hr,Zig,zX,Zly,Zix,Zid,Ziw,Zic,-Int.natCast_add]
abbrev ZkJ(l:List Mrk)(i:Nat):Env:=[(49,.w (W i)),(48,.w (W l.length)),(3,.w (Pt 3)),(47,.w (.c (.jc (zb l)))),(0,.w (Pt 0))]
theorem ZkI{S:StV}(d:NdV)(g:RgV)(q:Int×List Ent)(v w u:Nat)(hn:0<=d.now/\d.now<=1099511627776)(X:Int×List zZP×List Mrk×List Mrk)(l:List Mrk)(hl:l.length<=1000)(i:Nat)(h1:i<l.length)(ho:Zlq 1000 q.2) :
  ∃u',(u<=u'/\(u'=u->he2 d q l[i]=q))/\Y L Cs znM (some [49,48,3,47,0]) 4 (ZkJ l i) (heM S d g q v w u (Zkx X.1 X.2.1 X.2.2.1 X.2.2.2))=Y L Cs znM (some [49,48,3,47,0]) 4 (ZkJ l (i+1)) (heM S d g (he2 d q l[i]) v w u' (Zkx X.1 X.2.1 X.2.2.1 X.2.2.2)):=by
 have hw:=zB (i:=i) (by omega);have hci:(i:Int)<l.length:=by omega
 have kV:(zb l)[i]?=some (ZjO l[i]):=Zif h1;generalize l[i]=x at *;obtain⟨c,es⟩:=q;have hC:=ZiY S d g c es v w u hn x.st;have hG:∀(M:Mem),M[2]?=some (mpB c es u)->znp M false true (.a [.jb,.jb,.jb]) [.c (.map 2 true),.c (.int .i64 x.st)]=_:=fun M h=>Zih h x.st _
 have hq:=ho x.st;simp only[ZjO]at kV;unfold he2;cases hb:Zjv d x.st with
 |false =>
  rw[hb]at hC;refine⟨u,⟨jm _,fun _=>by simp⟩,?_⟩;simp only[jH,if_false];obtain⟨s0,s1,s2,s3,s4,n,ini,p⟩:=g;rw[ZfM znM.eq_1];cases hf:znB x.st es with
  |none =>
   rw[hf]at hG;cases ini<;>simp[ndM,ndC,rgC,mpB,bxv]at hC<;>simp[hci,hw,kV,hC,hG,Zly,-Int.natCast_add]
  |some y =>
   rw[hf]at hG;cases ini<;>simp[ndM,ndC,rgC,mpB,bxv]at hC<;>simp[hci,hw,kV,hC,hG,Zly,-Int.natCast_add]
 |true =>
  rw[hb]at hC;refine⟨u+1,⟨kW u,fun h=>absurd h (by omega)⟩,?_⟩;simp only[if_true];obtain⟨s0,s1,s2,s3,s4,n,ini,p⟩:=g;rw[ZfM znM.eq_1];unfold Ziq at hq ⊢;cases hf:znB x.st es with
  |none =>
   rw[hf]at hG;have hK:=Zij [] (by decide);have hP:∀(M:Mem),M[2]?=some (mpB c es u)->zoJ M true [.c (.map 2 true),.c (.int .i64 x.st),.a [.jc (zb []),.jc (zb [x]),.jc (ZlG [])]]=_:=fun M h=>ZhM h x.st ⟨[],[x],[]⟩
   simp only[Zie,ZiU,ZiT]at hP hK;simp only[yE,je];generalize ZiZ x.st ⟨[],[x],[]⟩ (c,es)=z at *;obtain⟨c',es'⟩:=z;cases ini<;>simp[ndM,ndC,rgC,mpB,bxv]at hC<;>simp[hci,hw,kV,hC,hG,hK,hP,Zig,zX,Zly,-Int.natCast_add]
  |some y =>
   rw[hf]at hG hq;simp only[qI]at hq ⊢;have hK:=Zij y.qf (by omega);have hr:(y.qf.length+1)*24<=140737488355328:=by omega
   have hP:∀(M:Mem),M[2]?=some (mpB c es u)->zoJ M true [.c (.map 2 true),.c (.int .i64 x.st),.a [.jc (zb y.ku),.jc (zb (y.qf++[x])),.jc (ZlG y.qk)]]=_:=fun M h=>ZhM h x.st ⟨y.ku,y.qf++[x],y.qk⟩
   simp only[ZiP,Zie]at hP;generalize ZiZ x.st ⟨y.ku,y.qf++[x],y.qk⟩ (c,es)=z at *;obtain⟨c',es'⟩:=z;cases ini<;>simp[ndM,ndC,rgC,mpB,bxv]at hC<;>simp[hci,hw,kV,hC,hG,hK,hP,hr,Zig,zX,Zly,Zix,Zid,Ziw,Zic,-Int.natCast_add]
def heD(d:NdV)(y:zZP):NdV:=if Zjv d y.uJ then { d with last:=max d.last y.uJ } else d
abbrev ZkH(l:List zZP)(i:Nat):Env:=[(82,.w (W i)),(81,.w (W l.length)),(80,.w (.c (.jc (ZlG l)))),(0,.w (Pt 0))]
theorem ZkG{S:StV}(d:NdV)(g:RgV)(q:Int×List Ent)(v w u:Nat)(hn:0<=d.now/\d.now<=1099511627776)(X:Int×List zZP×List Mrk×List Mrk)(l:List zZP)(hl:l.length<=1000)(hse:∀x∈l,x.seen.length<=5000)(hpt:∀x∈l,x.pts.length<=1000)(i:Nat)(h1:i<l.length)(ho:Zlq 1000 q.2) :
  ∃u' v',((u<=u'/\(u'=u->he3 d q l[i]=q))/\(v<=v'/\(v'=v->heD d l[i]=d)))/\Y L Cs znK (some [82,81,80,0]) 4 (ZkH l i) (heM S d g q v w u (Zkx X.1 X.2.1 X.2.2.1 X.2.2.2))=Y L Cs znK (some [82,81,80,0]) 4 (ZkH l (i+1)) (heM S (heD d l[i]) g (he3 d q l[i]) v' w u' (Zkx X.1 X.2.1 X.2.2.1 X.2.2.2)):=by
 have hw:=zB (i:=i) (by omega);have hci:(i:Int)<l.length:=by omega
 have kV:(ZlG l)[i]?=some (zX6 l[i]):=ZjE h1;have q1:=hse _ (jf h1);have q2:=hpt _ (jf h1);generalize l[i]=x at *;obtain⟨c,es⟩:=q;have hC:=ZiY S d g c es v w u hn x.uJ;have hG:∀(M:Mem),M[2]?=some (mpB c es u)->znp M false true (.a [.jb,.jb,.jb]) [.c (.map 2 true),.c (.int .i64 x.uJ)]=_:=fun M h=>Zih h x.uJ _
 have hS1:=Zkh x.seen (by omega);have hS2:=Zkb x.pts (by omega);have hq:=ho x.uJ;simp only[zX6]at kV;unfold he3 heD;cases hb:Zjv d x.uJ with
 |false =>
  rw[hb]at hC;refine⟨u,v,⟨⟨jm _,fun _=>by simp⟩,⟨jm _,fun _=>by simp⟩⟩,?_⟩;simp only[jH,if_false];obtain⟨s0,s1,s2,s3,s4,n,ini,p⟩:=g;rw[ZfM znK.eq_1];cases hf:znB x.uJ es with
  |none =>
   rw[hf]at hG;cases ini<;>simp[ndM,ndC,rgC,mpB,bxv]at hC<;>simp[hci,hw,kV,hC,hG,Zly,-Int.natCast_add]
  |some y =>
   rw[hf]at hG;cases ini<;>simp[ndM,ndC,rgC,mpB,bxv]at hC<;>simp[hci,hw,kV,hC,hG,Zly,-Int.natCast_add]
 |true =>
  rw[hb]at hC;refine⟨u+1,v+1,⟨⟨kW u,fun h=>absurd h (by omega)⟩,⟨kW v,fun h=>absurd h (by omega)⟩⟩,?_⟩;simp only[if_true];obtain⟨s0,s1,s2,s3,s4,n,ini,p⟩:=g;rw[ZfM znK.eq_1];unfold Ziq at hq ⊢;cases hf:znB x.uJ es with
  |none =>
   rw[hf]at hG;have hK:=ZjJ [] (by decide);have hP:∀(M:Mem),M[2]?=some (mpB c es u)->zoJ M true [.c (.map 2 true),.c (.int .i64 x.uJ),.a [.jc (zb []),.jc (zb []),.jc (ZlG [x])]]=_:=fun M h=>ZhM h x.uJ ⟨[],[],[x]⟩
   simp only[ZjD,ZiU,ZiT]at hP hK;simp only[yE,je];generalize ZiZ x.uJ ⟨[],[],[x]⟩ (c,es)=z at *;obtain⟨c',es'⟩:=z;cases ini<;>simp[ndM,ndC,rgC,mpB,bxv]at hC<;>simp[hci,hw,kV,hC,hG,hK,hP,hS1,hS2,Zig,zX,Zly,-Int.natCast_add]
  |some y =>
   rw[hf]at hG hq;simp only[qI]at hq ⊢;have hK:=ZjJ y.qk (by omega);have hr:(y.qk.length+1)*56<=140737488355328:=by omega
   have hP:∀(M:Mem),M[2]?=some (mpB c es u)->zoJ M true [.c (.map 2 true),.c (.int .i64 x.uJ),.a [.jc (zb y.ku),.jc (zb y.qf),.jc (ZlG (y.qk++[x]))]]=_:=fun M h=>ZhM h x.uJ ⟨y.ku,y.qf,y.qk++[x]⟩
   simp only[ZjN,ZjD]at hP;generalize ZiZ x.uJ ⟨y.ku,y.qf,y.qk++[x]⟩ (c,es)=z at *;obtain⟨c',es'⟩:=z;cases ini<;>simp[ndM,ndC,rgC,mpB,bxv]at hC<;>simp[hci,hw,kV,hC,hG,hK,hP,hS1,hS2,hr,Zig,zX,Zly,Zix,Zid,Ziw,Zic,-Int.natCast_add]
def ZjL(d:NdV):NdV:={ d with told:=d.qt,qD:=Pl.vU d.qt 0,qt:=Pl.vI d.qt,now:=d.now+1 }
theorem Zkl(S:StV)(d:NdV){g:RgV}(hg:ZjQ g)(h4:g.na<=4)(c:Int)(es:List Ent)(v w u:Nat)(hn:0<=d.now/\d.now<=1099511627776)(hp:d.qt.length<=1000) :
  R L Cs Zhq [Pt 0] (ndM S d g c es v w u)=some (.w (.c .ul),ndM S (ZjL d) (ZhJ g (Pl.vU d.qt 0)) c es (v+4) (w+2) u):=by
 have hA:=Pl.D4 d.qt hp 0;have hT:=Pl.R_Tail d.qt hp;have hR:=ZkC hg h4 (Pl.vU d.qt 0) w;have hi:=(ZjF h4 (Pl.vU d.qt 0)).2.2.2.2;have hw:IntKind.i64.wrap (d.now+1)=d.now+1:=zTd _ (by omega) (by omega);unfold ZjL;generalize Pl.vU d.qt 0=a at *;generalize Pl.vI d.qt=t at *;generalize ZhJ g a=g' at *;obtain⟨s0,s1,s2,s3,s4,n,ini,p⟩:=g;obtain⟨r0,r1,r2,r3,r4,n',ini',p'⟩:=g';simp only at hi;subst hi;rw[zUa ZiO rfl];cases ini<;>simp[ndM,ndC,rgC,mpB,bxv]at hR<;>simp[ZhA,hA,hT,hR,hw,zX,Zly]
def ZiF(S:StV)(d:NdV):NdV:={ d with mode:=if S.k7<d.now-d.last then 2 else d.mode,looked:=0 }
theorem ZjV(S:StV)(d:NdV)(g:RgV)(c:Int)(es:List Ent)(v w u:Nat)(hn:0<=d.now/\d.now<=1099511627776)(hl:0<=d.last/\d.last<=1099511627776) :
  ∃v',v<v'/\R L Cs ZhK [Pt 0] (ndM S d g c es v w u)=some (.w (.c (.fn (if(ZiF S d).mode=1 then ZhB else Zhq) [.ptr 0 0 0 0] [])),ndM S (ZiF S d) g c es v' w u):=by
 have hw:IntKind.i64.wrap (d.now-d.last)=d.now-d.last:=zTd _ (by omega) (by omega);unfold ZiF;obtain⟨s0,s1,s2,s3,s4,n,ini,p⟩:=g;rw[zUa Ziv rfl];by_cases h1:S.k7<d.now-d.last
 ·refine⟨v+2,by omega,?_⟩;simp only[h1,if_true];cases ini<;>simp[Zhk,hw,h1,Zly]
 ·refine⟨v+1,by omega,?_⟩;simp only[h1,if_false];by_cases h2:d.mode=1
  ·cases ini<;>simp[Zhk,hw,h1,h2,Zly]
  ·cases ini<;>simp[Zhk,hw,h1,h2,Zly]
open Go Go.Eng Go.PlanLaw
theorem zLx{c:zK8}{w:Int}:∀{n:Nat} {s:Drv},0<=s.v/\s.v<=2000->0<=(Drv.uS c w n s).v/\(Drv.uS c w n s).v<=2000
 |0,s,h=>h
 |n+1,s,h=>zLx (n:=n) (zG1 s.v _)
theorem zMg:∀{q:List Int} {s:Drv},0<=s.v/\s.v<=2000->0<=(Drv.queue q s).v/\(Drv.queue q s).v<=2000
 |[],s,h=>h
 |x::q,s,h=>zMg (q:=q) (zG1 s.v _)
theorem zOt{c:zK8}(hc:c.ok)(q:List Int)(last v:Int)(up hold:Nat)(hv:0<=v/\v<=2000):(zJ2 c q last v up hold).length<=115+up+hold:=by
 unfold zJ2;have h1:=zMg (q:=q.take 5) (s:=Drv.mk last v []) hv;have h2:=zLx (c:=c) (w:=c.qV) (n:=up) h1;have h3:=zLx (c:=c) (w:=0) (n:=hold) h2;have hl1:(Drv.queue (q.take 5) (Drv.mk last v [])).l.length=(q.take 5).length:=by rw[Drv.Bv];simp
 have hl2:=Drv.Ao (c:=c) (w:=c.qV) (n:=up) (s:=Drv.queue (q.take 5) (Drv.mk last v []));have hl3:=Drv.Ao (c:=c) (w:=0) (n:=hold) (s:=Drv.uS c c.qV up (Drv.queue (q.take 5) (Drv.mk last v [])));generalize Drv.uS c 0 hold (Drv.uS c c.qV up (Drv.queue (q.take 5) (Drv.mk last v [])))=s at *;have h4:=(zMs hc s.last s.v h3.1 h3.2).2.2;have h5:(q.take 5).length<=5:=by simp;omega
 simp only[jw];omega
theorem zNC{c:zK8}{l:List Int}(h:qM c l=0):(∀a∈l,zk0 a)/\l.length<=200/\l≠[]:=by
 obtain⟨hc,hne,hl⟩:=zVR h;refine⟨?_,hl,hne⟩;unfold qM at h;rw[if_neg (by simp[hc]),if_neg (by simpa using hne),if_neg (by omega)]at h;split at h
 ·cases h
 split at h
 ·cases h
 rename_i hb;have hb:l.any (zLD c)=false:=by simpa using hb
 intro a ha;have h1:=vo.1 hb a ha;obtain⟨q1,q2,q3,q4,q5,q6,q7,q8,q9,q10⟩:=hc;simp[zLD]at h1;constructor<;>omega
theorem zNa{c:zK8}(hc:c.ok)(q:List Int)(last v:Int)(hv:0<=v/\v<=2000):∀p∈Pl.yP c q last v,p.length<=200:=by
 intro p hp;have h:=fun up hold=>zOt hc q last v up hold hv
 simp only[Pl.yP,jG,qw,or_false]at hp;rcases hp with rfl|rfl|rfl|rfl|rfl|rfl|rfl|rfl
 ·have:=h 6 4;omega
 ·have:=h 6 0;omega
 ·have:=h 3 4;omega
 ·have:=h 3 0;omega
 ·have:=h 1 4;omega
 ·have:=h 1 0;omega
 ·have:=h 0 4;omega
 ·have:=h 0 0;omega
def zK5(kQ:Int)(ok:List Int->Bool):List (List Int)->Nat->Int×Int
 |[],i=>(-1,i)
 |p::t,i=>if kQ<=i then(-1,i) else if ok p=true then(i,(i+1:Nat)) else zK5 kQ ok t (i+1)
def okC(m:zD)(zs:List Zon)(ss:List Sgn)(r:List Int)(c:zK8)(k:zci)(signals able:Bool)(p:List Int):Bool:=able&&decide (qM c p=0)&&(zNw m zs ss r c.len k p signals).1
abbrev zLh(m:zD)(c:zK8)(k:zci):Mem:=[bx 5 (zf m),bx 5 (Pl.kR c),bx 6 (zG k),bx 1 [.jb]]
abbrev seE(J:WV)(l:List (List Int))(kQ:Int)(signals able:Bool)(i:Nat):Env:=[(51,.w (W i)),(50,.w (W l.length)),(49,.w (.c (.jc (Pl.uM l)))),(6,.w (W kQ)),(7,.w (Bo signals)),(11,.w (Pt 2)),(23,.w J),(10,.w (Pt 1)),(22,.w (Bo able)),(21,.w (W (-1))),(19,.w (.c (.jc (Pl.uM l)))),(20,.w (W i)),(16,.w (Pt 3))]
def SeX(E:Env)(T:Mem)(l:List (List Int))(x:Int×Int):Prop:=(T=[]\/∃p,T=[bxv 1 1 [.jc (zu p)]])/\E.get 21=some (.w (W x.1))/\E.get 20=some (.w (W x.2))/\E.get 19=some (.w (.c (.jc (Pl.uM l))))/\E.get 16=some (.w (Pt 3))
theorem zOp(m:zD)(zs:List Zon)(ss:List Sgn)(r:List Int)(c:zK8)(k:zci)(signals:Bool)(kQ:Int)(l:List (List Int))(hll:l.length<=100):∀(t:List (List Int)) (i:Nat),l.drop i=t->i<=l.length ->
  ∃E T,SeX E T l (zK5 kQ (okC m zs ss r c k signals false) t i)/\Y L Cs zIx (some [51,50,49,6,7,11,23,10,22,21,19,20,16]) 4 (seE (.c .qc) l kQ signals false i) (zLh m c k)=some (.exit 0,E,zLh m c k++T):=by
 intro t;induction t with
 |nil =>
  intro i hd hi;obtain rfl:=zUb hd hi;refine⟨(52,.w (Bo false))::seE (.c .qc) l kQ signals false l.length,[],⟨.inl rfl,rfl,rfl,rfl,rfl⟩,?_⟩;rw[ZfM zIx.eq_1];simp
 |cons p t ih =>
  intro i hd hi;obtain⟨hil,hx,hd'⟩:=zL hd;have hw:=zB (i:=i) (by omega);unfold zK5;by_cases c1:kQ<=(i:Int)
  ·rw[if_pos c1];refine⟨[(58,.w (Bo true)),(24,.w (W i)),(51,.w (W i)),(50,.w (W l.length)),(49,.w (.c (.jc (Pl.uM l)))),(6,.w (W kQ)),(7,.w (Bo signals)),(11,.w (Pt 2)),(23,.w (.c .qc)),(10,.w (Pt 1)),(22,.w (Bo false)),(25,.w (Pt 4)),(21,.w (W (-1))),(19,.w (.c (.jc (Pl.uM l)))),(20,.w (W i)),(16,.w (Pt 3))],[bxv 1 1 [.jc (zu p)]],⟨.inr ⟨p,rfl⟩,rfl,rfl,rfl,rfl⟩,?_⟩;rw[ZfM zIx.eq_1];simp (maxSteps:=1000000) [seE,zLh,jC,zox,zh,zi,zf,zG,own,zJY,zJ4,Pl.kR,Pl.uM,hil,hx,hw,c1,zg,zH]
  ·rw[if_neg c1,if_neg (by simp[okC])];obtain⟨E,T,h1,h2⟩:=ih (i+1) hd' hil;refine⟨E,T,h1,?_⟩;rw[<-h2,ZfM zIx.eq_1];clear h2 ih;simp (maxSteps:=1000000) [seE,zLh,jC,zox,zh,zi,zf,zG,own,zJY,zJ4,Pl.kR,Pl.uM,hil,hx,hw,c1,zg,zH]
abbrev zNM(m:zD)(r:List Int)(len:Int)(ps:List Pss)(vs:List Vis)(u:Nat)(was NW:List Cl)(SW:Cl):Mem:=[bxv u 26 (jC m r len ps (.slice 5 vs.length 10 0 vs.length none) was NW SW),some (Go.Eng.own 10 (zKt vs))]
abbrev zNL(m:zD)(r:List Int)(len:Int)(ps:List Pss)(vs:List Vis)(u:Nat)(was NW:List Cl)(SW:Cl):Mem:=[bxv u 26 (jC m r len ps .jb was NW SW)]
abbrev zV0(qq:Nat)(m:zD)(r:List Int)(len:Int)(ps:List Pss)(vs:List Vis)(u:Nat)(was NW:List Cl)(SW:Cl):Mem:=if qq=0 then zNL m r len ps vs u was NW SW else zNM m r len ps vs u was NW SW
theorem zV1{m:zD}{zs:List Zon}{ss:List Sgn}(hF:zKj m zs ss){r:List Int}(hr:zdA m r=0)(c:zK8)(hc:c.ok)(k:zci)(hk:KJ m k)(ht:0<=k.tick/\k.tick<=1099511627776)(signals:Bool)(kQ:Int)(vs:List Vis)(hvs:vs=pvV m zs r)(qq:Nat)(hq0:qq=0/\vs=[]\/qq=1/\vs≠[])(l:List (List Int))(hll:l.length<=100)(hl:∀p∈l,p.length<=1000):∀(t:List (List Int)) (i u:Nat) (WAS NW:List Cl) (SW:Cl),zMo WAS->zKq NW SW->l.drop i=t->i<=l.length ->
  ∃E T u' CW NW' SW',zMo CW/\zKq NW' SW'/\SeX E T l (zK5 kQ (okC m zs ss r c k signals true) t i)/\Y L Cs zIx (some [51,50,49,6,7,11,23,10,22,21,19,20,16]) (qq+5) (seE (.c (.ptr 4 0 0 0)) l kQ signals true i) (zLh m c k++zV0 qq m r c.len (zKh m zs 0 r) vs u WAS NW SW)=some (.exit 0,E,zLh m c k++zV0 qq m r c.len (zKh m zs 0 r) vs u' CW NW' SW'++T):=by
 intro t;induction t with
 |nil =>
  intro i u WAS NW SW oW oS hd hi;obtain rfl:=zUb hd hi;refine⟨(52,.w (Bo false))::seE (.c (.ptr 4 0 0 0)) l kQ signals true l.length,[],u,WAS,NW,SW,oW,oS,⟨.inl rfl,rfl,rfl,rfl,rfl⟩,?_⟩;rw[ZfM zIx.eq_1];simp
 |cons p t ih =>
  intro i u WAS NW SW oW oS hd hi;obtain⟨hil,hx,hd'⟩:=zL hd;have hpl:p∈l:=by rw[<-hx];exact jf hil
  have hw:=zB (i:=i) (by omega);have hC:=Pl.BF c p (hl p hpl);have hcl:0<=c.len/\c.len<=20000:=by have:=hc.1;have:=hc.2.1;omega
  simp only[Pl.kR]at hC;unfold zK5;by_cases c1:kQ<=(i:Int)
  ·rw[if_pos c1];clear ih;refine⟨[(58,.w (Bo true)),(24,.w (W i)),(51,.w (W i)),(50,.w (W l.length)),(49,.w (.c (.jc (Pl.uM l)))),(6,.w (W kQ)),(7,.w (Bo signals)),(11,.w (Pt 2)),(23,.w (.c (.ptr 4 0 0 0))),(10,.w (Pt 1)),(22,.w (Bo true)),(25,.w (Pt (qq+5))),(21,.w (W (-1))),(19,.w (.c (.jc (Pl.uM l)))),(20,.w (W i)),(16,.w (Pt 3))],[bxv 1 1 [.jc (zu p)]],u,WAS,NW,SW,oW,oS,⟨.inr ⟨p,rfl⟩,rfl,rfl,rfl,rfl⟩,?_⟩;rw[ZfM zIx.eq_1];rcases hq0 with⟨rfl,-⟩ |⟨rfl,-⟩<;>rcases oW with rfl |⟨kw,rfl⟩<;>rcases oS with⟨rfl,rfl⟩ |⟨k0,x,rfl,rfl⟩<;>simp (maxSteps:=1000000) [seE,zLh,zV0,zNM,zNL,jC,zox,zh,zi,zf,zG,own,zJY,zJ4,Pl.kR,Pl.uM,hil,hx,hw,c1,zg,zH]
  ·rw[if_neg c1];by_cases c2:qM c p=0
   ·obtain⟨hin,hp2,hne⟩:=zNC c2;rw[c2]at hC;obtain⟨u',W',N',S',oW',oS',hu,h4⟩:=zL8 hF hr c.len hcl signals p hin (by omega) u k WAS NW SW hk ht oW oS hne;have hok:okC m zs ss r c k signals true p=(zNw m zs ss r c.len k p signals).1:=by simp[okC,c2]
    rw[hok];rw[<-hvs]at h4;generalize zNw m zs ss r c.len k p signals=y at *;obtain⟨y1,y2,y3⟩:=y;simp only[zJ3,zVW hq0]at h4;cases y1 with
    |true =>
     clear ih;rw[if_pos rfl];refine⟨[(21,.w (W i)),(19,.w (.c (.jc (Pl.uM l)))),(20,.w (W (i+1:Nat))),(16,.w (Pt 3))],[bxv 1 1 [.jc (zu p)]],u',W',N',S',oW',oS',⟨.inr ⟨p,rfl⟩,rfl,rfl,rfl,rfl⟩,?_⟩;rw[ZfM zIx.eq_1];rcases hq0 with⟨rfl,-⟩ |⟨rfl,-⟩<;>rcases oW with rfl |⟨kw,rfl⟩<;>rcases oS with⟨rfl,rfl⟩ |⟨k0,x,rfl,rfl⟩<;>rcases oW' with rfl |⟨kw',rfl⟩<;>rcases oS' with⟨rfl,rfl⟩ |⟨k0',x',rfl,rfl⟩<;>simp only[jQ,↓reduceIte,jJ,Nat.reduceAdd,jC,zox,zh,zi,zf,zG,own,zJY,zJ4,Pl.kR,Pl.uM,zJZ,ji,je]at h4<;>simp (maxSteps:=1000000) [seE,zLh,zV0,zNM,zNL,jC,zox,zh,zi,zf,zG,own,zJY,zJ4,Pl.kR,Pl.uM,hil,hx,hw,c1,hC,h4,hu,zg,zH]
    |false =>
     rw[if_neg (by simp)];obtain⟨E,T,u2,W2,N2,S2,oW2,oS2,h1,h2⟩:=ih (i+1) u' W' N' S' oW' oS' hd' hil;refine⟨E,T,u2,W2,N2,S2,oW2,oS2,h1,?_⟩;rw[<-h2,ZfM zIx.eq_1];clear h1 h2 ih;rcases hq0 with⟨rfl,-⟩ |⟨rfl,-⟩<;>rcases oW with rfl |⟨kw,rfl⟩<;>rcases oS with⟨rfl,rfl⟩ |⟨k0,x,rfl,rfl⟩<;>rcases oW' with rfl |⟨kw',rfl⟩<;>rcases oS' with⟨rfl,rfl⟩ |⟨k0',x',rfl,rfl⟩<;>simp only[jQ,↓reduceIte,jJ,Nat.reduceAdd,jC,zox,zh,zi,zf,zG,own,zJY,zJ4,Pl.kR,Pl.uM,zJZ,ji,je]at h4<;>simp (maxSteps:=1000000) [seE,zLh,zV0,zNM,zNL,jC,zox,zh,zi,zf,zG,own,zJY,zJ4,Pl.kR,Pl.uM,hil,hx,hw,c1,hC,h4,hu,zg,zH]
   ·have hb:(qM c p==0)=false:=by simpa using c2
    have hok:okC m zs ss r c k signals true p=false:=by simp[okC,c2]
    rw[hok,if_neg (by simp)];obtain⟨E,T,u2,W2,N2,S2,oW2,oS2,h1,h2⟩:=ih (i+1) u WAS NW SW oW oS hd' hil;refine⟨E,T,u2,W2,N2,S2,oW2,oS2,h1,?_⟩;rw[<-h2,ZfM zIx.eq_1];clear h1 h2 ih;generalize qM c p=e at *;rcases hq0 with⟨rfl,-⟩ |⟨rfl,-⟩<;>rcases oW with rfl |⟨kw,rfl⟩<;>rcases oS with⟨rfl,rfl⟩ |⟨k0,x,rfl,rfl⟩<;>simp (maxSteps:=1000000) [seE,zLh,zV0,zNM,zNL,jC,zox,zh,zi,zf,zG,own,zJY,zJ4,Pl.kR,Pl.uM,hil,hx,hw,c1,hC,hb,zg,zH]
theorem zOd(kQ:Int)(ok:List Int->Bool):∀(t:List (List Int)) (i:Nat),(zK5 kQ ok t i).1=-1\/((i:Int)<=(zK5 kQ ok t i).1/\(zK5 kQ ok t i).1<i+t.length)
 |[],i=>.inl rfl
 |p::t,i=>by
  unfold zK5;split
  ·exact .inl rfl
  ·split
   ·refine .inr ⟨by simp,by simp;omega⟩
   ·rcases zOd kQ ok t (i+1)with h|h
    ·exact .inl h
    ·refine .inr ⟨by omega,by simp only[jl];omega⟩
abbrev zLj(c:zK8)(q:List Int)(last:Int)(k:zci):List (List Int):=Pl.yP c q last (max 0 (min k.ego.vhi 2000))
def zMT(l:List (List Int))(f:Int):List Int:=if f<0 then [] else l.getD f.toNat []
def zOU(m:zD)(zs:List Zon)(ss:List Sgn)(r:List Int)(c:zK8)(k:zci)(q:List Int)(last kQ:Int)(signals:Bool):Int×Int :=
 zK5 kQ (okC m zs ss r c k signals (zKW m r c k)) (zLj c q last k) 0
theorem zPl{m:zD}{zs:List Zon}{ss:List Sgn}(hF:zKj m zs ss)(r:List Int)(hl:r.length<=1000)(c:zK8)(hc:c.ok)(k:zci)(hk:k.jZ.length<=100000000000)(q:List Int)(hq:q.length<=5)(last kQ:Int)(signals:Bool) :
  R L Cs zMZ [.a (zf m),.c (.jc (zu r)),.a (Pl.kR c),.a (zG k),.c (.jc (zu q)),W last,W kQ,Bo signals] [] =
    some (.t [.a [.jc (zu (zMT (zLj c q last k) (zOU m zs ss r c k q last kQ signals).1))],W (zOU m zs ss r c k q last kQ signals).2,Bo (decide (0<=(zOU m zs ss r c k q last kQ signals).1))],[]):=by
 have h1:=zPi hF r hl c k hk;have h2:=Pl.CA hc q hq last k.ego.vhi;have hin:=zOd kQ (okC m zs ss r c k signals (zKW m r c k)) (zLj c q last k) 0;have hlen:(zLj c q last k).length=8:=rfl;have hlenI:((zLj c q last k).length:Int)=8:=rfl;have hpl:=zNa hc q last (max 0 (min k.ego.vhi 2000)) (by omega);unfold zOU;by_cases d1:zKW m r c k=true
 ·obtain⟨hr,_,_,hck⟩:=zNz d1;have hke:=zte hck;have hkj:=zPP hF.full.qR hck;obtain⟨u,h3⟩:=zMM hF hr c.len;rw[show zKE (zKh m zs 0 r) 0 zs.length=pvV m zs r from rfl]at h3;rw[d1]at h1 hin ⊢;obtain⟨qq,hq0⟩:∃qq,qq=0/\pvV m zs r=[]\/qq=1/\pvV m zs r≠[]:=by
   by_cases h0:pvV m zs r=[]
   ·exact⟨0,.inl ⟨rfl,h0⟩⟩
   ·exact⟨1,.inr ⟨rfl,h0⟩⟩
  obtain⟨E,T,u',W',N',S',oW,oS,⟨hT,g1,g2,g3,g4⟩,hL⟩:=zV1 hF hr c hc k hkj (by omega) signals kQ (pvV m zs r) rfl qq hq0 (zLj c q last k) (by omega) (fun p hp=>by have:=hpl p hp;omega) (zLj c q last k) 0 u zox zox .jb (.inl rfl) (.inl ⟨rfl,rfl⟩) rfl (ju _);simp only[zJ3,zVW hq0]at h3;simp only[zLj]at *;generalize pvV m zs r=vs at *;generalize zKh m zs 0 r=ps at *;generalize zK5 kQ (okC m zs ss r c k signals true) (Pl.yP c q last (max 0 (min k.ego.vhi 2000))) 0=y at *;generalize Pl.yP c q last (max 0 (min k.ego.vhi 2000))=ws at *;obtain⟨f,n⟩:=y;simp only at g1 g2 g3 g4 hin ⊢;rcases hq0 with⟨rfl,-⟩ |⟨rfl,-⟩
  all_goals
   simp only[jQ,↓reduceIte,jJ,Nat.reduceAdd,zf,zG,Pl.kR,Pl.uM,jC,zox,zh,zi,own,zJZ,ji,je,seE,zLh,zV0,zNM,zNL,hlenI,jh]at h1 h2 h3 hL g3;rw[zUa zLc rfl];rcases hin with rfl |⟨i1,i2⟩
   ·rcases hT with rfl |⟨p,rfl⟩<;>simp (maxSteps:=1000000) [zIS,zMT,zf,zG,Pl.kR,h1,h2,h3,hL,g1,g2,g3,g4,hlen,zg,zH]
   ·obtain⟨j,rfl⟩:∃j:Nat,f=j:=⟨f.toNat,by omega⟩;have j1:¬(j:Int)<0:=by omega
    have j2:(0:Int)<=j:=by omega
    have j3:j<ws.length:=by omega
    have j4:j<8:=by omega
    have j5:(j:Int)<8:=by omega
    rcases hT with rfl |⟨p,rfl⟩<;>simp (maxSteps:=1000000) [zIS,zMT,zf,zG,Pl.kR,h1,h2,h3,hL,g1,g2,g3,g4,hlen,j1,j2,j3,j4,j5,zg,zH]
 ·have d1:zKW m r c k=false:=by simpa using d1
  rw[d1]at h1 hin ⊢;obtain⟨E,T,⟨hT,g1,g2,g3,g4⟩,hL⟩:=zOp m zs ss r c k signals kQ (zLj c q last k) (by omega) (zLj c q last k) 0 rfl (ju _);simp only[zLj]at *;generalize zK5 kQ (okC m zs ss r c k signals false) (Pl.yP c q last (max 0 (min k.ego.vhi 2000))) 0=y at *;generalize Pl.yP c q last (max 0 (min k.ego.vhi 2000))=ws at *;obtain⟨f,n⟩:=y;simp only at g1 g2 g3 g4 hin ⊢;simp only[zf,zG,Pl.kR,Pl.uM,ji,je,seE,zLh,hlenI,jh]at h1 h2 hL g3;rw[zUa zLc rfl];rcases hin with rfl |⟨i1,i2⟩
  ·rcases hT with rfl |⟨p,rfl⟩<;>simp (maxSteps:=1000000) [zIS,zMT,zf,zG,Pl.kR,h1,h2,hL,g1,g2,g3,g4,hlen,zg,zH]
  ·obtain⟨j,rfl⟩:∃j:Nat,f=j:=⟨f.toNat,by omega⟩;have j1:¬(j:Int)<0:=by omega
   have j2:(0:Int)<=j:=by omega
   have j3:j<ws.length:=by omega
   have j4:j<8:=by omega
   have j5:(j:Int)<8:=by omega
   rcases hT with rfl |⟨p,rfl⟩<;>simp (maxSteps:=1000000) [zIS,zMT,zf,zG,Pl.kR,h1,h2,hL,g1,g2,g3,g4,hlen,j1,j2,j3,j4,j5,zg,zH]
def Zh2(d:NdV)(n:Nat):List Int:=(List.range n).map fun(i:Nat)=>Pl.vU d.qt (i:Int)
theorem Zkw(d:NdV)(n:Nat):Zh2 d (n+1)=Zh2 d n++[Pl.vU d.qt n]:=by simp[Zh2,List.range_succ]
theorem ZjG(d:NdV)(n:Nat):(Zh2 d n).length=n:=by simp[Zh2]
theorem Zkm(S:StV)(d:NdV)(g:RgV)(c:Int)(es:List Ent)(v w u:Nat)(hp:d.qt.length<=1000)(D:Nat)(hD:D<=5):∀(f i:Nat),i+f=D ->
  Y L Cs Zhj (some [3,14,13,0]) 4 [(3,.w (.c (sl 3 1 (zu (Zh2 d i))))),(14,.w (W i)),(13,.w (W D)),(0,.w (Pt 0))] (ndM S d g c es v w u++[some (own 1 (zu (Zh2 d i)))]) =
    some (.exit 0,[(15,.w (Bo false)),(3,.w (.c (sl 3 1 (zu (Zh2 d D))))),(14,.w (W D)),(13,.w (W D)),(0,.w (Pt 0))],ndM S d g c es v w u++[some (own 1 (zu (Zh2 d D)))])
 |0,i,h=>by
  obtain rfl:i=D:=by omega
  obtain⟨s0,s1,s2,s3,s4,n,ini,p⟩:=g;rw[ZfM Zhj.eq_1];cases ini<;>simp[Zly]
 |f+1,i,h=>by
  have ih:=Zkm S d g c es v w u hp D hD f (i+1) (by omega);have hw:=zB (i:=i) (by omega);have hci:(i:Int)<D:=by omega
  have hA:=Pl.D4 d.qt hp i;have hq:=ZjG d i;have hr:((Zh2 d i).length+1)*8<=140737488355328:=by omega
  rw[<-ih,Zkw];generalize Pl.vU d.qt (i:Int)=a at *;generalize Zh2 d i=q at *;obtain⟨s0,s1,s2,s3,s4,n,ini,p⟩:=g;rw[ZfM Zhj.eq_1];cases ini<;>simp[hci,hw,hA,hr,zX,Zly,-Int.natCast_add]
def Zkd(S:StV)(zs:List Zon)(ss:List Sgn)(d:NdV):Int×Int:=zOU S.m zs ss S.r S.car d.k6 (Zh2 d S.car.uW.toNat) d.qD S.kQ S.sig
def ZiG(S:StV)(zs:List Zon)(ss:List Sgn)(d:NdV):NdV:={ d with looked:=(Zkd S zs ss d).2,qt:=if 0<=(Zkd S zs ss d).1 then zMT (zLj S.car (Zh2 d S.car.uW.toNat) d.qD d.k6) (Zkd S zs ss d).1 else d.qt }
theorem ZjR{S:StV}{zs:List Zon}{ss:List Sgn}(hS:z6u S zs ss)(d:NdV)(g:RgV)(c:Int)(es:List Ent)(v w u:Nat)(hp:d.qt.length<=1000)(hk:d.k6.jZ.length<=100000000000) :
  ∃v',v<v'/\R L Cs ZhB [Pt 0] (ndM S d g c es v w u)=some (.w (.c (.fn Zhq [.ptr 0 0 0 0] [])),ndM S (ZiG S zs ss d) g c es v' w u):=by
 obtain⟨q1,q2,q3,q4,q5,q6,q7,q8,q9,q10⟩:=hS.car;obtain⟨D,hD⟩:=jz q9;have hr2:=zlP hS.full.full.yz hS.vJ;have hL:=Zkm S d g c es v w u hp D (by omega) D 0 (by omega);have hS2:=zPl hS.full S.r (by omega) S.car hS.car d.k6 hk (Zh2 d D) (by rw[ZjG];omega) d.qD S.kQ S.sig;have hql:=ZjG d D;have htk:(zu (Zh2 d D)).take D=zu (Zh2 d D):=jE (by simp[hql]);unfold ZiG Zkd;have eD:S.car.uW.toNat=D:=by rw[hD];rfl
 rw[eD];have q0:Zh2 d 0=[]:=rfl;generalize zOU S.m zs ss S.r S.car d.k6 (Zh2 d D) d.qD S.kQ S.sig=y at *;generalize zLj S.car (Zh2 d D) d.qD d.k6=z at *;obtain⟨f,n⟩:=y;simp only at hS2 ⊢;simp only[q0,ndM,ji,je,jh,zay,sl,own,jp,zfq,hql]at hL;simp only[zf,Pl.kR,zG,hD]at hS2;obtain⟨s0,s1,s2,s3,s4,na,ini,p⟩:=g;by_cases hf:0<=f
 ·refine⟨v+2,by omega,?_⟩;simp only[hf,if_true,decide_true]at hS2 ⊢;rw[zUa ZhH rfl];cases ini<;>simp[Zho,hL,hS2,hD,htk,hql,zX,Zly,zr]
 ·refine⟨v+1,by omega,?_⟩;simp only[hf,if_false,decide_false]at hS2 ⊢;rw[zUa ZhH rfl];cases ini<;>simp[Zho,hL,hS2,hD,htk,hql,zX,Zly,zr]
structure KB(m:zD)(k:zci):Prop where
 nd:KNd m k
 far:k.ego.shi<=1000000000+2000*k.tick
 few:k.tick<=100000
theorem KB.step{S:StV}{zs:List Zon}{ss:List Sgn}(hS:z6u S zs ss){k:zci}(h:KB S.m k)(ht:k.tick<100000)(a:Int):KB S.m (ZhP S zs ss k a)/\(ZhP S zs ss k a).tick=k.tick+1:=by
 have hd:=zLs hS.full.full.qR hS.vJ h.nd.j.ego a;have hf:=h.far;have h0:=h.nd.t;have e:(ZhP S zs ss k a).ego=zaN S.m S.r k.ego a:=rfl;have et:(ZhP S zs ss k a).tick=k.tick+1:=rfl;have hj:=zNm hS.full.full hS.vJ S.car.len S.sig h.nd.j a (show(zaN S.m S.r k.ego a).shi<=1099511627776 by omega);exact⟨⟨⟨hj,by rw[et];omega⟩,by rw[e,et];omega,by rw[et];omega⟩,et⟩
theorem ZjY:∀(l:List Mrk) (k:zci) (b:Bool),(ZhZ l (k,b)).1.ego.shi=k.ego.shi
 |[],k,b=>rfl
 |x::l,k,b=>by
  show(ZhZ l ((z9f k x.st x.lo x.hi).1,b&&(z9f k x.st x.lo x.hi).2)).1.ego.shi=_;rw[ZjY l];exact(ZhO k x.st x.lo x.hi).2.2.2
theorem Zka:∀(l:List Mrk) (k:zci) (b:Bool),(Zis l (k,b)).1.ego.shi<=k.ego.shi
 |[],k,b=>jM _
 |x::l,k,b=>by
  show(Zis l ((Zag k x.st x.lo x.hi).1,b&&(Zag k x.st x.lo x.hi).2)).1.ego.shi<=_;refine AC (Zka l _ _) ?_;unfold Zag
  (repeat' split)<;>simp only<;>omega
theorem ZjZ(S:StV):∀(l:List zZP) (k:zci) (b:Bool),(ZiH S l (k,b)).1.ego=k.ego
 |[],k,b=>rfl
 |x::l,k,b=>by
  show(ZiH S l (Zhv S (Zib S.m k x),b&&ZiS S.m (Zhv S (Zib S.m k x)) x.pts)).1.ego=_;rw[ZjZ S l];rfl
theorem ZkN(S:StV)(q:Option Hrd)(k:zci):(znE S q k).1.ego.shi<=k.ego.shi:=by
 cases q with
 |none=>exact jM _
 |some y =>
  have e:(znE S (some y) k).1.ego=(Zis y.qf (ZhZ y.ku (k,true))).1.ego:=ZjZ S y.qk _ _;rw[e];refine AC (Zka y.qf _ _) ?_;exact Int.le_of_eq (ZjY y.ku k true)
theorem KB.Bl{S:StV}{k:zci}(h:KB S.m k)(q:Option Hrd):KB S.m (znE S q k).1/\(znE S q k).1.tick=k.tick:=by
 obtain⟨h1,h2⟩:=h.nd.Bl q;have:=ZkN S q k;have:=h.far;have:=h.few;exact⟨⟨h1,by rw[h2];omega,by rw[h2];omega⟩,h2⟩
def chN(S:StV)(zs:List Zon)(ss:List Sgn)(es:List Ent)(l:List Int)(x:zci×Bool):zci×Bool :=
 l.foldl (fun q a=>((znE S (znB (q.1.tick+1) es) (ZhP S zs ss q.1 a)).1,q.2&&(znE S (znB (q.1.tick+1) es) (ZhP S zs ss q.1 a)).2)) x
def Zir(g:RgV):Nat->Int
 |0=>g.s0
 |1=>g.s1
 |2=>g.s2
 |3=>g.s3
 |_=>g.s4
theorem ZkB{g:RgV}(h:g.na<=5){i:Nat}(hi:i<g.na):g.jP.drop i=Zir g i::g.jP.drop (i+1):=by
 obtain⟨s0,s1,s2,s3,s4,n,ini,p⟩:=g;simp only at h hi;unfold RgV.jP Zir;rcases n with _|_|_|_|_|_|n
 ·omega
 all_goals first |(exfalso;omega) |(rcases i with _ |_ |_ |_ |_ |i<;>first |rfl |(exfalso;omega))
def Zk8(es:List Ent):Prop:=∀t h,znB t es=some h->Zld h t
theorem ZkP{S:StV}{zs:List Zon}{ss:List Sgn}(hS:z6u S zs ss)(es:List Ent):∀(l:List Int) (k:zci) (b:Bool),KB S.m k->k.tick+l.length<=100000->KB S.m (chN S zs ss es l (k,b)).1/\(chN S zs ss es l (k,b)).1.tick=k.tick+l.length
 |[],k,b,h,ht=>⟨h,by simp[chN]⟩
 |a::l,k,b,h,ht=>by
  simp only[jl]at ht;obtain⟨h1,h2⟩:=h.step hS (by omega) a;obtain⟨h3,h4⟩:=h1.Bl (znB (k.tick+1) es);obtain⟨h5,h6⟩:=ZkP hS es l _ (b&&(znE S (znB (k.tick+1) es) (ZhP S zs ss k a)).2) h3 (by rw[h4,h2];omega);refine⟨h5,h6.trans ?_⟩;rw[h4,h2,jl];omega
abbrev fgE(i na:Nat)(A:Cl)(ok:Bool):Env:=[(4,.w (Bo ok)),(29,.w (W i)),(28,.w (W na)),(27,.w (.c A)),(0,.w (Pt 0)),(3,.w (Pt 3))]
theorem Zks{S:StV}{zs:List Zon}{ss:List Sgn}(hS:z6u S zs ss)(d:NdV){g:RgV}(hg:g.na<=5)(hi0:g.ini=false)(ha:∀a∈g.jP,zk0 a)(c:Int)(es:List Ent)(he:Zk8 es)(v w u:Nat):∀(f i:Nat) (k:zci) (ok:Bool) (vk:Nat),i+f=g.na->KB S.m k->k.tick+f<=100000 ->
  ∃vk',Y L Cs Zhc (some [4,29,28,27,0,3]) 4 (fgE i g.na (.bsl 1 0 0 0 1 g.na 5) ok) (ndM S d g c es v w u++[bxv vk 6 (zG k)]) =
   some (.exit 0,(30,.w (Bo false))::fgE g.na g.na (.bsl 1 0 0 0 1 g.na 5) (chN S zs ss es (g.jP.drop i) (k,ok)).2,ndM S d g c es v w u++[bxv vk' 6 (zG (chN S zs ss es (g.jP.drop i) (k,ok)).1)])
 |0,i,k,ok,vk,hf,hk,ht=>by
  obtain rfl:i=g.na:=by omega
  have e:g.jP.drop g.na=[]:=ur (by simp[RgV.jP];omega);rw[e];refine⟨vk,?_⟩;obtain⟨s0,s1,s2,s3,s4,n,ini,p⟩:=g;simp only at hi0;subst hi0;rw[ZfM Zhc.eq_1];simp[chN,Zly]
 |f+1,i,k,ok,vk,hf,hk,ht=>by
  have hin:i<g.na:=by omega
  have e:=ZkB hg hin;have ha0:zk0 (Zir g i):=ha _ (ue (by rw[e];exact jq));obtain⟨k1,k2⟩:=hk.step hS (by omega) (Zir g i);obtain⟨k3,k4⟩:=k1.Bl (znB (k.tick+1) es);have h1:=Zkc hS d g c es v w u hk.nd (Zir g i) ha0;have h2:=ZjM hS d g c es v w u k1.nd (fun h hh=>he _ h hh);rw[k2]at h2;obtain⟨vk',ih⟩:=Zks hS d hg hi0 ha c es he v w u f (i+1) (znE S (znB (k.tick+1) es) (ZhP S zs ss k (Zir g i))).1 (ok&&(znE S (znB (k.tick+1) es) (ZhP S zs ss k (Zir g i))).2) (vk+1) (by omega) k3 (by rw[k4,k2];omega);refine⟨vk',?_⟩;have ec:chN S zs ss es (g.jP.drop i) (k,ok)=chN S zs ss es (g.jP.drop (i+1)) ((znE S (znB (k.tick+1) es) (ZhP S zs ss k (Zir g i))).1,ok&&(znE S (znB (k.tick+1) es) (ZhP S zs ss k (Zir g i))).2):=by rw[e];rfl
  rw[ec,<-ih];have hw:=zB (i:=i) (by omega);have hci:(i:Int)<g.na:=by omega
  clear ih ec k1 k2 k3 k4;generalize znE S (znB (k.tick+1) es) (ZhP S zs ss k (Zir g i))=y at *;obtain⟨ky,oy⟩:=y;generalize ZhP S zs ss k (Zir g i)=ks at *;obtain⟨s0,s1,s2,s3,s4,n,ini,p⟩:=g;simp only at hi0 hg hin hci;subst hi0;simp only[zG]at h1 h2;rw[ZfM Zhc.eq_1];simp[ndM,ndC,rgC,mpB,bxv]at h1 h2;have e1:(1:Int)<n<->1<n:=by omega
  have e2:(2:Int)<n<->2<n:=by omega
  have e3:(3:Int)<n<->3<n:=by omega
  have e4:(4:Int)<n<->4<n:=by omega
  rcases i with _|_|_|_|_|i
  case succ.succ.succ.succ.succ=>omega
  all_goals simp only[Zir]at h1
  all_goals have hin':=hin
  all_goals simp (config:={ failIfUnchanged:=false }) only[jJ,Nat.reduceAdd]at hin'
  all_goals cases ok<;>simp[fgE,hin',e1,e2,e3,e4,h1,h2,wk1,wk2,wk3,wk4,wk5,zG,Zly,-Int.natCast_add]
def Zkz(S:StV)(zs:List Zon)(ss:List Sgn)(g:RgV)(es:List Ent):zci×Bool:=chN S zs ss es g.jP (znE S (znB g.kh.tick es) g.kh)
theorem Zlo(ok:Bool)(M:Mem):Y L Cs Zhc (some [4,29,28,27,0,3]) 4 [(4,.w (Bo ok)),(29,.w (W 0)),(28,.w (W 0)),(27,.w (.c .jb)),(0,.w (Pt 0)),(3,.w (Pt 3))] M=some (.exit 0,[(30,.w (Bo false)),(4,.w (Bo ok)),(29,.w (W 0)),(28,.w (W 0)),(27,.w (.c .jb)),(0,.w (Pt 0)),(3,.w (Pt 3))],M):=by
 rw[ZfM Zhc.eq_1];simp
theorem Zkj{S:StV}{zs:List Zon}{ss:List Sgn}(hS:z6u S zs ss)(d:NdV){g:RgV}(hg:ZjQ g)(ha:∀a∈g.jP,zk0 a)(hk:KB S.m g.kh)(ht:g.kh.tick+g.na<=100000)(c:Int)(es:List Ent)(he:Zk8 es)(v w u:Nat) :
  R L Cs ZhW [Pt 0] (ndM S d g c es v w u)=some (.w (.c (.fn (if(Zkz S zs ss g es).2 then ZhK else ZiI) [.ptr 0 0 0 0] [])),ndM S { d with k6:=(Zkz S zs ss g es).1 } g c es (v+1) w u):=by
 obtain⟨k1,k2⟩:=hk.Bl (znB g.kh.tick es);have h1:=ZjM hS d g c es v w u hk.nd (fun h hh=>he _ h hh);unfold Zkz;cases hi:g.ini with
 |true =>
  have h0:=hg.ini hi;have e:g.jP=[]:=by simp[RgV.jP,h0]
  rw[e];simp only[chN,AZ];generalize znE S (znB g.kh.tick es) g.kh=y at *;obtain⟨ky,oy⟩:=y;obtain⟨s0,s1,s2,s3,s4,n,ini,p⟩:=g;simp only at hi h0;subst hi;subst h0;simp only[zG]at h1;rw[zUa ZhX rfl];simp[ndM,ndC,rgC,mpB,bxv]at h1;cases oy<;>simp[Zhr,h1,Zlo,zG,Zly,zr]
 |false =>
  obtain⟨vk',hL⟩:=Zks hS d hg.few hi ha c es he v w u g.na 0 (znE S (znB g.kh.tick es) g.kh).1 (znE S (znB g.kh.tick es) g.kh).2 1 (by omega) k1 (by rw[k2];exact ht);simp only[vE]at hL;generalize znE S (znB g.kh.tick es) g.kh=y at *;obtain⟨ky,oy⟩:=y;simp only at hL;generalize chN S zs ss es g.jP (ky,oy)=z at *;obtain⟨kz,oz⟩:=z;obtain⟨s0,s1,s2,s3,s4,n,ini,p⟩:=g;simp only at hi;subst hi;simp only[zG,fgE,ndM,ji,je,jh]at h1 hL;rw[zUa ZhX rfl];simp[ndC,rgC,mpB,bxv]at h1;cases oz<;>simp[Zhr,h1,hL,zG,Zly,zr]
def ZjP(n:Int)(es:List Ent):List Ent:=match ZiR n es 0 with
 |some (i,_)=>es.eraseIdx i
 |none=>es
theorem Zi0{α β:Type}{f:α->β}:∀(l:List α) (i:Nat),(l.map f).eraseIdx i=(l.eraseIdx i).map f
 |[],_=>rfl
 |_::_,0=>rfl
 |a::l,i+1=>by simp[Zi0 l i]
theorem Zkf{M:Mem}{c:Int}{es:List Ent}{u:Nat}{id:Nat}(h:M[id]?=some (mpB c es u))(n:Int):∃u' fp,(u<=u'/\(u'=u->ZjP n es=es))/\zoK M [.c (.map id true),.c (.int .i64 n)]=some (.t [],M.set id (mpB c (ZjP n es) u'),fp):=by
 unfold zoK ZjP;simp only[Zia h,ZiE,zlW];cases ZiR n es 0 with
 |none =>
  refine⟨u,.no,⟨jm _,fun _=>rfl⟩,?_⟩;simp only[Option.map_none]
  congr 3
  apply uh;intro k;by_cases hk:id=k
  ·subst hk;rw[kC (kr.1 h).1,h]
  ·rw[jD hk]
 |some q =>
  refine⟨u+1,.wr [(id,0,whole)],⟨kW u,fun h=>absurd h (by omega)⟩,?_⟩;simp[mpB,Zi0]
def Zh0(t:Int)(ks:List Int)(es:List Ent):List Ent:=ks.foldl (fun es k=>if k<t then ZjP k es else es) es
theorem Zgm(S:StV)(d:NdV)(g:RgV)(c:Int)(v w:Nat)(ks:List Int)(hks:ks.length<=1000):∀(r:List Int) (i:Nat) (es:List Ent) (u:Nat),ks.drop i=r->i<=ks.length ->
  ∃u',(u<=u'/\(u'=u->Zh0 g.kh.tick r es=es))/\Y L Cs Zlz (some [62,61,60,0]) 5 [(62,.w (W i)),(61,.w (W ks.length)),(60,.w (.c (sl 4 1 (zu ks)))),(0,.w (Pt 0))] (ndM S d g c es v w u++[bx 1 [.map 2 true],some (own 1 (zu ks))]) =
   some (.exit 2,[(63,.w (Bo false)),(62,.w (W ks.length)),(61,.w (W ks.length)),(60,.w (.c (sl 4 1 (zu ks)))),(0,.w (Pt 0))],ndM S d g c (Zh0 g.kh.tick r es) v w u'++[bx 1 [.map 2 true],some (own 1 (zu ks))])
 |[],i,es,u,hd,hi=>by
  have e:i=ks.length:=by
   have:=congrArg List.length hd;simp at this;omega
  subst e;refine⟨u,⟨jm _,fun _=>rfl⟩,?_⟩;obtain⟨s0,s1,s2,s3,s4,n,ini,p⟩:=g;rw[ZfM Zlz.eq_1];cases ini<;>simp[Zh0,Zly]
 |x::r,i,es,u,hd,hi=>by
  have h1:i<ks.length:=by
   have:=congrArg List.length hd;simp at this;omega
  have h2:ks[i]=x:=by rw[jy h1]at hd;exact(j9 hd).1
  have h3:ks.drop (i+1)=r:=by rw[jy h1]at hd;exact(j9 hd).2
  have hw:=zB (i:=i) (by omega);have hci:(i:Int)<ks.length:=by omega
  have kV:(zu ks)[i]?=some [I x]:=by simp[zu,h1,h2]
  by_cases hc:x<g.kh.tick
  ·have hM:(ndM S d g c es v w u++[bx 1 [.map 2 true],some (own 1 (zu ks))])[2]?=some (mpB c es u):=rfl;obtain⟨u1,fp,hfp,hD⟩:=Zkf hM x;obtain⟨u',hu,ih⟩:=Zgm S d g c v w ks hks r (i+1) (ZjP x es) u1 h3 (by omega);have e:Zh0 g.kh.tick (x::r) es=Zh0 g.kh.tick r (ZjP x es):=by simp[Zh0,hc]
   refine⟨u',⟨jV hfp.1 hu.1,fun q=>?_⟩,?_⟩
   ·have h5:=hfp.1;have h6:=hu.1;rw[e,hu.2 (by omega)];exact hfp.2 (by omega)
   rw[e,<-ih];clear hfp hu;generalize ZjP x es=es' at *;obtain⟨s0,s1,s2,s3,s4,n,ini,p⟩:=g;simp only[ndM,ji,je,own,zfq]at hD;simp only at hc;rw[ZfM Zlz.eq_1];cases ini<;>simp[hci,h1,h2,hw,hc,hD,Zly,-Int.natCast_add]
  ·obtain⟨u',hu,ih⟩:=Zgm S d g c v w ks hks r (i+1) es u h3 (by omega);have e:Zh0 g.kh.tick (x::r) es=Zh0 g.kh.tick r es:=by simp[Zh0,hc]
   refine⟨u',⟨hu.1,fun q=>by rw[e];exact hu.2 q⟩,?_⟩;rw[e,<-ih];clear hu;obtain⟨s0,s1,s2,s3,s4,n,ini,p⟩:=g;simp only at hc;rw[ZfM Zlz.eq_1];cases ini<;>simp[hci,h1,h2,hw,hc,Zly,-Int.natCast_add]
theorem Zj9(S:StV)(d:NdV)(g:RgV)(c:Int)(es:List Ent)(v w u:Nat)(hn:0<=d.now/\d.now<=1099511627776)(h:¬g.kh.tick<d.now-4):Y L Cs ZlA (some [0]) 3 [(0,.w (Pt 0))] (ndM S d g c es v w u)=some (.exit 0,[(19,.w (Bo false)),(0,.w (Pt 0))],ndM S d g c es v w u):=by
 have hw:IntKind.i64.wrap (d.now-4)=d.now-4:=zTd _ (by omega) (by omega);obtain⟨s0,s1,s2,s3,s4,n,ini,p⟩:=g;simp only at h;rw[ZfM ZlA.eq_1];cases ini<;>simp[hw,h,Zly]
def Zh9(S:StV)(zs:List Zon)(ss:List Sgn)(es:List Ent)(g:RgV):RgV:=ZhL { g with kh:=ZhP S zs ss (znE S (znB g.kh.tick es) g.kh).1 g.s0 }
theorem ZgL{S:StV}{zs:List Zon}{ss:List Sgn}(hS:z6u S zs ss)(d:NdV){g:RgV}(hg:g.na<=5)(h0:0<g.na)(hi:g.ini=false)(ha:zk0 g.s0)(hk:KB S.m g.kh)(ht:g.kh.tick<100000)(c:Int)(es:List Ent)(he:Zk8 es)(v w u:Nat)(hn:0<=d.now/\d.now<=1099511627776)(h:g.kh.tick<d.now-4) :
  Y L Cs ZlA (some [0]) 3 [(0,.w (Pt 0))] (ndM S d g c es v w u)=Y L Cs ZlA (some [0]) 3 [(0,.w (Pt 0))] (ndM S d (Zh9 S zs ss es g) c es v (w+3) u):=by
 have hw:IntKind.i64.wrap (d.now-4)=d.now-4:=zTd _ (by omega) (by omega);obtain⟨k1,k2⟩:=hk.Bl (znB g.kh.tick es);have h1:=ZjM hS d g c es v w u hk.nd (fun h hh=>he _ h hh);have h2:=Zkc hS d g c es v w u k1.nd g.s0 ha;have h3:=Zki (g:={ g with kh:=ZhP S zs ss (znE S (znB g.kh.tick es) g.kh).1 g.s0 }) hg h0 hi (w+1);have h4:=(Zjr (g:={ g with kh:=ZhP S zs ss (znE S (znB g.kh.tick es) g.kh).1 g.s0 }) hg h0 hi).2.2.2.2;unfold Zh9;generalize ZhL { g with kh:=ZhP S zs ss (znE S (znB g.kh.tick es) g.kh).1 g.s0 }=g' at *;generalize znE S (znB g.kh.tick es) g.kh=y at *;obtain⟨ky,oy⟩:=y;simp only at h1 h2 h3;generalize ZhP S zs ss ky g.s0=ks at *;obtain⟨s0,s1,s2,s3,s4,n,ini,p⟩:=g;obtain⟨r0,r1,r2,r3,r4,n',ini',p'⟩:=g';simp only at h4 hi h h0 hg;subst h4;subst hi;have hn1:0<n:=h0;simp only[zG]at h1 h2;rw[ZfM ZlA.eq_1];simp[ndM,ndC,rgC,mpB,bxv]at h1 h2 h3;simp[hw,h,h1,h2,h3,hn1,zG,Zly];rfl
theorem ZkS(c:Int)(es:List Ent)(u:Nat):R L Cs Zi1 [.c (.map 0 true)] [mpB c es u]=some (.w (.c (.fn Zhd [] [.ptr 1 0 0 0])),[mpB c es u,bx 1 [.map 0 true]]):=by
 rw[zUa Zjd rfl];simp[ZhC,zr,Zly]
def ZjC(c:Int)(es:List Ent)(ks:List Int):Prop:=∀u,R L Cs Zit [.c (.fn Zhd [] [.ptr 0 0 0 0])] [bx 1 [.map 1 true],mpB c es u] =
 some (if ks=[] then(.w (.c .jb),[bx 1 [.map 1 true],mpB c es u]) else(.w (.c (sl 2 1 (zu ks))),[bx 1 [.map 1 true],mpB c es u,some (own 1 (zu ks))]))
theorem Zk3(M:Mem):Y L Cs Zlz (some [62,61,60,0]) 4 [(62,.w (W 0)),(61,.w (W 0)),(60,.w (.c .jb)),(0,.w (Pt 0))] M=some (.exit 2,[(63,.w (Bo false)),(62,.w (W 0)),(61,.w (W 0)),(60,.w (.c .jb)),(0,.w (Pt 0))],M):=by
 rw[ZfM Zlz.eq_1];simp
theorem Zjs{S:StV}(d:NdV)(g:RgV)(c:Int)(es:List Ent)(v w u:Nat)(g':RgV)(w1:Nat)(h1:Y L Cs ZlA (some [0]) 3 [(0,.w (Pt 0))] (ndM S d g c es v w u)=some (.exit 0,[(19,.w (Bo false)),(0,.w (Pt 0))],ndM S d g' c es v w1 u))(ks:List Int)(hK:ZjC c es ks)(hks:ks.length<=1000) :
  ∃u',(u<=u'/\(u'=u->Zh0 g'.kh.tick ks es=es))/\R L Cs Zhz [Pt 0] (ndM S d g c es v w u)=some (.t [],ndM S d g' c (Zh0 g'.kh.tick ks es) v w1 u'):=by
 have hk1:=ZkS c es u;have hk2:=hK u;cases ks with
 |nil =>
  refine⟨u,⟨jm _,fun _=>rfl⟩,?_⟩;rw[if_pos rfl]at hk2;have e:Zh0 g'.kh.tick [] es=es:=rfl;rw[e];obtain⟨r0,r1,r2,r3,r4,n',ini',p'⟩:=g';rw[zUa ZhY rfl];cases ini'<;>simp[Zhs,h1,hk1,hk2,Zk3,zr,Zly]
 |cons k ks =>
  rw[if_neg (by simp)]at hk2;obtain⟨u',hu,hL⟩:=Zgm S d g' c v w1 (k::ks) hks (k::ks) 0 es u rfl (ju _);refine⟨u',hu,?_⟩;clear hu;generalize Zh0 g'.kh.tick (k::ks) es=es' at *;generalize k::ks=l at *;obtain⟨r0,r1,r2,r3,r4,n',ini',p'⟩:=g';simp only[ndM,ji,je,jh,sl,own,zfq]at hL hk2;rw[zUa ZhY rfl];cases ini'<;>simp[Zhs,h1,hk1,hk2,hL,zr,Zly]
def Zhl(S:StV)(zs:List Zon)(ss:List Sgn)(es:List Ent)(g:RgV):RgV:=if g.na=5 then Zh9 S zs ss es g else g
theorem Zj0{S:StV}{zs:List Zon}{ss:List Sgn}(hS:z6u S zs ss){g:RgV}(hg:g.na<=5)(h0:0<g.na)(hi:g.ini=false)(hk:KB S.m g.kh)(ht:g.kh.tick<100000)(es:List Ent) :
  ZjQ (Zh9 S zs ss es g)/\(Zh9 S zs ss es g).na+1=g.na/\(Zh9 S zs ss es g).jP=g.jP.tail/\(Zh9 S zs ss es g).kh=ZhP S zs ss (znE S (znB g.kh.tick es) g.kh).1 g.s0/\KB S.m (Zh9 S zs ss es g).kh/\(Zh9 S zs ss es g).kh.tick=g.kh.tick+1:=by
 obtain⟨k1,k2⟩:=hk.Bl (znB g.kh.tick es);obtain⟨k3,k4⟩:=k1.step (zs:=zs) (ss:=ss) hS (by rw[k2];exact ht) g.s0;obtain⟨a1,a2,a3,a4,a5⟩:=Zjr (g:={ g with kh:=ZhP S zs ss (znE S (znB g.kh.tick es) g.kh).1 g.s0 }) hg h0 hi;refine⟨a4,a2,a1,a3,?_,?_⟩
 ·unfold Zh9;rw[a3];exact k3
 ·unfold Zh9;rw[a3];simp only;rw[k4,k2]
theorem Zkk{S:StV}{zs:List Zon}{ss:List Sgn}(hS:z6u S zs ss)(d:NdV){g:RgV}(hg:ZjQ g)(ha:∀a∈g.jP,zk0 a)(hk:KB S.m g.kh)(hn:d.now=g.kh.tick+g.na)(ht:d.now<=100000)(c:Int)(es:List Ent)(he:Zk8 es)(v w u:Nat)(ks:List Int)(hK:ZjC c es ks)(hks:ks.length<=1000) :
  ∃w' u',(w<=w'/\(w'=w->Zhl S zs ss es g=g))/\(u<=u'/\(u'=u->Zh0 (Zhl S zs ss es g).kh.tick ks es=es))/\R L Cs Zhz [Pt 0] (ndM S d g c es v w u)=some (.t [],ndM S d (Zhl S zs ss es g) c (Zh0 (Zhl S zs ss es g).kh.tick ks es) v w' u'):=by
 have hf:=hg.few;have h0:=hk.nd.t;unfold Zhl;by_cases h5:g.na=5
 ·rw[if_pos h5];have hi:g.ini=false:=by
   cases hi:g.ini with
   |false=>rfl
   |true=>have:=hg.ini hi;omega
  have hs0:g.s0∈g.jP:=by simp[RgV.jP,h5]
  obtain⟨b1,b2,b3,b4,b5,b6⟩:=Zj0 (zs:=zs) (ss:=ss) hS hf (by omega) hi hk (by omega) es;have e1:=ZgL (zs:=zs) (ss:=ss) hS d hf (by omega) hi (ha _ hs0) hk (by omega) c es he v w u (by omega) (by omega);have e2:=Zj9 S d (Zh9 S zs ss es g) c es v (w+3) u (by omega) (by rw[b6];omega);obtain⟨u',hu,h⟩:=Zjs d g c es v w u (Zh9 S zs ss es g) (w+3) (e1.trans e2) ks hK hks;exact⟨_,u',⟨by omega,fun q=>absurd q (by omega)⟩,hu,h⟩
 ·rw[if_neg h5];have e2:=Zj9 S d g c es v w u (by omega) (by omega);obtain⟨u',hu,h⟩:=Zjs d g c es v w u g w e2 ks hK hks;exact⟨_,u',⟨jm _,fun _=>rfl⟩,hu,h⟩
structure Zlw(n:Nat)(h:Hrd)(t:Int):Prop where
 n1:h.ku.length<=n
 n2:h.qf.length<=n
 n3:h.qk.length<=n
 s1:∀x∈h.ku,x.st=t
 s2:∀x∈h.qf,x.st=t
 s3:∀x∈h.qk,x.uJ=t/\x.seen.length<=5000/\x.pts.length<=1000
def EsN(n:Nat)(es:List Ent):Prop:=∀e∈es,Zlw n e.hrd e.key
theorem ZlB{n:Int}{h:Hrd}:∀{es:List Ent},znB n es=some h->∃e∈es,e.key=n/\e.hrd=h
 |[],hf=>nomatch hf
 |e::r,hf=>by
  unfold znB at hf;split at hf
  ·rename_i hk;exact⟨e,jq,hk.symm,AD hf⟩
  ·obtain⟨e',h1,h2⟩:=ZlB hf;exact⟨e',js _ h1,h2⟩
theorem EsN.at{n:Nat}{es:List Ent}(h:EsN n es)(t:Int):Zlw n (Ziq es t) t:=by
 unfold Ziq;cases hf:znB t es with
 |none=>exact⟨ju _,ju _,ju _,fun x hx=>absurd hx (by simp),fun x hx=>absurd hx (by simp),fun x hx=>absurd hx (by simp)⟩
 |some y =>
  obtain⟨e,h1,rfl,rfl⟩:=ZlB hf;exact h e h1
theorem EsN.ok{n:Nat}(hn:n<=1000){es:List Ent}(h:EsN n es):Zk8 es:=fun t y hy=>by
 obtain⟨e,h1,rfl,rfl⟩:=ZlB hy;obtain⟨a,b,c,d,e,f⟩:=h e h1;exact⟨jV a hn,jV b hn,jV c hn,fun x hx=>(f x hx).1,fun x hx=>(f x hx).2.1,fun x hx=>(f x hx).2.2⟩
theorem EsN.he{n:Nat}(hn:n<=1000){es:List Ent}(h:EsN n es):Zlq 1000 es:=fun t=>by
 obtain⟨a,b,c,_⟩:=h.at t;omega
theorem EsN.mono{n k:Nat}(hn:n<=k){es:List Ent}(h:EsN n es):EsN k es:=fun t ht=>by
 obtain⟨a,b,c,d,e,f⟩:=h t ht;exact⟨by omega,by omega,by omega,d,e,f⟩
theorem ZjI{α:Type}{f:α->α}{x:α}:∀{l:List α} {i:Nat},x∈l.modify i f->x∈l\/∃y∈l,x=f y
 |[],i,h=>by simp at h
 |a::l,0,h=>by
  rw[List.modify_zero_cons]at h;rcases jG.1 h with rfl|h
  ·exact .inr ⟨a,jq,rfl⟩
  ·exact .inl (js _ h)
 |a::l,i+1,h=>by
  rw[List.modify_succ_cons]at h;rcases jG.1 h with rfl|h
  ·exact .inl jq
  ·rcases ZjI h with h |⟨y,hy,e⟩
   ·exact .inl (js _ h)
   ·exact .inr ⟨y,js _ hy,e⟩
theorem EsN.put{n:Nat}{q:Int×List Ent}(h:EsN n q.2)(t:Int){y:Hrd}(hy:Zlw (n+1) y t):EsN (n+1) (ZiZ t y q).2:=by
 intro e he;unfold ZiZ at he;split at he
 ·rcases ZjI he with he |⟨z,_,rfl⟩
  ·exact h.mono (kW n) e he
  ·exact hy
 ·rcases jB.1 he with he|he
  ·exact h.mono (kW n) e he
  ·rw[jt.1 he];exact hy
theorem EsN.del{n:Nat}{es:List Ent}(h:EsN n es)(t:Int):EsN n (ZjP t es):=by
 intro e he;unfold ZjP at he;split at he
 ·exact h e (List.mem_of_mem_eraseIdx he)
 ·exact h e he
theorem EsN.fgt{n:Nat}(t:Int):∀(ks:List Int) {es:List Ent},EsN n es->EsN n (Zh0 t ks es)
 |[],es,h=>h
 |k::ks,es,h=>by
  show EsN n (Zh0 t ks (if k<t then ZjP k es else es));refine EsN.fgt t ks ?_;split
  ·exact h.del k
  ·exact h
theorem ZjH{α:Type}{l:List α}{a x:α}(h:x∈l++[a]):x∈l\/x=a:=by simpa using h
theorem EsN.he1{n:Nat}{d:NdV}{q:Int×List Ent}(h:EsN n q.2)(y:Mrk):EsN (n+1) (he1 d q y).2:=by
 unfold Go.TrRun.he1;split
 ·obtain⟨a,b,c,d,e,f⟩:=h.at y.st;exact h.put _ ⟨by simp only[jw,u5];omega,uf b,uf c,fun x hx=>by
   rcases ZjH hx with hx|rfl
   ·exact d x hx
   ·rfl,e,f⟩
 ·exact h.mono (kW n)
theorem EsN.he2{n:Nat}{d:NdV}{q:Int×List Ent}(h:EsN n q.2)(y:Mrk):EsN (n+1) (he2 d q y).2:=by
 unfold Go.TrRun.he2;split
 ·obtain⟨a,b,c,d,e,f⟩:=h.at y.st;exact h.put _ ⟨uf a,by simp only[jw,u5];omega,uf c,d,fun x hx=>by
   rcases ZjH hx with hx|rfl
   ·exact e x hx
   ·rfl,f⟩
 ·exact h.mono (kW n)
theorem EsN.he3{n:Nat}{d:NdV}{q:Int×List Ent}(h:EsN n q.2){y:zZP}(hy:y.seen.length<=5000/\y.pts.length<=1000):EsN (n+1) (he3 d q y).2:=by
 unfold Go.TrRun.he3;split
 ·obtain⟨a,b,c,d,e,f⟩:=h.at y.uJ;exact h.put _ ⟨uf a,uf b,by simp only[jw,u5];omega,d,e,fun x hx=>by
   rcases ZjH hx with hx|rfl
   ·exact f x hx
   ·exact⟨rfl,hy⟩⟩
 ·exact h.mono (kW n)
structure Zjo where
 tick:Int
 qk:List zZP
 ku:List Mrk
 qf:List Mrk
abbrev inC(x:Zjo):List Cl:=[I x.tick,.jc (ZlG x.qk),.jc (zb x.ku),.jc (zb x.qf)]
structure Zlc(x:Zjo):Prop where
 n1:x.qk.length<=100
 n2:x.ku.length<=100
 n3:x.qf.length<=100
 sc:∀y∈x.qk,y.seen.length<=5000/\y.pts.length<=1000
theorem Zj5{S:StV}(d:NdV)(g:RgV)(v w:Nat)(hn:0<=d.now/\d.now<=1099511627776)(x:Zjo)(l:List Mrk)(hl:l.length<=100):∀(r:List Mrk) (i:Nat) (q:Int×List Ent) (u n:Nat),l.drop i=r->i<=l.length->EsN n q.2->n+r.length<=1000 ->
  ∃u',(u<=u'/\(u'=u->r.foldl (he1 d) q=q))/\EsN (n+r.length) (r.foldl (he1 d) q).2/\Y L Cs zn2 (some [16,15,3,14,0]) 4 (ZkL l i) (heM S d g q v w u (inC x))=some (.exit 0,(17,.w (Bo false))::ZkL l l.length,heM S d g (r.foldl (he1 d) q) v w u' (inC x))
 |[],i,q,u,n,hd,hi,hq,hk=>by
  have e:i=l.length:=by
   have:=congrArg List.length hd;simp at this;omega
  subst e;refine⟨u,⟨jm _,fun _=>rfl⟩,hq,?_⟩;obtain⟨s0,s1,s2,s3,s4,n,ini,p⟩:=g;rw[ZfM zn2.eq_1];cases ini<;>simp[Zly]
 |a::r,i,q,u,n,hd,hi,hq,hk=>by
  have h1:i<l.length:=by
   have:=congrArg List.length hd;simp at this;omega
  have h2:l[i]=a:=by rw[jy h1]at hd;exact(j9 hd).1
  have h3:l.drop (i+1)=r:=by rw[jy h1]at hd;exact(j9 hd).2
  simp only[jl]at hk;obtain⟨u1,m1,e⟩:=ZkK (S:=S) d g q v w u hn (x.tick,x.qk,x.ku,x.qf) l (by omega) i h1 (hq.he (by omega));obtain⟨u2,m2,c1,ih⟩:=Zj5 (S:=S) d g v w hn x l hl r (i+1) (he1 d q a) u1 (n+1) h3 (by omega) (hq.he1 a) (by omega);rw[h2]at e m1;exact⟨u2,⟨jV m1.1 m2.1,fun q'=>by
   have p1:=m1.1;have p2:=m2.1;rw[jO,m2.2 (by omega)];exact m1.2 (by omega)⟩,by rw[jl,<-kS,y8];exact c1,e.trans ih⟩
theorem Zj4{S:StV}(d:NdV)(g:RgV)(v w:Nat)(hn:0<=d.now/\d.now<=1099511627776)(x:Zjo)(l:List Mrk)(hl:l.length<=100):∀(r:List Mrk) (i:Nat) (q:Int×List Ent) (u n:Nat),l.drop i=r->i<=l.length->EsN n q.2->n+r.length<=1000 ->
  ∃u',(u<=u'/\(u'=u->r.foldl (he2 d) q=q))/\EsN (n+r.length) (r.foldl (he2 d) q).2/\Y L Cs znM (some [49,48,3,47,0]) 4 (ZkJ l i) (heM S d g q v w u (inC x))=some (.exit 2,(50,.w (Bo false))::ZkJ l l.length,heM S d g (r.foldl (he2 d) q) v w u' (inC x))
 |[],i,q,u,n,hd,hi,hq,hk=>by
  have e:i=l.length:=by
   have:=congrArg List.length hd;simp at this;omega
  subst e;refine⟨u,⟨jm _,fun _=>rfl⟩,hq,?_⟩;obtain⟨s0,s1,s2,s3,s4,n,ini,p⟩:=g;rw[ZfM znM.eq_1];cases ini<;>simp[Zly]
 |a::r,i,q,u,n,hd,hi,hq,hk=>by
  have h1:i<l.length:=by
   have:=congrArg List.length hd;simp at this;omega
  have h2:l[i]=a:=by rw[jy h1]at hd;exact(j9 hd).1
  have h3:l.drop (i+1)=r:=by rw[jy h1]at hd;exact(j9 hd).2
  simp only[jl]at hk;obtain⟨u1,m1,e⟩:=ZkI (S:=S) d g q v w u hn (x.tick,x.qk,x.ku,x.qf) l (by omega) i h1 (hq.he (by omega));obtain⟨u2,m2,c1,ih⟩:=Zj4 (S:=S) d g v w hn x l hl r (i+1) (he2 d q a) u1 (n+1) h3 (by omega) (hq.he2 a) (by omega);rw[h2]at e m1;exact⟨u2,⟨jV m1.1 m2.1,fun q'=>by
   have p1:=m1.1;have p2:=m2.1;rw[jO,m2.2 (by omega)];exact m1.2 (by omega)⟩,by rw[jl,<-kS,y8];exact c1,e.trans ih⟩
theorem Zkp(d:NdV)(y:zZP):(heD d y).now=d.now:=by unfold heD;split<;>rfl
def heS:List zZP->NdV×(Int×List Ent)->NdV×(Int×List Ent)
 |[],x=>x
 |y::r,x=>heS r (heD x.1 y,he3 x.1 x.2 y)
theorem Zj3{S:StV}(g:RgV)(w:Nat)(x:Zjo)(l:List zZP)(hl:l.length<=100)(hsc:∀y∈l,y.seen.length<=5000/\y.pts.length<=1000):∀(r:List zZP) (i:Nat) (d:NdV) (q:Int×List Ent) (u v n:Nat),0<=d.now/\d.now<=1099511627776->l.drop i=r->i<=l.length->EsN n q.2->n+r.length<=1000 ->
  ∃u' v',((u<=u'/\(u'=u->(heS r (d,q)).2=q))/\(v<=v'/\(v'=v->(heS r (d,q)).1=d)))/\EsN (n+r.length) (heS r (d,q)).2.2/\Y L Cs znK (some [82,81,80,0]) 4 (ZkH l i) (heM S d g q v w u (inC x))=some (.exit 4,(83,.w (Bo false))::ZkH l l.length,heM S (heS r (d,q)).1 g (heS r (d,q)).2 v' w u' (inC x))
 |[],i,d,q,u,v,n,hn,hd,hi,hq,hk=>by
  have e:i=l.length:=by
   have:=congrArg List.length hd;simp at this;omega
  subst e;refine⟨u,v,⟨⟨jm _,fun _=>rfl⟩,⟨jm _,fun _=>rfl⟩⟩,hq,?_⟩;obtain⟨s0,s1,s2,s3,s4,n,ini,p⟩:=g;rw[ZfM znK.eq_1];cases ini<;>simp[Zly,heS]
 |a::r,i,d,q,u,v,n,hn,hd,hi,hq,hk=>by
  have h1:i<l.length:=by
   have:=congrArg List.length hd;simp at this;omega
  have h2:l[i]=a:=by rw[jy h1]at hd;exact(j9 hd).1
  have h3:l.drop (i+1)=r:=by rw[jy h1]at hd;exact(j9 hd).2
  have ha:a∈l:=by rw[<-h2];exact jf h1
  simp only[jl]at hk;obtain⟨u1,v1,⟨m1,m2⟩,e⟩:=ZkG (S:=S) d g q v w u hn (x.tick,x.qk,x.ku,x.qf) l (by omega) (fun y hy=>(hsc y hy).1) (fun y hy=>(hsc y hy).2) i h1 (hq.he (by omega));rw[h2]at e m1 m2;obtain⟨u2,v2,⟨m3,m4⟩,c1,ih⟩:=Zj3 (S:=S) g w x l hl hsc r (i+1) (heD d a) (he3 d q a) u1 v1 (n+1) (by rw[Zkp];exact hn) h3 (by omega) (hq.he3 (hsc a ha)) (by omega);exact⟨u2,v2,⟨⟨jV m1.1 m3.1,fun q'=>by
   have p1:=m1.1;have p2:=m3.1;show(heS r (heD d a,he3 d q a)).2=q;rw[m3.2 (by omega)];exact m1.2 (by omega)⟩,⟨jV m2.1 m4.1,fun q'=>by
   have p1:=m2.1;have p2:=m4.1;show(heS r (heD d a,he3 d q a)).1=d;rw[m4.2 (by omega)];exact m2.2 (by omega)⟩⟩,by rw[jl,<-kS,y8];exact c1,e.trans ih⟩
def ZiQ(d:NdV)(q:Int×List Ent)(x:Zjo):NdV×(Int×List Ent):=heS x.qk (d,x.qf.foldl (he2 d) (x.ku.foldl (he1 d) q))
theorem ZkR{S:StV}(d:NdV)(g:RgV)(q:Int×List Ent)(v w u n:Nat)(hn:0<=d.now/\d.now<=1099511627776)(x:Zjo)(hx:Zlc x)(hq:EsN n q.2)(hk:n+300<=1000) :
  ∃v' u',((u<=u'/\(u'=u->(ZiQ d q x).2=q))/\(v<=v'/\(v'=v->(ZiQ d q x).1=d)))/\EsN (n+300) (ZiQ d q x).2.2/\R L Cs Zh4 [Pt 0,.a (inC x)] (ndM S d g q.1 q.2 v w u)=some (.t [],ndM S (ZiQ d q x).1 g (ZiQ d q x).2.1 (ZiQ d q x).2.2 v' w u'):=by
 obtain⟨x1,x2,x3,x4⟩:=hx;obtain⟨u1,m1,a1,h1⟩:=Zj5 (S:=S) d g v w hn x x.ku x2 x.ku 0 q u n rfl (ju _) hq (by omega);obtain⟨u2,m2,a2,h2⟩:=Zj4 (S:=S) d g v w hn x x.qf x3 x.qf 0 (x.ku.foldl (he1 d) q) u1 _ rfl (ju _) a1 (by omega);obtain⟨u3,v3,⟨m3,m4⟩,a3,h3⟩:=Zj3 (S:=S) g w x x.qk x1 x4 x.qk 0 d (x.qf.foldl (he2 d) (x.ku.foldl (he1 d) q)) u2 v _ hn rfl (ju _) a2 (by omega);refine⟨v3,u3,⟨⟨jV m1.1 (jV m2.1 m3.1),fun e=>?_⟩,m4⟩,a3.mono (by omega),?_⟩
 ·have p1:=m1.1;have p2:=m2.1;have p3:=m3.1;unfold ZiQ;rw[m3.2 (by omega),m2.2 (by omega)];exact m1.2 (by omega)
 clear m1 m2 m3 m4;unfold ZiQ;generalize heS x.qk (d,x.qf.foldl (he2 d) (x.ku.foldl (he1 d) q))=z at *;generalize x.qf.foldl (he2 d) (x.ku.foldl (he1 d) q)=q2 at *;generalize x.ku.foldl (he1 d) q=q1 at *;obtain⟨c,es⟩:=q;obtain⟨c1,es1⟩:=q1;obtain⟨c2,es2⟩:=q2;obtain⟨d3,c3,es3⟩:=z;obtain⟨s0,s1,s2,s3,s4,na,ini,p⟩:=g;simp only[ZkL,ZkJ,ZkH,heM,ndM,ji,je,jh]at h1 h2 h3;rw[zUa Zjh rfl];cases ini<;>simp[ZhF,h1,h2,h3,Zly]
abbrev fnN(f:Nat):Cl:=.fn f [.ptr 0 0 0 0] []
theorem ZjB(S:StV)(d d':NdV)(g:RgV)(c:Int)(es:List Ent)(v v' w u f f':Nat)(x:Zjo)(hv:¬v'=v)(hR:R L Cs f [Pt 0] (ndM S d g c es v w u)=some (.w (.c (fnN f')),ndM S d' g c es v' w u)) :
  Y L Cs zj (some [6,0]) 4 [(6,.w (.c (fnN f))),(0,.w (Pt 0))] (ndM S d g c es v w u++[bx 4 (inC x)])=Y L Cs zj (some [6,0]) 4 [(6,.w (.c (fnN f'))),(0,.w (Pt 0))] (ndM S d' g c es v' w u++[bx 4 (inC x)]):=by
 obtain⟨s0,s1,s2,s3,s4,na,ini,p⟩:=g;rw[ZfM zj.eq_1];cases ini<;>simp[ndM,ndC,rgC,mpB,bxv]at hR<;>simp[hR,hv,Zly,zr]
theorem ZkV(S:StV)(d d':NdV)(g g':RgV)(c:Int)(es:List Ent)(v v' w w' u f:Nat)(x:Zjo)(hv:¬v'=v)(hw:¬w'=w)(hR:R L Cs f [Pt 0] (ndM S d g c es v w u)=some (.w (.c .ul),ndM S d' g' c es v' w' u)) :
  Y L Cs zj (some [6,0]) 4 [(6,.w (.c (fnN f))),(0,.w (Pt 0))] (ndM S d g c es v w u++[bx 4 (inC x)])=some (.exit 1,[(43,.w (Bo false)),(6,.w (.c .ul)),(0,.w (Pt 0))],ndM S d' g' c es v' w' u++[bx 4 (inC x)]):=by
 obtain⟨s0,s1,s2,s3,s4,na,ini,p⟩:=g;obtain⟨r0,r1,r2,r3,r4,ma,jni,p'⟩:=g';rw[ZfM zj.eq_1];cases ini<;>cases jni<;>simp[ndM,ndC,rgC,mpB,bxv]at hR<;>simp[hR,hv,hw,Zly,zr]<;>rw[ZfM zj.eq_1]<;>simp[Zly]
structure Zk7(S:StV)(d:NdV)(g:RgV)(es:List Ent)(n:Nat):Prop where
 rg:ZjQ g
 jP:∀a∈g.jP,zk0 a
 kh:KB S.m g.kh
 now:d.now=g.kh.tick+g.na
 few:d.now<=90000
 ents:EsN n es
 last:0<=d.last/\d.last<=1099511627776
 qt:d.qt.length<=900
def goN(S:StV)(zs:List Zon)(ss:List Sgn)(d:NdV)(k:zci):NdV :=
 if(ZiF S { d with k6:=k }).mode=1 then ZiG S zs ss (ZiF S { d with k6:=k }) else ZiF S { d with k6:=k }
def hrN(S:StV)(zs:List Zon)(ss:List Sgn)(d:NdV)(g:RgV)(c:Int)(es:List Ent)(ks:List Int)(x:Zjo):NdV×(Int×List Ent):=ZiQ d (c,Zh0 (Zhl S zs ss es g).kh.tick ks es) x
theorem Zla:∀(l:List zZP) (d:NdV) (q:Int×List Ent),(heS l (d,q)).1.now=d.now/\(heS l (d,q)).1.qt=d.qt/\(heS l (d,q)).1.first=d.first/\(heS l (d,q)).1.mode=d.mode/\(heS l (d,q)).1.qD=d.qD/\(heS l (d,q)).1.told=d.told/\(heS l (d,q)).1.k6=d.k6
 |[],d,q=>⟨rfl,rfl,rfl,rfl,rfl,rfl,rfl⟩
 |y::l,d,q=>by
  have h:=Zla l (heD d y) (he3 d q y);have e:(heD d y).now=d.now/\(heD d y).qt=d.qt/\(heD d y).first=d.first/\(heD d y).mode=d.mode/\(heD d y).qD=d.qD/\(heD d y).told=d.told/\(heD d y).k6=d.k6:=by
   unfold heD;split<;>exact⟨rfl,rfl,rfl,rfl,rfl,rfl,rfl⟩
  obtain⟨a1,a2,a3,a4,a5,a6,a7⟩:=h;obtain⟨b1,b2,b3,b4,b5,b6,b7⟩:=e;exact⟨a1.trans b1,a2.trans b2,a3.trans b3,a4.trans b4,a5.trans b5,a6.trans b6,a7.trans b7⟩
theorem Zj2:∀(l:List zZP) (d:NdV) (q:Int×List Ent),0<=d.last/\d.last<=1099511627776->0<=d.now/\d.now<=1099511627776->0<=(heS l (d,q)).1.last/\(heS l (d,q)).1.last<=1099511627776
 |[],d,q,h,_=>h
 |y::l,d,q,h,hn=>by
  refine Zj2 l (heD d y) (he3 d q y) ?_ (by rw[Zkp];exact hn);unfold heD Zjv;split
  ·rename_i hc;simp only[jk,decide_eq_true_eq]at hc;simp only;omega
  ·exact h
theorem Zko{S:StV}{d d':NdV}{g g':RgV}{c c':Int}{es es':List Ent}{v v' w w' u u' f:Nat}{xs:List Cl}{X:List Cl}(hxs:xs=[]\/∃x:Zjo,xs=inC x)(hX:∃x:Zjo,X=inC x)(hv:v'=v->d'=d)(hw:w'=w->g'=g)(hu:u'=u->c'=c/\es'=es)
  (hR:R L Cs f (Pt 0::if xs=[] then [] else [.a xs]) (ndM S d g c es v w u)=some (.t [],ndM S d' g' c' es' v' w' u')) :
  ∃fp,zx (R L Cs) ⟨true⟩ (.c (.fn f [] [])) (Pt 0::if xs=[] then [] else [.a xs]) (ndM S d g c es v w u++[bx 4 X])=some (.t [],ndM S d' g' c' es' v' w' u'++[bx 4 X],fp):=by
 obtain⟨x0,rfl⟩:=hX;obtain⟨s0,s1,s2,s3,s4,na,ini,p⟩:=g;obtain⟨r0,r1,r2,r3,r4,ma,jni,p'⟩:=g';by_cases a1:v'=v
 ·have:=hv a1;subst this;subst a1;by_cases a2:w'=w
  ·have:=hw a2;cases this;subst a2;by_cases a3:u'=u
   ·obtain⟨rfl,rfl⟩:=hu a3;subst a3;refine⟨.no,?_⟩;rcases hxs with rfl |⟨x,rfl⟩<;>cases ini<;>simp[ndM,ndC,rgC,mpB,bxv]at hR<;>simp[hR,Zly]
   ·refine⟨.wr [(2,0,whole)],?_⟩;rcases hxs with rfl |⟨x,rfl⟩<;>cases ini<;>simp[ndM,ndC,rgC,mpB,bxv]at hR<;>simp[hR,Zly,a3]
  ·by_cases a3:u'=u
   ·obtain⟨rfl,rfl⟩:=hu a3;subst a3;refine⟨.wr [(1,0,whole)],?_⟩;rcases hxs with rfl |⟨x,rfl⟩<;>cases ini<;>cases jni<;>simp[ndM,ndC,rgC,mpB,bxv]at hR<;>simp[hR,Zly,a2]
   ·refine⟨.wr [(1,0,whole),(2,0,whole)],?_⟩;rcases hxs with rfl |⟨x,rfl⟩<;>cases ini<;>cases jni<;>simp[ndM,ndC,rgC,mpB,bxv]at hR<;>simp[hR,Zly,a2,a3]
 ·by_cases a2:w'=w
  ·have:=hw a2;cases this;subst a2;by_cases a3:u'=u
   ·obtain⟨rfl,rfl⟩:=hu a3;subst a3;refine⟨.wr [(0,0,whole)],?_⟩;rcases hxs with rfl |⟨x,rfl⟩<;>cases ini<;>simp[ndM,ndC,rgC,mpB,bxv]at hR<;>simp[hR,Zly,a1]
   ·refine⟨.wr [(0,0,whole),(2,0,whole)],?_⟩;rcases hxs with rfl |⟨x,rfl⟩<;>cases ini<;>simp[ndM,ndC,rgC,mpB,bxv]at hR<;>simp[hR,Zly,a1,a3]
  ·by_cases a3:u'=u
   ·obtain⟨rfl,rfl⟩:=hu a3;subst a3;refine⟨.wr [(0,0,whole),(1,0,whole)],?_⟩;rcases hxs with rfl |⟨x,rfl⟩<;>cases ini<;>cases jni<;>simp[ndM,ndC,rgC,mpB,bxv]at hR<;>simp[hR,Zly,a1,a2]
   ·refine⟨.wr [(0,0,whole),(1,0,whole),(2,0,whole)],?_⟩;rcases hxs with rfl |⟨x,rfl⟩<;>cases ini<;>cases jni<;>simp[ndM,ndC,rgC,mpB,bxv]at hR<;>simp[hR,Zly,a1,a2,a3]
theorem ZkX{S:StV}{zs:List Zon}{ss:List Sgn}(hS:z6u S zs ss){d:NdV}{g:RgV}{es:List Ent}{n:Nat}(h:Zk7 S d g es n):ZjQ (Zhl S zs ss es g)/\(Zhl S zs ss es g).na<=4/\(∀a∈(Zhl S zs ss es g).jP,zk0 a)/\KB S.m (Zhl S zs ss es g).kh/\(Zhl S zs ss es g).kh.tick+(Zhl S zs ss es g).na=d.now:=by
 obtain⟨hg,ha,hk,hn,hf,_⟩:=h;have h5:=hg.few;have h0:=hk.nd.t;unfold Zhl;by_cases c:g.na=5
 ·rw[if_pos c];have hi:g.ini=false:=by
   cases hi:g.ini with
   |false=>rfl
   |true=>have:=hg.ini hi;omega
  obtain⟨b1,b2,b3,b4,b5,b6⟩:=Zj0 (zs:=zs) (ss:=ss) hS h5 (by omega) hi hk (by omega) es;exact⟨b1,by omega,fun a q=>ha a (List.mem_of_mem_tail (by rw[<-b3];exact q)),b5,by rw[b6];omega⟩
 ·rw[if_neg c];exact⟨hg,by omega,ha,hk,by omega⟩
def Zlu(S:StV)(d:NdV):Int:=Pl.vU d.told S.car.uW
theorem ZkA{S:StV}{zs:List Zon}{ss:List Sgn}(hS:z6u S zs ss)(q:List Int)(last:Int)(k:zci)(f:Int):(zMT (zLj S.car q last k) f).length<=900:=by
 have h:=zNa hS.car q last (max 0 (min k.ego.vhi 2000)) (by omega);unfold zMT;split
 ·exact ju _
 ·by_cases c:f.toNat<(zLj S.car q last k).length
  ·have:=h _ (jf c);simp only[jo,jr c,qI];omega
  ·simp only[jo,jY (Nat.le_of_not_lt c),yE,jp];omega
theorem Zkv{S:StV}{zs:List Zon}{ss:List Sgn}(hS:z6u S zs ss){d:NdV}(h:d.qt.length<=900):(ZiG S zs ss d).qt.length<=900:=by
 unfold ZiG;simp only;split
 ·exact ZkA hS _ _ _ _
 ·exact h
theorem ZkM{S:StV}{zs:List Zon}{ss:List Sgn}(hS:z6u S zs ss){d:NdV}(h:d.qt.length<=900)(K:zci):(goN S zs ss d K).qt.length<=900/\(goN S zs ss d K).now=d.now/\(goN S zs ss d K).last=d.last/\(goN S zs ss d K).k6=K/\(goN S zs ss d K).mode=(if S.k7<d.now-d.last then 2 else d.mode):=by
 unfold goN;split
 ·exact⟨Zkv hS h,rfl,rfl,rfl,rfl⟩
 ·exact⟨h,rfl,rfl,rfl,rfl⟩
theorem Zlp{S:StV}{zs:List Zon}{ss:List Sgn}(hS:z6u S zs ss){d:NdV}{g:RgV}{es:List Ent}{n:Nat}(h:Zk7 S d g es n)(hn:n+300<=1000)(c:Int)(v w u:Nat)(ks:List Int)(hK:ZjC c es ks)(hks:ks.length<=1000){x:Zjo}(hx:Zlc x)(hx8:x.qk.length<=8/\x.ku.length<=8/\x.qf.length<=8)(ht:x.tick=d.now)
  {d2:NdV} {c2:Int} {es2:List Ent} (e2:hrN S zs ss d g c es ks x=(d2,(c2,es2))) {K:zci} (eK:Zkz S zs ss (Zhl S zs ss es g) es2=(K,true)) :
  ∃v' w' u',(v<v'/\w<w'/\(u<=u'/\(u'=u->c2=c/\es2=es)))/\EsN (n+300) es2 /\
   R L Cs Zh5 [Pt 0,.a (inC x)] (ndM S d g c es v w u)=some (.t [W (Zlu S (ZjL (goN S zs ss d2 K))),W 0],ndM S (ZjL (goN S zs ss d2 K)) (ZhJ (Zhl S zs ss es g) (Pl.vU (goN S zs ss d2 K).qt 0)) c2 es2 v' w' u'):=by
 have hh:=h;obtain⟨hg,ha,hk,C7,hfew,Ce,yk,Di⟩:=h;have hk0:=hk.nd.t;obtain⟨g1,g2,g3,g4,g5⟩:=ZkX (zs:=zs) (ss:=ss) hS hh;have h0:=ZkQ S d g c es v w u;obtain⟨w1,u1,m1,m2,h1⟩:=Zkk hS d hg ha hk C7 (by omega) c es (Ce.ok (by omega)) v w u ks hK hks;have DX:=Ce.fgt (Zhl S zs ss es g).kh.tick ks;obtain⟨v2,u2,⟨m3,m4⟩,BZ,h2⟩:=ZkR (S:=S) d (Zhl S zs ss es g) (c,Zh0 (Zhl S zs ss es g).kh.tick ks es) v w1 u1 n (by omega) x hx DX hn;rw[show ZiQ d (c,Zh0 (Zhl S zs ss es g).kh.tick ks es) x=(d2,(c2,es2)) from e2]at h2 BZ m3 m4;simp only at h2 BZ m3 m4;have hd:=Zla x.qk d (x.qf.foldl (he2 d) (x.ku.foldl (he1 d) (c,Zh0 (Zhl S zs ss es g).kh.tick ks es)));have hl2:=Zj2 x.qk d (x.qf.foldl (he2 d) (x.ku.foldl (he1 d) (c,Zh0 (Zhl S zs ss es g).kh.tick ks es))) yk (by omega);rw[show heS x.qk (d,x.qf.foldl (he2 d) (x.ku.foldl (he1 d) (c,Zh0 (Zhl S zs ss es g).kh.tick ks es)))=(d2,(c2,es2)) from e2]at hd hl2;simp only at hd hl2;obtain⟨d_now,D2,-⟩:=hd;have h3:=Zkj hS d2 g1 g3 g4 (by omega) c2 es2 (BZ.ok (by omega)) v2 w1 u2;have BI:=ZkP hS es2 (Zhl S zs ss es g).jP (znE S (znB (Zhl S zs ss es g).kh.tick es2) (Zhl S zs ss es g).kh).1 (znE S (znB (Zhl S zs ss es g).kh.tick es2) (Zhl S zs ss es g).kh).2 (g4.Bl _).1 (by
  rw[(g4.Bl _).2];have:(Zhl S zs ss es g).jP.length<=5:=by simp[RgV.jP];omega
  omega)
 have hKB:KB S.m K:=by
  have:=BI.1;have e:chN S zs ss es2 (Zhl S zs ss es g).jP (znE S (znB (Zhl S zs ss es g).kh.tick es2) (Zhl S zs ss es g).kh)=(K,true):=eK;rw[show((znE S (znB (Zhl S zs ss es g).kh.tick es2) (Zhl S zs ss es g).kh).1,(znE S (znB (Zhl S zs ss es g).kh.tick es2) (Zhl S zs ss es g).kh).2)=znE S (znB (Zhl S zs ss es g).kh.tick es2) (Zhl S zs ss es g).kh from rfl,e]at this;exact this
 rw[eK]at h3;simp only[if_true]at h3;clear BI eK;obtain⟨v4,m5,h4⟩:=ZjV S { d2 with k6:=K } (Zhl S zs ss es g) c2 es2 (v2+1) w1 u2 (by simp only[d_now];omega) hl2;have hgo:∃v5,v2<v5/\∀T,Y L Cs zj (some [6,0]) 4 [(6,.w (.c (fnN Zhq))),(0,.w (Pt 0))] (ndM S (goN S zs ss d2 K) (Zhl S zs ss es g) c2 es2 v5 w1 u2++[bx 4 (inC x)])=T->Y L Cs zj (some [6,0]) 4 [(6,.w (.c (fnN ZhW))),(0,.w (Pt 0))] (ndM S d2 (Zhl S zs ss es g) c2 es2 v2 w1 u2++[bx 4 (inC x)])=T:=by
  have s1:=ZjB S d2 _ (Zhl S zs ss es g) c2 es2 v2 (v2+1) w1 u2 _ _ x (by omega) h3;unfold goN;by_cases hm:(ZiF S { d2 with k6:=K }).mode=1
  ·rw[if_pos hm]at h4 ⊢;have s2:=ZjB S _ _ (Zhl S zs ss es g) c2 es2 (v2+1) v4 w1 u2 _ _ x (by omega) h4;obtain⟨v5,m6,h5⟩:=ZjR hS (ZiF S { d2 with k6:=K }) (Zhl S zs ss es g) c2 es2 v4 w1 u2 (show d2.qt.length<=1000 by rw[D2];omega) (show K.jZ.length<=100000000000 by have:=hKB.nd.len hS;omega);have s3:=ZjB S _ _ (Zhl S zs ss es g) c2 es2 v4 v5 w1 u2 _ _ x (by omega) h5;exact⟨v5,by omega,fun T hT=>s1.trans (s2.trans (s3.trans hT))⟩
  ·rw[if_neg hm]at h4 ⊢;have s2:=ZjB S _ _ (Zhl S zs ss es g) c2 es2 (v2+1) v4 w1 u2 _ _ x (by omega) h4;exact⟨v4,by omega,fun T hT=>s1.trans (s2.trans hT)⟩
 obtain⟨v5,m6,hgo⟩:=hgo;have hpl:(goN S zs ss d2 K).qt.length<=1000/\(goN S zs ss d2 K).now=d.now:=by
  obtain⟨q1,q2,_⟩:=ZkM (zs:=zs) (ss:=ss) hS (d:=d2) (by rw[D2];exact Di) K;exact⟨jV q1 (by decide),q2.trans d_now⟩
 generalize goN S zs ss d2 K=d5 at *;have h6:=Zkl S d5 g1 g2 c2 es2 v5 w1 u2 (by omega) hpl.1;have hlp:=hgo _ (ZkV S d5 (ZjL d5) (Zhl S zs ss es g) _ c2 es2 v5 (v5+4) w1 (w1+2) u2 _ x (by omega) (by omega) h6);have hA:=Pl.D4 (ZjL d5).told (show d5.qt.length<=1000 from hpl.1) S.car.uW;refine⟨v5+4,w1+2,u2,⟨by omega,by omega,by omega,fun e=>?_⟩,BZ,?_⟩
 ·have e1:=m3.2 (by omega);have e2':=m2.2 (by omega);rw[e2']at e1;exact⟨congrArg Prod.fst e1,congrArg Prod.snd e1⟩
 have c1:¬8<max (x.qk.length:Int) (max x.ku.length x.qf.length):=by omega
 have c2':¬(1099511626776:Int)<=d.now:=by omega
 obtain⟨fp1,hc1⟩:=Zko (f:=Zhz) (xs:=[]) (X:=inC x) (.inl rfl) ⟨x,rfl⟩ (fun _=>rfl) m1.2 (fun q=>⟨rfl,m2.2 q⟩) (by simpa using h1);obtain⟨fp2,hc2⟩:=Zko (f:=Zh4) (xs:=inC x) (X:=inC x) (.inr ⟨x,rfl⟩) ⟨x,rfl⟩ m4.2 (fun _=>rfl) (fun q=>by
  have:=m3.2 q;exact⟨congrArg Prod.fst this,congrArg Prod.snd this⟩) (by simpa using h2)
 have hc0:zx (R L Cs) ⟨true⟩ (.c (.fn Zh3 [] [])) [Pt 0] (ndM S d g c es v w u++[bx 4 (inC x)])=some (.w (Bo false),ndM S d g c es v w u++[bx 4 (inC x)],.no):=by
  obtain⟨s0,s1,s2,s3,s4,na,ini,p⟩:=g;cases ini<;>simp[ndM,ndC,rgC,mpB,bxv]at h0<;>simp[h0,Zly]
 have hcA:∀M,zx (R L Cs) ⟨true⟩ (.c (.fn zGR [] [])) [.a [.jc (zu (ZjL d5).told)],W S.car.uW] M=some (.w (W (Pl.vU (ZjL d5).told S.car.uW)),M,.no):=fun M=>by
  simp[hA]
 unfold Zlu;generalize Pl.vU (ZjL d5).told S.car.uW=cc at *;generalize ZhJ (Zhl S zs ss es g) (Pl.vU d5.qt 0)=g9 at *;generalize Zh0 (Zhl S zs ss es g).kh.tick ks es=es1 at *;generalize Zhl S zs ss es g=g' at *;generalize ZjL d5=d6 at *;clear hg ha hk C7 Ce DX BZ g1 g2 g3 g4 g5 h0 h1 h2 h3 h4 h6 hgo hKB hh e2 hK hA m1 m2 m3 m4 m5 m6 hl2 hpl;obtain⟨xt,xsc,xsp,xfx⟩:=x;simp only at ht c1;subst ht;simp only[inC,List.cons_ne_nil,reduceCtorEq,if_false,if_true,ndM,ji,je]at hc0 hc1 hc2 hlp;rw[zUa Zji rfl];simp[-zx,ZhG,hc0,hc1,hc2,hlp,hcA,c1,c2',Zly,zr];cases g9.ini<;>simp
theorem Znq(l:List Pss)(hl:l.length<=100000000000)(fnv:Cl)(f:Pss->Bool)(M:Mem)(hc:∀p∈l,zx (R L Cs) ⟨true⟩ (.c fnv) [.a (zKF p)] M=some (.w (Bo (f p)),M,.no))(ha:l.any f=true) :
  ∃k:Nat,k<l.length/\R L Cs zLd [.c (.jc (zKd l)),.c fnv] M=some (.w (W k),M):=by
 have htk:∀p:Pss,List.take (zKF p).length (zKF p)=zKF p:=fun p=>qu
 have h:=zxf (L:=L) (Cs:=Cs) (b:=zHw) (live:=some [7,1,0,8]) (n0:=M.length) l (fun i=>[(7,.w (W l.length)),(1,.w (.c fnv)),(0,.w (.c (.jc (zKd l)))),(8,.w (W i))]) M f (fun i=>(.ret,[(4,.w (W i))],M)) (.exit 0,[(9,.w (Bo false)),(0,.w (.c (.jc (zKd l)))),(1,.w (.c fnv)),(7,.w (W l.length)),(8,.w (W l.length))],M) ?_ ?_ ?_
 ·cases hq:l.findIdx? f with
  |none =>
   rw[kj]at hq;have:l.any f=false:=by simpa using hq
   rw[this]at ha;cases ha
  |some k =>
   rw[hq]at h;obtain⟨h1,_⟩:=jU.1 hq;refine⟨k,h1,?_⟩;simp only[jh]at h;rw[zUa zKB rfl];simp[zHI,h]
 ·intro i hi hp;have hw:=zB (i:=i) (by omega);have hcc:=hc l[i] (jf hi);have ht:=htk l[i];simp only[zNu]at ht;rw[hp]at hcc;rw[ZfM zHw.eq_1];simp[hi,hw,hcc,ht,-zx]
 ·intro i hi hp;have hcc:=hc l[i] (jf hi);have ht:=htk l[i];simp only[zNu]at ht;rw[hp]at hcc;rw[ZfM zHw.eq_1];simp[hi,hcc,ht,-zx]
 ·rw[ZfM zHw.eq_1];simp
def onZ(z:Int)(p:Pss):Bool:=decide (p.k9=z)
theorem Zme(z:Int)(p:Pss):R L Cs ZlT [.a (zKF p),Pt 0] [bxv 1 1 [I z]]=some (.w (Bo (onZ z p)),[bxv 1 1 [I z]]):=by
 rw[zUa Zmy rfl];unfold onZ;by_cases c:p.k9=z
 ·simp[Zjl,zKF,c,zg,zH]
 ·have b1:(p.k9==z)=false:=by simp[c]
  simp[Zjl,zKF,c,b1,zg,zH]
abbrev zFn(k:Nat):Cl:=.fn ZlT [] [.ptr k 0 0 0]
theorem ZmU(z:Int)(ps:List Pss)(hs:ps.length<=1000):R L Cs zKY [.c (.jc (zKd ps)),.c (zFn 0)] [bxv 1 1 [I z]]=some (.w (Bo (ps.any (onZ z))),[bxv 1 1 [I z]]):=by
 obtain⟨k,h1,h2⟩:=zO6 ps (by omega) (zFn 0) (onZ z) [bxv 1 1 [I z]] (fun p _=>by
  have h:=Zme z p;simp only[zKF]at h;simp[h,zKF])
 rw[zUa zK2 rfl];simp[zHz,h1,h2]
theorem Znu(z:Int)(ps:List Pss)(hs:ps.length<=1000)(ha:ps.any (onZ z)=true):∃k:Nat,k<ps.length/\R L Cs zLd [.c (.jc (zKd ps)),.c (zFn 0)] [bxv 1 1 [I z]]=some (.w (W k),[bxv 1 1 [I z]]) :=
 Znq ps (by omega) (zFn 0) (onZ z) [bxv 1 1 [I z]] (fun p _=>by
  have h:=Zme z p;simp only[zKF]at h;simp[h,zKF]) ha
abbrev pkE(ps:List Pss)(n i z:Nat)(zn:Nat):Env:=[(83,.w (W i)),(82,.w (W n)),(66,.w (W z)),(65,.w (W zn)),(3,.w (Pt 1)),(1,.w (Pt 0)),(4,.w (.c (.jc (zKd ps)))),(7,.w (Pt 3)),(81,.w (.c (.jc (zKd ps)))),(6,.w (.c (zFn 2))),(8,.w (Pt 4))]
theorem ZmI(S:StV)(e:Ego)(z zn:Nat)(ps:List Pss)(hs:ps.length<=1000)(f:Pss):∀(r:List Pss) (i v:Nat) (l:Pss),ps.drop i=r->i<=ps.length ->
  ∃v' l',Y L Cs Zja (some [83,82,66,65,3,1,4,7,81,6,8]) 5 (pkE ps ps.length i z zn) [bx 19 (ZlR S),bxv 1 4 (zch e),bxv 1 1 [I z],bxv 1 4 (zKF f),bxv v 4 (zKF l)] =
   some (.exit 2,(84,.w (Bo false))::[(83,.w (W ps.length)),(82,.w (W ps.length)),(66,.w (W z)),(65,.w (W zn)),(3,.w (Pt 1)),(1,.w (Pt 0)),(4,.w (.c (.jc (zKd ps)))),(7,.w (Pt 3)),(81,.w (.c (.jc (zKd ps)))),(6,.w (.c (zFn 2))),(8,.w (Pt 4))],[bx 19 (ZlR S),bxv 1 4 (zch e),bxv 1 1 [I z],bxv 1 4 (zKF f),bxv v' 4 (zKF l')])
 |[],i,v,l,hd,hi=>by
  have ee:i=ps.length:=by
   have:=congrArg List.length hd;simp at this;omega
  subst ee;refine⟨v,l,?_⟩;rw[ZfM Zja.eq_1];simp
 |p::r,i,v,l,hd,hi=>by
  have g1:i<ps.length:=by
   have:=congrArg List.length hd;simp at this;omega
  have g2:ps[i]=p:=by rw[jy g1]at hd;exact(j9 hd).1
  have g3:ps.drop (i+1)=r:=by rw[jy g1]at hd;exact(j9 hd).2
  have hw:=zB (i:=i) (by omega);have hci:(i:Int)<ps.length:=by omega
  have hP:=Zme z p;cases hz:onZ z p with
  |true =>
   rw[hz]at hP;obtain⟨v',l',ih⟩:=ZmI S e z zn ps hs f r (i+1) (v+1) p g3 (by omega);refine⟨v',l',?_⟩;rw[<-ih];simp only[zKF]at hP;rw[ZfM Zja.eq_1];simp[hci,g1,g2,hw,hP,zKF,zr,-Int.natCast_add]
  |false =>
   rw[hz]at hP;obtain⟨v',l',ih⟩:=ZmI S e z zn ps hs f r (i+1) v l g3 (by omega);refine⟨v',l',?_⟩;rw[<-ih];simp only[zKF]at hP;rw[ZfM Zja.eq_1];simp[hci,g1,g2,hw,hP,zKF,zr,-Int.natCast_add]
theorem Zm0(S:StV)(e:Ego)(zn:Nat)(hzn:zn<=1000)(ps:List Pss)(hs:ps.length<=1000)(hp:∀p∈ps,e.shi<p.lo):∀(f z:Nat),z+f=zn ->
  Y L Cs Zi9 (some [66,65,3,1,4]) 2 [(66,.w (W z)),(65,.w (W zn)),(3,.w (Pt 1)),(1,.w (Pt 0)),(4,.w (.c (.jc (zKd ps))))] [bx 19 (ZlR S),bxv 1 4 (zch e)] =
    some (.exit 0,[(67,.w (Bo false)),(66,.w (W zn)),(65,.w (W zn)),(3,.w (Pt 1)),(1,.w (Pt 0)),(4,.w (.c (.jc (zKd ps))))],[bx 19 (ZlR S),bxv 1 4 (zch e)])
 |0,z,h=>by
  obtain rfl:z=zn:=by omega
  rw[ZfM Zi9.eq_1];simp
 |f+1,z,h=>by
  have ih:=Zm0 S e zn hzn ps hs hp f (z+1) (by omega);have hw:=zB (i:=z) (by omega);have hci:(z:Int)<zn:=by omega
  have hC:=ZmU z ps hs;rw[<-ih];cases ha:ps.any (onZ z)with
  |false =>
   rw[ha]at hC;rw[ZfM Zi9.eq_1];simp[hci,hw,hC,zr,-Int.natCast_add]
  |true =>
   rw[ha]at hC;obtain⟨k,hk,hI⟩:=Znu z ps hs ha;obtain⟨v',l',hL⟩:=ZmI S e z zn ps hs ps[k] ps 0 1 ps[k] rfl (ju _);have hlo:¬ps[k].lo<=e.shi:=by have:=hp _ (jf hk);omega
   simp only[pkE,zKF,jh]at hL;rw[ZfM Zi9.eq_1];simp[hci,hw,hC,hI,hk,hL,hlo,zKF,zr,-Int.natCast_add]
structure Zlr(S:StV)(zs:List Zon):Prop where
 v:S.e0.vlo=0/\S.e0.vhi=0
 s:S.e0.slo<=S.e0.shi/\S.car.len<S.e0.slo/\S.e0.shi-S.e0.slo<S.car.len
 far:S.e0.shi<=zmd S.m 0 S.r
 big:S.e0.shi<=1000000000
 pas:∀p∈zKh S.m zs 0 S.r,S.e0.shi<p.lo
 kind:zaK S.m (S.r.headD 0)=1
 t:0<=S.t0/\S.t0<=50000
theorem ZnI{S:StV}{zs:List Zon}{ss:List Sgn}(hS:z6u S zs ss)(hB:Zlr S zs):R L Cs ZmL [.a (ZlR S)] []=some (.w (Bo true),[]):=by
 have hf:=hS.full.full;obtain⟨v1,v2⟩:=hB.v;obtain⟨s1,s2,s3⟩:=hB.s;obtain⟨q1,q2,_⟩:=hS.car;have hE:=zsq hf.qR hS.vJ;have hP:=zPm hf hS.vJ (hS.full.srt _ hS.vJ) (hS.full.few _ hS.vJ);have hfew:=hS.full.few _ hS.vJ;have hz:S.m.qZ.length=zs.length:=by have:=hf.zd.z;rw[this];simp[zk8]
 have hL:=Zm0 S S.e0 S.m.qZ.length (by have:=hS.full.two;omega) (zKh S.m zs 0 S.r) (by omega) hB.pas S.m.qZ.length 0 (by omega);have hpe:(ZlR S).length=19:=rfl;have hfar:=hB.far;have CR:=hB.big;have w1:IntKind.i64.wrap (S.e0.shi-S.e0.slo)=S.e0.shi-S.e0.slo:=zTd _ (by omega) (by omega);have d1:¬S.e0.shi<S.e0.slo:=by omega
 have d2:¬S.e0.slo<=S.car.len:=by omega
 have d3:¬S.car.len<=S.e0.shi-S.e0.slo:=by omega
 have d4:¬zmd S.m 0 S.r<S.e0.shi:=by omega
 generalize zKh S.m zs 0 S.r=ps at *;simp only[zf,zch,v1,v2,jh]at hE hP hL;rw[zUa ZmM rfl];simp[ZjK,v1,v2,d1,d2,d3,d4,w1,hE,hP,hL]
theorem Zl1{f esz bytes:Nat}(hN:L.lookup f=none)(hL:Cs.lookup f=some (esz,bytes,false))(h0:0<esz){rows:List (List Cl)}(hr:rows.length*bytes<=140737488355328)(h:∀x∈rows,x.length=esz):R L Cs f [.c (.jc rows)] []=some (.w (.c (sl 0 esz rows)),[some (own esz rows)]):=by
 have h1:¬esz=0:=by omega
 rw[zrP hN];simp[uN,hL,zuh,hr,h1,h0];exact h
theorem Zmx(l:List Int)(hl:l.length<=100000):R L Cs Zmb [.c (.jc (zu l))] []=some (.w (.c (sl 0 1 (zu l))),[some (own 1 (zu l))]) :=
 Zl1 (esz:=1) (bytes:=8) rfl (by kernel_rfl) (by decide) (by rw[zfq];omega) (fun x hx=>by obtain⟨y,_,rfl⟩:=jW.1 hx;rfl)
theorem Zna(l:List Prt)(hl:l.length<=100000):R L Cs Zl4 [.c (.jc (zkl l))] []=some (.w (.c (sl 0 4 (zkl l))),[some (own 4 (zkl l))]) :=
 Zl1 (esz:=4) (bytes:=32) rfl (by kernel_rfl) (by decide) (by rw[zCq];omega) (fun x hx=>by obtain⟨y,_,rfl⟩:=jW.1 hx;rfl)
theorem Zm2(l:List Phs)(hl:l.length<=100000):R L Cs ZlY [.c (.jc (zje l))] []=some (.w (.c (sl 0 2 (zje l))),[some (own 2 (zje l))]) :=
 Zl1 (esz:=2) (bytes:=32) rfl (by kernel_rfl) (by decide) (by rw[zCr];omega) (fun x hx=>by obtain⟨y,_,rfl⟩:=jW.1 hx;rfl)
abbrev Zma(l:List (Int×Int)):List (List Cl):=l.map fun p=>[I p.1,I p.2]
theorem Zm9(l:List (Int×Int))(hl:l.length<=100000):R L Cs Zl3 [.c (.jc (Zma l))] []=some (.w (.c (sl 0 2 (Zma l))),[some (own 2 (Zma l))]) :=
 Zl1 (esz:=2) (bytes:=16) rfl (by kernel_rfl) (by decide) (by rw[kG];omega) (fun x hx=>by obtain⟨y,_,rfl⟩:=jW.1 hx;rfl)
theorem Zny(l:List (Int×Int))(hl:l.length<=100000):R L Cs ZmS [.a [.jc (Zma l)]] []=some (.w (.a [.jc (Zma l)]),[]):=by
 have h:=Zm9 l hl;have hh:R L Cs ZmC [.c (.jc (Zma l))] []=some (.w (.a [.jc (Zma l)]),[]):=by
  rw[zUa ZmH rfl];simp[ZjA,h,zX];exact jE (by simp)
 rw[zUa ZmZ rfl];simp[ZjU,hh,zX]
theorem Znx(l:zfn)(h1:l.pts.length<=100000)(h2:l.next.length<=100000):R L Cs ZlO [.a (zo l)] []=some (.w (.a (zo l)),[]):=by
 have g1:=Zny l.pts h1;have g2:=Zmx l.next h2;rw[zUa ZmF rfl];simp[Zjy,zo,g1,g2,zX]
theorem Znv(z:Zon)(h:z.parts.length<=100000):R L Cs ZlM [.a (zdP z)] []=some (.w (.a (zdP z)),[]):=by
 have g:=Zna z.parts h;have ht:(zkl z.parts).take z.parts.length=zkl z.parts:=jE (by simp);rw[zUa ZmD rfl];simp[Zjw,zdP,g,ht,zX]
theorem Znw(w:zCP):R L Cs ZlN [.a (zaL w)] []=some (.w (.a (zaL w)),[]):=by
 rw[zUa ZmE rfl];simp[Zjx,zaL]
theorem Znh(s:Sgn)(u0:Nat)(hl:s.j8.length<=1000)(hg:∀p∈s.j8,p.green.length<=100000):∀(f i v:Nat),i+f=s.j8.length ->
  ∃v',Y L Cs Ziy (some [11,10,2,1]) 3 [(11,.w (W i)),(10,.w (W s.j8.length)),(2,.w (Pt 1)),(1,.w (Pt 0))] [bxv u0 2 [I s.offset,.slice 2 s.j8.length 2 0 s.j8.length none],bx 2 [I 0,.jb],some { box:=false,esz:=2,rows:=zje s.j8,gen:=s.j8.length,fz:=false,ver:=v }] =
   some (.exit 0,[(12,.w (Bo false)),(11,.w (W s.j8.length)),(10,.w (W s.j8.length)),(2,.w (Pt 1)),(1,.w (Pt 0))],[bxv u0 2 [I s.offset,.slice 2 s.j8.length 2 0 s.j8.length none],bx 2 [I 0,.jb],some { box:=false,esz:=2,rows:=zje s.j8,gen:=s.j8.length,fz:=false,ver:=v' }])
 |0,i,v,h=>by
  obtain rfl:i=s.j8.length:=by omega
  refine⟨v,?_⟩;rw[ZfM Ziy.eq_1];simp
 |f+1,i,v,h=>by
  have h1:i<s.j8.length:=by omega
  have hw:=zB (i:=i) (by omega);have hci:(i:Int)<s.j8.length:=by omega
  obtain⟨v',ih⟩:=Znh s u0 hl hg f (i+1) (v+1) (by omega);refine⟨v',?_⟩;rw[<-ih];have hK:=Zmx s.j8[i].green (hg _ (jf h1));have kV:(zje s.j8)[i]?=some [I s.j8[i].vH,.jc (zu s.j8[i].green)]:=by simp[zje,h1,zr6]
  have A9:(zje s.j8).set i [I s.j8[i].vH,.jc (zu s.j8[i].green)]=zje s.j8:=by
   apply uh;intro k;by_cases hk:i=k
   ·subst hk;rw[kC (by simpa using h1),kV]
   ·rw[jD hk]
  have ht:(zu s.j8[i].green).take s.j8[i].green.length=zu s.j8[i].green:=jE (by simp);rw[ZfM Ziy.eq_1];simp[hci,h1,hw,kV,A9,hK,ht,zr6,zX,-Int.natCast_add]
theorem Zm4(s:Sgn)(hl:s.j8.length<=1000)(hg:∀p∈s.j8,p.green.length<=100000):R L Cs ZlK [.a (zeq s)] []=some (.w (.a (zeq s)),[]):=by
 have hK:=Zm2 s.j8 (by omega);obtain⟨v',hL⟩:=Znh s 1 hl hg s.j8.length 0 s.j8.length (by omega);have ht:(zje s.j8).take s.j8.length=zje s.j8:=jE (by simp);simp only[jh]at hL;rw[zUa Zmo rfl];simp[Zi5,zeq,hK,hL,ht,zX]
theorem Zl9(l:List zfn)(hl:l.length<=1000)(h:∀x∈l,(x.pts.length<=100000/\x.next.length<=100000)):∀(r:List zfn) (i:Nat),l.drop i=r->i<=l.length ->
  Y L Cs ZiB (some [5,10,9,8,1]) 2 [(5,.w (.c (sl 1 5 ((l.take i).map zo)))),(10,.w (W i)),(9,.w (W l.length)),(8,.w (.c (.jc (l.map zo)))),(1,.w (.c (.fn ZlO [] [])))] [gb 5,some (own 5 ((l.take i).map zo))] =
    some (.exit 0,[(11,.w (Bo false)),(5,.w (.c (sl 1 5 (l.map zo)))),(10,.w (W l.length)),(9,.w (W l.length)),(8,.w (.c (.jc (l.map zo)))),(1,.w (.c (.fn ZlO [] [])))],[gb 5,some (own 5 (l.map zo))])
 |[],i,hd,hi=>by
  have e:i=l.length:=by
   have:=congrArg List.length hd;simp at this;omega
  subst e;rw[qu,ZfM ZiB.eq_1];simp
 |x::r,i,hd,hi=>by
  have g1:i<l.length:=by
   have:=congrArg List.length hd;simp at this;omega
  have g2:l[i]=x:=by rw[jy g1]at hd;exact(j9 hd).1
  have g3:l.drop (i+1)=r:=by rw[jy g1]at hd;exact(j9 hd).2
  have hx:x∈l:=by rw[<-g2];exact jf g1
  have hw:=zB (i:=i) (by omega);have hci:(i:Int)<l.length:=by omega
  have hO:=Znx x (h x hx).1 (h x hx).2;have ih:=Zl9 l hl h r (i+1) g3 (by omega);have et:(l.take (i+1)).map zo=(l.take i).map zo++[zo x]:=by rw[Aa,jr g1,g2];simp
  have kV:(l.map zo)[i]?=some (zo x):=by simp[g1,g2]
  have hlen:((l.take i).map zo).length=i:=by simp;omega
  rw[<-ih,et];have hr:(i+1)*72<=140737488355328:=by omega
  generalize (l.take i).map zo=q at *;subst hlen;simp only[zo]at hO kV;rw[ZfM ZiB.eq_1];simp[hci,g1,g2,hw,kV,hO,hr,zo,-Int.natCast_add]
theorem Znf(l:List zfn)(hl:l.length<=1000)(h:∀x∈l,(x.pts.length<=100000/\x.next.length<=100000)):R L Cs Zmk [.c (.jc (l.map zo)),.c (.fn ZlO [] [])] []=some (.w (.c (.jc (l.map zo))),[]):=by
 have hL:=Zl9 l hl h l 0 rfl (ju _);have ht:(l.map zo).take l.length=l.map zo:=jE (by simp);simp only[vz,uo,sl,own,jp,kG,jh]at hL;rw[zUa Zmr rfl];simp[Zi8,hL,ht,zr]
theorem Zl7(l:List Zon)(hl:l.length<=1000)(h:∀x∈l,(x.parts.length<=100000)):∀(r:List Zon) (i:Nat),l.drop i=r->i<=l.length ->
  Y L Cs Ziz (some [5,10,9,8,1]) 2 [(5,.w (.c (sl 1 2 ((l.take i).map zdP)))),(10,.w (W i)),(9,.w (W l.length)),(8,.w (.c (.jc (l.map zdP)))),(1,.w (.c (.fn ZlM [] [])))] [gb 2,some (own 2 ((l.take i).map zdP))] =
    some (.exit 0,[(11,.w (Bo false)),(5,.w (.c (sl 1 2 (l.map zdP)))),(10,.w (W l.length)),(9,.w (W l.length)),(8,.w (.c (.jc (l.map zdP)))),(1,.w (.c (.fn ZlM [] [])))],[gb 2,some (own 2 (l.map zdP))])
 |[],i,hd,hi=>by
  have e:i=l.length:=by
   have:=congrArg List.length hd;simp at this;omega
  subst e;rw[qu,ZfM Ziz.eq_1];simp
 |x::r,i,hd,hi=>by
  have g1:i<l.length:=by
   have:=congrArg List.length hd;simp at this;omega
  have g2:l[i]=x:=by rw[jy g1]at hd;exact(j9 hd).1
  have g3:l.drop (i+1)=r:=by rw[jy g1]at hd;exact(j9 hd).2
  have hx:x∈l:=by rw[<-g2];exact jf g1
  have hw:=zB (i:=i) (by omega);have hci:(i:Int)<l.length:=by omega
  have hO:=Znv x (h x hx);have ih:=Zl7 l hl h r (i+1) g3 (by omega);have et:(l.take (i+1)).map zdP=(l.take i).map zdP++[zdP x]:=by rw[Aa,jr g1,g2];simp
  have kV:(l.map zdP)[i]?=some (zdP x):=by simp[g1,g2]
  have hlen:((l.take i).map zdP).length=i:=by simp;omega
  rw[<-ih,et];have hr:(i+1)*32<=140737488355328:=by omega
  generalize (l.take i).map zdP=q at *;subst hlen;simp only[zdP]at hO kV;rw[ZfM Ziz.eq_1];simp[hci,g1,g2,hw,kV,hO,hr,zdP,-Int.natCast_add]
theorem Znd(l:List Zon)(hl:l.length<=1000)(h:∀x∈l,(x.parts.length<=100000)):R L Cs Zmi [.c (.jc (l.map zdP)),.c (.fn ZlM [] [])] []=some (.w (.c (.jc (l.map zdP))),[]):=by
 have hL:=Zl7 l hl h l 0 rfl (ju _);have ht:(l.map zdP).take l.length=l.map zdP:=jE (by simp);simp only[vz,uo,sl,own,jp,kG,jh]at hL;rw[zUa Zmp rfl];simp[Zi6,hL,ht,zr]
theorem ZlX(l:List Sgn)(hl:l.length<=1000)(h:∀x∈l,(x.j8.length<=1000/\∀p∈x.j8,p.green.length<=100000)):∀(r:List Sgn) (i:Nat),l.drop i=r->i<=l.length ->
  Y L Cs Zik (some [5,10,9,8,1]) 2 [(5,.w (.c (sl 1 2 ((l.take i).map zeq)))),(10,.w (W i)),(9,.w (W l.length)),(8,.w (.c (.jc (l.map zeq)))),(1,.w (.c (.fn ZlK [] [])))] [gb 2,some (own 2 ((l.take i).map zeq))] =
    some (.exit 0,[(11,.w (Bo false)),(5,.w (.c (sl 1 2 (l.map zeq)))),(10,.w (W l.length)),(9,.w (W l.length)),(8,.w (.c (.jc (l.map zeq)))),(1,.w (.c (.fn ZlK [] [])))],[gb 2,some (own 2 (l.map zeq))])
 |[],i,hd,hi=>by
  have e:i=l.length:=by
   have:=congrArg List.length hd;simp at this;omega
  subst e;rw[qu,ZfM Zik.eq_1];simp
 |x::r,i,hd,hi=>by
  have g1:i<l.length:=by
   have:=congrArg List.length hd;simp at this;omega
  have g2:l[i]=x:=by rw[jy g1]at hd;exact(j9 hd).1
  have g3:l.drop (i+1)=r:=by rw[jy g1]at hd;exact(j9 hd).2
  have hx:x∈l:=by rw[<-g2];exact jf g1
  have hw:=zB (i:=i) (by omega);have hci:(i:Int)<l.length:=by omega
  have hO:=Zm4 x (h x hx).1 (h x hx).2;have ih:=ZlX l hl h r (i+1) g3 (by omega);have et:(l.take (i+1)).map zeq=(l.take i).map zeq++[zeq x]:=by rw[Aa,jr g1,g2];simp
  have kV:(l.map zeq)[i]?=some (zeq x):=by simp[g1,g2]
  have hlen:((l.take i).map zeq).length=i:=by simp;omega
  rw[<-ih,et];have hr:(i+1)*32<=140737488355328:=by omega
  generalize (l.take i).map zeq=q at *;subst hlen;simp only[zeq]at hO kV;rw[ZfM Zik.eq_1];simp[hci,g1,g2,hw,kV,hO,hr,zeq,-Int.natCast_add]
theorem ZmW(l:List Sgn)(hl:l.length<=1000)(h:∀x∈l,(x.j8.length<=1000/\∀p∈x.j8,p.green.length<=100000)):R L Cs Zl5 [.c (.jc (l.map zeq)),.c (.fn ZlK [] [])] []=some (.w (.c (.jc (l.map zeq))),[]):=by
 have hL:=ZlX l hl h l 0 rfl (ju _);have ht:(l.map zeq).take l.length=l.map zeq:=jE (by simp);simp only[vz,uo,sl,own,jp,kG,jh]at hL;rw[zUa Zl6 rfl];simp[ZiK,hL,ht,zr]
theorem Zl8(l:List zCP)(hl:l.length<=1000)(h:∀x∈l,True):∀(r:List zCP) (i:Nat),l.drop i=r->i<=l.length ->
  Y L Cs ZiA (some [5,10,9,8,1]) 2 [(5,.w (.c (sl 1 6 ((l.take i).map zaL)))),(10,.w (W i)),(9,.w (W l.length)),(8,.w (.c (.jc (l.map zaL)))),(1,.w (.c (.fn ZlN [] [])))] [gb 6,some (own 6 ((l.take i).map zaL))] =
    some (.exit 0,[(11,.w (Bo false)),(5,.w (.c (sl 1 6 (l.map zaL)))),(10,.w (W l.length)),(9,.w (W l.length)),(8,.w (.c (.jc (l.map zaL)))),(1,.w (.c (.fn ZlN [] [])))],[gb 6,some (own 6 (l.map zaL))])
 |[],i,hd,hi=>by
  have e:i=l.length:=by
   have:=congrArg List.length hd;simp at this;omega
  subst e;rw[qu,ZfM ZiA.eq_1];simp
 |x::r,i,hd,hi=>by
  have g1:i<l.length:=by
   have:=congrArg List.length hd;simp at this;omega
  have g2:l[i]=x:=by rw[jy g1]at hd;exact(j9 hd).1
  have g3:l.drop (i+1)=r:=by rw[jy g1]at hd;exact(j9 hd).2
  have hx:x∈l:=by rw[<-g2];exact jf g1
  have hw:=zB (i:=i) (by omega);have hci:(i:Int)<l.length:=by omega
  have hO:=Znw x;have ih:=Zl8 l hl h r (i+1) g3 (by omega);have et:(l.take (i+1)).map zaL=(l.take i).map zaL++[zaL x]:=by rw[Aa,jr g1,g2];simp
  have kV:(l.map zaL)[i]?=some (zaL x):=by simp[g1,g2]
  have hlen:((l.take i).map zaL).length=i:=by simp;omega
  rw[<-ih,et];have hr:(i+1)*48<=140737488355328:=by omega
  generalize (l.take i).map zaL=q at *;subst hlen;simp only[zaL]at hO kV;rw[ZfM ZiA.eq_1];simp[hci,g1,g2,hw,kV,hO,hr,zaL,-Int.natCast_add]
theorem Zne(l:List zCP)(hl:l.length<=1000)(h:∀x∈l,True):R L Cs Zmj [.c (.jc (l.map zaL)),.c (.fn ZlN [] [])] []=some (.w (.c (.jc (l.map zaL))),[]):=by
 have hL:=Zl8 l hl h l 0 rfl (ju _);have ht:(l.map zaL).take l.length=l.map zaL:=jE (by simp);simp only[vz,uo,sl,own,jp,kG,jh]at hL;rw[zUa Zmq rfl];simp[Zi7,hL,ht,zr]
theorem ZnH{m:zD}{zs:List Zon}{ss:List Sgn}(hF:zKj m zs ss):R L Cs ZmR [.a (zf m)] []=some (.w (.a (zf m)),[]):=by
 have hf:=hF.full;have hz:=hf.zd.z;have hs:=hf.zd.s;have h1:=Znf m.jd (by have:=hf.yz.few;omega) (fun l hl=>by
  obtain⟨x0,y0,x1,y1,e,_⟩:=hf.one.one l hl;refine⟨by rw[e];simp,?_⟩;have:=hf.qR.small.next l hl;omega)
 have h2:=Znd zs (by have:=hF.two;omega) (fun z hq=>by have:=hf.zd.pfew z hq;omega);have h3:=ZmW ss (by have:=hf.zd.sfew;omega) (fun s hq=>by
  have:=hf.zd.ph s hq;exact⟨by have:=this.few;omega,fun p hp=>by have:=this.green p hp;omega⟩)
 have h4:=Zne m.kJ hF.kJ (fun _ _=>trivial);rw[zUa ZmY rfl];simp only[zk8,zjd]at hz hs;simp[ZjT,zf,hz,hs,h1,h2,h3,h4]
theorem ZmV{S:StV}{zs:List Zon}{ss:List Sgn}(hS:z6u S zs ss):R L Cs Zmv [.a (ZlR S)] []=some (.w (.a (ZlR S)),[]):=by
 have h1:=ZnH hS.full;have hr2:=zlP hS.full.full.yz hS.vJ;have h2:=Zmx S.r (by omega);simp only[zf]at h1;rw[zUa Zmz rfl];simp[Zjm,h1,h2,zX]
theorem ZmX{S:StV}{zs:List Zon}{ss:List Sgn}(hS:z6u S zs ss)(hB:Zlr S zs):R L Cs Zmd [.a (ZlR S)] []=some (.w (W 0),[]):=by
 have hf:=hS.full.full;have hr2:=zlP hf.yz hS.vJ;obtain⟨hon,hne,hl8⟩:=zg1 hf.qR hS.vJ;have h1:=hf.qR.chk;have h2:=zQC hf.qR hS.full.fit.1;have h3:=zos S.m hf.qR.small h1 S.r (by omega);rw[hS.vJ]at h3;have h4:=Pl.Az hS.car;have h5:=ZnI hS hB;have hk:=hB.kind;have hb:=hS.bud;have hs:=hS.sil;have ht:=hB.t;obtain⟨x,r,hr⟩:∃x r,S.r=x::r:=by cases h:S.r with|nil=>exact absurd h hne|cons x r=>exact⟨x,r,rfl⟩
 have hx:=hon x (by rw[hr];exact jq);obtain⟨j,rfl⟩:=jz hx.1;have hj:j<S.m.jd.length:=by omega
 rw[hr]at hk;have hk2:S.m.jd[j].kind=1:=by
  simpa [zaK,hj]using hk
 have d1:¬S.t0<0:=by omega
 have d2:¬(1099510627776:Int)<S.t0:=by omega
 have d3:¬S.kQ<0:=by omega
 have d4:¬(8:Int)<S.kQ:=by omega
 have d5:¬S.k7<0:=by omega
 have d6:¬(1000:Int)<S.k7:=by omega
 have uT:(zu S.r)[0]?=some [I (j:Int)]:=by rw[hr];rfl
 have hlen:0<S.r.length:=by rw[hr];simp
 have hg0:∀h:0<S.r.length,S.r[0]=(j:Int):=fun h=>by simp[hr]
 simp only[zf,Pl.kR]at h1 h2 h3 h4;rw[zUa Zmg rfl];simp[ZiX,h1,h2,h3,h4,h5,d1,d2,d3,d4,d5,d6,hlen,hg0,hj,zo,hk2]
def nd0(S:StV):NdV:=⟨S.t0,S.t0,S.t0,1,[0],0,[0],Zhv S ⟨S.t0,zTA 0 S.m.jd,S.e0⟩,0⟩
def rg0(S:StV):RgV:=⟨0,0,0,0,0,0,true,Zhv S ⟨S.t0,zTA 0 S.m.jd,S.e0⟩⟩
set_option maxRecDepth 100000
open Go Go.Eng Go.PlanLaw
def zT7:List Pss->Bool
 |[]=>true
 |[_]=>true
 |[p,q]=>decide (p.lo<=q.lo)&&decide (p.hi<=q.hi)&&decide (q.lo<=p.hi+300)
 |_=>false
def zTY(ps:List Pss)(z:Int):Bool:=zT7 (ps.filter fun p=>decide (p.k9=z))
theorem zT6(k:Nat)(hk:k<7)(lim r o1 o2 o3 v:Int)(ws:List zCP):zTx (zq k lim r o1 o2 o3 v ws) (fun l=>(List.range (zsP k r).length).all fun z=>zTY (zKh (zq k lim r o1 o2 o3 v ws) (zsP k r) 0 l) z)=true:=match k,hk with
 |0,_=>by kernel_rfl
 |1,_=>by kernel_rfl
 |2,_=>by kernel_rfl
 |3,_=>by kernel_rfl
 |4,_=>by kernel_rfl
 |5,_=>by kernel_rfl
 |6,_=>by kernel_rfl
theorem zT3(k:Nat)(hk:k<7)(lim r o1 o2 o3 v:Int)(ws:List zCP):zaK (zq k lim r o1 o2 o3 v ws) ((zDT (zq k lim r o1 o2 o3 v ws) 0).headD 0)=1:=match k,hk with
 |0,_=>by kernel_rfl
 |1,_=>by kernel_rfl
 |2,_=>by kernel_rfl
 |3,_=>by kernel_rfl
 |4,_=>by kernel_rfl
 |5,_=>by kernel_rfl
 |6,_=>by kernel_rfl
theorem zTK(z:Int):∀(t:List Pss) (w:Pss×Pss×Bool),zLV z t w=zLV z (t.filter fun p=>decide (p.k9=z)) w
 |[],w=>rfl
 |p::t,w=>by
  by_cases c:p.k9=z
  ·rw[uR (by simpa using c),zLV,zLV,zTK z t]
  ·rw[qK (by simpa using c),zLV,if_neg c,zTK z t]
theorem zTW{ps:List Pss}(z:Int)(h:zTY ps z=true)(hlh:∀p∈ps,p.lo<=p.hi)(len shi slo:Int)(hl:300<=len)(hs:slo<=shi) :
  ((zNx ps z).2.2&&decide ((zNx ps z).1.lo<=shi)&&decide (slo-len<=(zNx ps z).2.1.hi))=(ps.filter fun p=>decide (p.k9=z)).any fun p=>decide (p.lo<=shi)&&decide (slo-len<=p.hi):=by
 unfold zTY at h;unfold zNx;rw[zTK];have hz:∀p∈ps.filter (fun p=>decide (p.k9=z)),p.k9=z/\p.lo<=p.hi:=fun p hp=>by
  have:=qs.1 hp;exact⟨by simpa using this.2,hlh p this.1⟩
 generalize ps.filter (fun p=>decide (p.k9=z))=l at *
 match l,h with
 |[],_=>rfl
 |[p],_ =>
  have h1:=(hz p (by simp)).1;simp[zLV,h1]
 |[p,q],h =>
  have h1:=hz p (by simp);have h2:=hz q (by simp);simp only[zT7,jk,decide_eq_true_eq]at h;simp only[zLV,h1.1,h2.1,if_true,vW,vV,List.any_nil,Bool.or_false];rw[AH];simp;omega
theorem zTP(st:Int)(z:Nat)(x:Int):∀(l:List Prt) (k:Nat),(∀p∈l,p.lo<p.hi)->∀p∈zLB st z x k l,p.lo<=p.hi
 |[],k,_,p,h=>by cases h
 |q::l,k,hq,p,h=>by
  unfold zLB at h;have ih:=fun h=>zTP st z x l (k+1) (fun y hy=>hq y (js _ hy)) p h
  have:=hq q (jq ..);split at h
  ·rcases jG.1 h with rfl|h
   ·simp only;omega
   ·exact ih h
  ·exact ih h
theorem zTO(st x:Int):∀(l:List Zon) (z:Nat),(∀q∈l,∀p∈q.parts,p.lo<p.hi)->∀p∈zLA st x z l,p.lo<=p.hi
 |[],z,_,p,h=>by cases h
 |q::l,z,hq,p,h=>by
  unfold zLA at h;rcases jB.1 h with h|h
  ·exact zTP _ _ _ _ _ (hq q (jq ..)) p h
  ·exact zTO _ _ l _ (fun y hy=>hq y (js _ hy)) p h
theorem zTM(m:zD)(zs:List Zon)(hq:∀q∈zs,∀p∈q.parts,p.lo<p.hi):∀(r:List Int) (a:Int),∀p∈zKh m zs a r,p.lo<=p.hi
 |[],a,p,h=>by cases h
 |x::r,a,p,h=>by
  unfold zKh at h;rcases jB.1 h with h|h
  ·exact zTO _ _ _ _ hq p h
  ·exact zTM m zs hq r _ p h
theorem zT2{m:zD}{zs:List Zon}{ss:List Sgn}(hF:zKj m zs ss){r:List Int}(hcon:∀z:Nat,z<zs.length->zTY (zKh m zs 0 r) z=true)(len shi slo:Int)(hl:300<=len)(hs:slo<=shi) :
  (List.range zs.length).any (enP (zKh m zs 0 r) len shi slo)=(zKh m zs 0 r).any fun p=>decide (p.lo<=shi)&&decide (slo-len<=p.hi):=by
 have hlh:=zTM m zs (fun q hq p hp=>(hF.full.pv q hq p hp).2.2.1) r 0;have hok:=zNh m zs r 0;generalize zKh m zs 0 r=ps at *;rw[AH,jS,jS];constructor
 ·rintro⟨z,hz,h⟩;have hz:=qE.1 hz;unfold enP at h;rw[zTW z (hcon z hz) hlh len shi slo hl hs,jS]at h;obtain⟨p,hp,h⟩:=h;exact⟨p,(qs.1 hp).1,h⟩
 ·rintro⟨p,hp,h⟩;obtain⟨⟨o1,o2⟩,_⟩:=hok p hp;obtain⟨z,hz⟩:=jz o1;refine⟨z,qE.2 (by omega),?_⟩;unfold enP;rw[zTW z (hcon z (by omega)) hlh len shi slo hl hs,jS];exact⟨p,qs.2 ⟨hp,by simpa using hz⟩,h⟩
theorem zT4(z:Int)(ps:List Pss)(h:(zNx ps z).2.2=true):(zNx ps z).1∈ps/\(zNx ps z).1.k9=z:=by
 obtain⟨p,hp,h1,h2⟩:=zPt z ps (zKw,zKw,false) h rfl;unfold zNx;rw[h2];exact⟨hp,h1⟩
theorem Ze9{c:zK8}(hc:c.ok):qM c [0]=0:=by
 have Cu:=hc;obtain⟨q1,q2,q3,q4,q5,q6,q7,q8,q9,q10⟩:=Cu;unfold qM;simp[hc,zLD,Go.PlanLaw.Bm];omega
theorem zTU{m:zD}{zs:List Zon}{ss:List Sgn}(hF:zKj m zs ss){r:List Int}(hr:zdA m r=0)(hkd:zaK m (r.headD 0)=1)(hcon:∀z:Nat,z<zs.length->zTY (zKh m zs 0 r) z=true){c:zK8}(hc:c.ok)(K:zci)(hck:zdf m K=0)(hv:K.ego.vlo=0/\K.ego.vhi=0)(hs:K.ego.shi<=zmd m 0 r)(ht:K.tick<1099511627776)(hb:K.ego.shi<=1099511627776)(signals:Bool)(a:Int)(ha:a<=0)(hchk:qM c [a]=0) :
  (zOk m zs ss r c K [a] signals).1 = !((zKh m zs 0 r).any fun p=>decide (p.lo<=K.ego.shi)&&decide (K.ego.slo-c.len<=p.hi)):=by
 have Cu:=hc;obtain⟨q1,q2,q3,q4,q5,q6,q7,q8,q9,q10⟩:=Cu;have hego:=(zte hck).1;have hso:K.ego.slo<=K.ego.shi:=by
  have:=hego;obtain⟨⟩:=this;omega
 obtain⟨hon,hne,hl8⟩:=zg1 hF.full.qR hr;have hE:zaN m r K.ego a=K.ego:=by
  have hcl:zgH m r a<=0:=by
   unfold zgH zif zd4
   repeat' split
   all_goals omega
  have hsp:zcD m r a 0=0:=by
   have:0<=zeR (zaK m (r.getD 0 0)):=by unfold zeR;(repeat' split)<;>omega
   unfold zcD;omega
  unfold zaN;rw[hv.1,hv.2,hsp];have e:K.ego=⟨K.ego.slo,K.ego.shi,K.ego.vlo,K.ego.vhi⟩:=rfl;rw[e,hv.1,hv.2];simp
 have As:zKW m r c K=true:=by
  unfold zKW Pl.CV;rw[if_pos hc,hkd,hr,hck];rfl
 have hfb:fbF m r [a] K.tick K.ego=none:=by
  unfold fbF;rw[if_neg (by unfold TrRun.BM;rw[hE];omega),hE,if_neg (by omega)];rfl
 have CP:=zT2 hF hcon c.len K.ego.shi K.ego.slo (by omega) hso;rw[<-zRZ]at CP;have hnx:(zEt m zs ss r c.len signals K a).ego=K.ego:=hE;unfold zOk;rw[if_pos ⟨As,hchk⟩];unfold zNw;rw[hfb];simp only[zKX,zKr];have hon0:onW m r (zEt m zs ss r c.len signals K a)=0:=by unfold onW;rw[hnx,if_neg (by omega)]
 have hsl0:zMt m r (zEt m zs ss r c.len signals K a)=0:=by unfold zMt;rw[hnx,hv.2,if_neg (by omega)]
 have hap0:zMF m r (zEt m zs ss r c.len signals K a) (zKu m zs ss r c.len signals K a)=0:=by unfold zMF;rw[hnx,if_pos hv.2]
 cases hin:(zKh m zs 0 r).any fun p=>decide (p.lo<=K.ego.shi)&&decide (K.ego.slo-c.len<=p.hi)with
 |true =>
  rw[hin]at CP;split
  ·simp only[zLH,zLQ,hnx,CP];simp
  ·rfl
 |false =>
  rw[hin]at CP;have hno:∀p∈zKh m zs 0 r,p.lo<=K.ego.shi->K.ego.slo-c.len<=p.hi->False:=fun p hp a b=>by
   have:=vo.1 hin p hp;simp[a,b]at this
  have hal0:zMG zs c.len (zKh m zs 0 r) (pvV m zs r) K (zEt m zs ss r c.len signals K a) (zKu m zs ss r c.len signals K a)=0:=by
   unfold zMG;rw[if_neg];intro h;obtain⟨v,_,h⟩:=jS.1 h;unfold alP at h;rw[jk,jS]at h;obtain⟨⟨p,hp,h⟩,_⟩:=h;unfold zM4 at h;simp only[jk,decide_eq_true_eq,hnx]at h;exact hno p hp h.1.2 h.2
  have hlw0:zMH zs ss (pvV m zs r) K (zEt m zs ss r c.len signals K a)=0:=by
   unfold zMH;rw[zRE,if_neg];intro h;obtain⟨z,_,h⟩:=jS.1 h;unfold grP at h;simp only[jk,decide_eq_true_eq,hnx]at h;obtain⟨h1,h2⟩:=zT4 z (zKh m zs 0 r) (by simp[h]);have h3:=zTM m zs (fun q hq p hp=>(hF.full.pv q hq p hp).2.2.1) r 0 _ h1;exact hno _ h1 (by omega) (by omega)
  have hw:zMi m zs ss r c.len (zKh m zs 0 r) (pvV m zs r) K (zEt m zs ss r c.len signals K a) (zKu m zs ss r c.len signals K a)=0:=by
   unfold zMi;rw[hon0,hsl0,hap0,hal0,hlw0];rfl
  rw[if_pos hw];simp only[zLH,zLQ,hnx,CP,hv.2];simp
set_option maxRecDepth 10000
open Go Go.Eng Go.PlanLaw
theorem zTQ{m:zD}(h:zcp m):∀(r:List zfn) (i:Nat),m.jd.drop i=r->∀b∈zTA i r,VB m b/\(i:Int)<=b.lane
 |[],i,_,b,hb=>by cases hb
 |l::r,i,hd,b,hb=>by
  obtain⟨hi,hx,hd'⟩:=zL hd;unfold zTA at hb;rcases jG.1 hb with rfl|hb
  ·have hlen:z8 m (i:Int)=l.len:=by simp[z8,hi,hx]
   have hl1:=h.CI l (by rw[<-hx];exact jf hi);have htop:0<=zeR l.kind:=by unfold zeR;(repeat' split)<;>omega
   have hkd:zaK m (i:Int)=l.kind:=by simp[zaK,hi,hx]
   refine⟨⟨⟨by simp[zTF],by simp[zTF];omega⟩,by simp[zTF],by simp[zTF];omega,by simp[zTF,hlen],by simp[zTF],by simpa [zTF]using htop,by simp[zTF,hkd],by simp[zTF,hlen];omega⟩,by simp[zTF]⟩
  ·have:=zTQ h r (i+1) hd' b hb;exact⟨this.1,by omega⟩
theorem zTX{m:zD}(h:zcp m):∀(r:List zfn) (i:Nat),m.jd.drop i=r->(zTA i r).Pairwise Apt
 |[],i,_=>List.Pairwise.nil
 |l::r,i,hd=>by
  obtain⟨hi,hx,hd'⟩:=zL hd;unfold zTA;refine jR.2 ⟨fun b hb=>.inl ?_,zTX h r (i+1) hd'⟩;have:=(zTQ h r (i+1) hd' b hb).2;show(i:Int)<b.lane;omega
open Go Go.Eng
theorem KNd.zero{S:StV}{zs:List Zon}{ss:List Sgn}(hS:z6u S zs ss)(hB:Zlr S zs):KNd S.m ⟨S.t0,zTA 0 S.m.jd,S.e0⟩:=by
 have hg:=hS.full.full.qR;obtain⟨v1,v2⟩:=hB.v;obtain⟨s1,s2,s3⟩:=hB.s;obtain⟨q1,q2,_⟩:=hS.car;have hb:=hB.big;have ht:=hB.t;refine⟨⟨fun b hb=>(zTQ hg S.m.jd 0 rfl b hb).1,zTX hg S.m.jd 0 rfl,⟨⟨by simp only;omega,by simp only;omega,by simp only;omega⟩,⟨by simp only;omega,by simp only;omega,by simp only;omega⟩⟩⟩,by simp only;omega⟩
theorem KB.zero{S:StV}{zs:List Zon}{ss:List Sgn}(hS:z6u S zs ss)(hB:Zlr S zs):KB S.m (Zhv S ⟨S.t0,zTA 0 S.m.jd,S.e0⟩):=by
 have hb:=hB.big;have ht:=hB.t;exact⟨(KNd.zero hS hB).own,by simp only[Zhv];omega,by simp only[Zhv];omega⟩
abbrev Zn3(S:StV):List Cl:=[I S.m.version,.jc (S.m.jd.map zo),.jc S.m.qZ,.jc S.m.signals,.jc (S.m.kJ.map zaL),.jc (zu S.r),I S.car.len,I S.car.qV,I S.car.qm,I S.car.vP,I S.car.uW,I S.e0.slo,I S.e0.shi,I S.e0.vlo,I S.e0.vhi,I S.t0,I S.kQ,I S.k7,.bool S.sig,
 I S.m.version,.jc (S.m.jd.map zo),.jc S.m.qZ,.jc S.m.signals,.jc (S.m.kJ.map zaL),.jc (zu S.r),.jc (zu (zW S.m 0 S.r)),I (zmd S.m 0 S.r),I S.car.len,.jc (zu (S.m.jd.map zfn.len)),.jc (zgU (srcs S)),
 I S.t0,I S.t0,I S.t0,I 1,.jc [[I 0]],.qc,.map 1 true,I 0,.jb,I 0,.jb,I 0,I 0,I 0,I 0,I 0]
theorem ZnJ{S:StV}{zs:List Zon}{ss:List Sgn}(hS:z6u S zs ss)(v:Nat){k:zci}(hk:k.jZ.length<=300000000)(he:znd k.ego):R L Cs Zjk [Pt 0,.a (zG k)] [bxv v 46 (Zn3 S),mpB 0 [] 0]=some (.w (.a (zG (Zhv S k))),[bxv v 46 (Zn3 S),mpB 0 [] 0]):=by
 have hG:=hS.full.full.qR;obtain⟨hon,hne,hl8⟩:=zg1 hG hS.vJ;have hr2:=zlP hS.full.full.yz hS.vJ;have hc:=hS.car;have hlen:0<=S.car.len/\S.car.len<=20000:=by obtain⟨q1,q2,_⟩:=hc;omega
 have hes:=he.s;have h1:=zor hG S.r (by omega) hon S.car.len k.ego (by omega) hlen k.jZ (by
  have:2 ^ S.r.length<=2 ^ 8:=vu (by decide) (by omega)
  calc k.jZ.length*2 ^ S.r.length<=300000000*2 ^ 8:=yq hk this
   _<=100000000000:=by decide)
 have h2:=zvv k.jZ (by omega);simp only[zh,zi,zch]at h1;rw[zUa Zjq rfl];simp[ZhN,zG,Zhv,h1,h2,zX,Zly]
theorem Znz{S:StV}{zs:List Zon}{ss:List Sgn}(hS:z6u S zs ss)(hB:Zlr S zs):R L Cs ZlW [.a (ZlR S)] []=some (.t [Pt 0,W 0],ndM S (nd0 S) (rg0 S) 0 [] 4 0 0):=by
 have hf:=hS.full.full;have hk:=KNd.zero hS hB;have h1:=ZmX hS hB;have h2:=ZmV hS;have h3:=zB9 hf.qR hS.vJ S.car.len;have h4:=Zn6 hf.qR S.t0 S.e0;have h5:=ZnJ hS 1 (k:=⟨S.t0,zTA 0 S.m.jd,S.e0⟩) (by have:=hk.len hS;omega) hk.j.ego;have e0:(Zhv S ⟨S.t0,zTA 0 S.m.jd,S.e0⟩).tick=S.t0/\(Zhv S ⟨S.t0,zTA 0 S.m.jd,S.e0⟩).ego=S.e0:=⟨rfl,rfl⟩;unfold nd0 rg0;generalize Zhv S ⟨S.t0,zTA 0 S.m.jd,S.e0⟩=K at *;obtain⟨kt,kb,ke⟩:=K;simp only at e0;obtain⟨rfl,rfl⟩:=e0;generalize zTA 0 S.m.jd=A at *;simp only[zf,zh,zi,zG,zch,mpB,uo]at h3 h4 h5;rw[zUa ZmG rfl];simp[Zjz,h1,h2,h3,h4,h5,zr]
def Znm(S:StV)(zs:List Zon)(ss:List Sgn)(k:zci)(p:List Int):Bool×Int×Int:=zOk S.m zs ss S.r S.car k p S.sig
theorem ZmB{S:StV}{zs:List Zon}{ss:List Sgn}(hS:z6u S zs ss)(d:NdV)(g:RgV)(c:Int)(es:List Ent)(v w u:Nat)(hk:d.k6.jZ.length<=100000000000)(hp:d.told.length<=1000)(hin:∀a∈d.told,zk0 a) :
  R L Cs ZlZ [Pt 0] (ndM S d g c es v w u)=some (.w (.a (zJ4 (Znm S zs ss d.k6 d.told))),ndM S d g c es v w u):=by
 have h0:=ZkQ S d g c es v w u;have hr2:=zlP hS.full.full.yz hS.vJ;have h1:=zOJ hS.full S.r (by omega) S.car d.k6 hk d.told hin hp S.sig;unfold Znm;generalize zOk S.m zs ss S.r S.car d.k6 d.told S.sig=y at *;obtain⟨y1,y2,y3⟩:=y;obtain⟨s0,s1,s2,s3,s4,n,ini,p⟩:=g;simp only[zf,Pl.kR,zG,zJ4,zJY]at h1;rw[zUa Zl0 rfl];cases ini<;>simp[ndM,ndC,rgC,mpB,bxv]at h0<;>simp[ZiC,h0,h1,zJ4,zJY,Zly]
theorem ZnK{S:StV}(d:NdV)(g:RgV)(c:Int)(es:List Ent)(v w u:Nat)(hk:d.k6.jZ.length<=100000000000) :
  R L Cs Zml [Pt 0] (ndM S d g c es v w u)=some (.w (.a (zG d.k6)),ndM S d g c es v w u):=by
 have h0:=ZkQ S d g c es v w u;have h1:=z1I d.k6 hk;obtain⟨s0,s1,s2,s3,s4,n,ini,p⟩:=g;simp only[zG]at h1;rw[zUa Zmt rfl];cases ini<;>simp[ndM,ndC,rgC,mpB,bxv]at h0<;>simp[Zjc,h0,h1,zG,Zly]
def Znp(S:StV)(zs:List Zon)(ss:List Sgn)(d:NdV):Bool:=decide (d.mode=2)&&decide (d.k6.ego.vhi=0)&&(Znm S zs ss d.k6 d.told).1
theorem ZmP{S:StV}{zs:List Zon}{ss:List Sgn}(hS:z6u S zs ss)(d:NdV)(g:RgV)(c:Int)(es:List Ent)(v w u:Nat)(hk:d.k6.jZ.length<=100000000000)(hp:d.told.length<=1000)(hin:∀a∈d.told,zk0 a) :
  R L Cs Zmc [Pt 0] (ndM S d g c es v w u)=some (if Znp S zs ss d then(.w (W 0),ndM S { d with mode:=1,last:=d.now } g c es (v+2) w u) else(.w (W 10),ndM S d g c es v w u)):=by
 have h0:=ZkQ S d g c es v w u;have h1:=ZmB hS d g c es v w u hk hp hin;unfold Znp;generalize Znm S zs ss d.k6 d.told=y at *;obtain⟨y1,y2,y3⟩:=y;obtain⟨s0,s1,s2,s3,s4,n,ini,p⟩:=g;simp only[zJ4,zJY]at h1;rw[zUa Zmf rfl];by_cases c1:d.mode=2
 ·by_cases c2:d.k6.ego.vhi=0
  ·cases y1<;>cases ini<;>simp[ndM,ndC,rgC,mpB,bxv,c1,c2]at h0 h1<;>simp[ZiW,h0,h1,c1,c2,Zly]
  ·cases ini<;>simp[ndM,ndC,rgC,mpB,bxv,c1]at h0 h1<;>simp[ZiW,h0,h1,c1,c2,Zly]
 ·cases ini<;>simp[ndM,ndC,rgC,mpB,bxv]at h0 h1<;>simp[ZiW,h0,h1,c1,Zly]
set_option maxRecDepth 100000
open Go Go.Eng Go.PlanLaw
def Zn5(m:zD)(zs:List Zon)(l:List Int):Bool:=!(decide (l.headD 0∈zbK m 0 m.jd)&&decide (zaK m (l.headD 0)=1))||((zKh m zs 0 l).all (fun p=>decide (10250<p.lo))&&decide (10250<=zmd m 0 l))
theorem Zn4(k:Nat)(hk:k<7)(lim r o1 o2 o3 v:Int)(ws:List zCP):zTx (zq k lim r o1 o2 o3 v ws) (Zn5 (zq k lim r o1 o2 o3 v ws) (zsP k r))=true:=match k,hk with
 |0,_=>by kernel_rfl
 |1,_=>by kernel_rfl
 |2,_=>by kernel_rfl
 |3,_=>by kernel_rfl
 |4,_=>by kernel_rfl
 |5,_=>by kernel_rfl
 |6,_=>by kernel_rfl
structure ZnL(m:zD)(zs:List Zon)(ss:List Sgn):Prop where
 full:zKj m zs ss
 con:∀l,zdA m l=0->∀z:Nat,z<zs.length->zTY (zKh m zs 0 l) z=true
 k0:zaK m ((zDT m 0).headD 0)=1
 wl:∀w∈m.kJ,0<=w.uF
 beg:∀k,zaK m ((zDT m k).headD 0)=1->(∀p∈zKh m zs 0 (zDT m k),10250<p.lo)/\10250<=zmd m 0 (zDT m k)
theorem ZnA(n:Int):∃m zs ss,ZnL m zs ss/\R L Cs zY [W n] []=some (.w (.a (zf m)),[]):=by
 obtain⟨k,lim,r,o1,o2,o3,v,ws,hk,nu,hR⟩:=zA5 n;have hF:=zTs k hk nu;refine⟨_,_,_,⟨hF,fun l hr z hz=>?_,zT3 k hk lim r o1 o2 o3 v ws,fun x hx=>?_,fun j hj=>?_⟩,hR⟩
 ·exact jI.1 (zTp hF.full.yz (zT6 k hk lim r o1 o2 o3 v ws) hr) z (qE.2 hz)
 ·obtain⟨j,hj,_,_,_,_,_,_,_,h7,_⟩:=nu.wv x hx;exact h7
 ·have hr:=zE5 hF.full hF.pos j;have hb:=zTp hF.full.yz (Zn4 k hk lim r o1 o2 o3 v ws) hr;have hne:=zFr hF.full.yz hF.pos;have hin:(zDT (zq k lim r o1 o2 o3 v ws) j).headD 0∈zbK (zq k lim r o1 o2 o3 v ws) 0 (zq k lim r o1 o2 o3 v ws).jd:=by
   have hlen:0<(zbK (zq k lim r o1 o2 o3 v ws) 0 (zq k lim r o1 o2 o3 v ws).jd).length:=kP.2 hne;unfold zDT;rw[if_neg hne,AE];have hi:=uj (j % 1048576).toNat hlen;rw[jo,jr hi];exact jf hi
  unfold Zn5 at hb;simp only[hin,hj,decide_true,Bool.and_self,Bool.not_true,uv,jk,decide_eq_true_eq,jI]at hb;exact hb
def Zns(m:zD)(k bu si dl s sp ln ac br ra:Int)(sg:Bool):StV :=
 ⟨m,zDT m k,⟨300+ln % 4700,1+ac % 30,50+br % 41,20+ra % 101,dl % 6⟩,⟨300+ln % 4700+1+s % 5000,300+ln % 4700+1+s % 5000+sp % 250,0,0⟩,0,bu % 9,si % 12,sg⟩
theorem ZnR{m:zD}{zs:List Zon}{ss:List Sgn}(hM:ZnL m zs ss){k:Int}(hk:k=0\/zaK m ((zDT m k).headD 0)=1)(bu si dl s sp ln ac br ra:Int)(sg:Bool) :
  z6u (Zns m k bu si dl s sp ln ac br ra sg) zs ss/\Zlr (Zns m k bu si dl s sp ln ac br ra sg) zs:=by
 have hkd:zaK m ((zDT m k).headD 0)=1:=by
  rcases hk with rfl|h
  ·exact hM.k0
  ·exact h
 obtain⟨b1,b2⟩:=hM.beg k hkd;have hro:=zE5 hM.full.full hM.full.pos k;unfold Zns;refine⟨⟨hM.full,hro,?_,?_,?_⟩,⟨⟨rfl,rfl⟩,?_,?_,?_,?_,hkd,?_⟩⟩
 ·unfold Car.ok;simp only;omega
 all_goals simp only
 all_goals first |omega |skip
 intro p hp;have:=b1 p hp;omega
theorem ZnS(n r dl bu si s sp ln ac br ra:Int)(sg:Bool):∃m zs ss k,ZnL m zs ss/\(k=0\/zaK m ((zDT m k).headD 0)=1) /\
  R L Cs ZlI [.a [I n,I r,I dl,I bu,I si,I s,I sp,I ln,I ac,I br,I ra,.bool sg]] []=some (.w (.a (ZlR (Zns m k bu si dl s sp ln ac br ra sg))),[]):=by
 obtain⟨m,zs,ss,hM,hR⟩:=ZnA n;obtain⟨k,hk,hRt⟩:=zT8 hM.full.full.qR r;refine⟨m,zs,ss,k,hM,hk,?_⟩;have e1:=zEW bu 9 (by omega) (by omega);have e2:=zEW si 12 (by omega) (by omega);have e3:=zEW dl 6 (by omega) (by omega);have e4:=zD0 ln 4700 (by omega) (by omega);have e5:=zD0 ac 30 (by omega) (by omega);have e6:=zD0 br 41 (by omega) (by omega);have e7:=zD0 ra 101 (by omega) (by omega);have e8:=zD0 s 5000 (by omega) (by omega);have e9:=zD0 sp 250 (by omega) (by omega);have w1:=zTd (300+ln % 4700) (by omega) (by omega);have w2:=zTd (1+ac % 30) (by omega) (by omega);have w3:=zTd (50+br % 41) (by omega) (by omega);have w4:=zTd (20+ra % 101) (by omega) (by omega);have w5:=zTd (300+ln % 4700+1) (by omega) (by omega);have w6:=zTd (300+ln % 4700+1+s % 5000) (by omega) (by omega);have w7:=zTd (300+ln % 4700+1+s % 5000+sp % 250) (by omega) (by omega);rw[zUa ZlV rfl];simp only[zf]at hR hRt;unfold Zns;simp[Zil,hR,hRt,e1,e2,e3,e4,e5,e6,e7,e8,e9,w1,w2,w3,w4,w5,w6,w7]
set_option maxRecDepth 10000
open Go Go.Eng
theorem zUJ(x tick:Int){lo lo' hi hi':Int}(hl:lo'<=lo)(hh:hi<=hi'):∀(l:List zCP) (n n':Int),n'<=n->l.foldl (zOx x lo' hi' tick) n'<=l.foldl (zOx x lo hi tick) n
 |[],n,n',h=>h
 |w::l,n,n',h=>by
  refine zUJ x tick hl hh l _ _ ?_;unfold zOx zQf;simp only[jk,decide_eq_true_eq];split
  ·rename_i c;split<;>omega
  ·rename_i c;rw[if_neg (fun d=>c ⟨⟨⟨⟨d.1.1.1.1,by have:=d.1.1.1.2;omega⟩,by have:=d.1.1.2;omega⟩,d.1.2⟩,d.2⟩)];exact h
theorem zUw(x lo hi tick:Int):∀(l:List zCP) (n:Int),(∀w∈l,0<=w.uF)->0<=n->0<=l.foldl (zOx x lo hi tick) n
 |[],n,_,h=>h
 |w::l,n,hw,h=>by
  refine zUw x lo hi tick l _ (fun y hy=>hw y (js _ hy)) ?_;have:=hw w (jq ..);unfold zOx;split<;>omega
theorem zUo{m:zD}(h:zcp m)(x:Int):0<=zLS m x:=by
 unfold zLS;by_cases c:x.toNat<m.jd.length
 ·have:=h.uF _ (jf c);simp[c];omega
 ·simp[jY (show m.jd.length<=x.toNat by omega)]
abbrev zVB(o o':Int):Prop:=o=-1\/(0<=o'/\o'<=o)
theorem zUS{m:zD}(h:zcp m)(hw:∀w∈m.kJ,0<=w.uF){fr fr' to to' tick:Int}(hf:fr'<=fr)(ht:to<=to'):∀(r:List Int) (a o o':Int),zVB o o'->(o'=-1\/0<=o')->zVB (zNU m fr to tick a o r) (zNU m fr' to' tick a o' r)
 |[],a,o,o',hr,_=>hr
 |x::r,a,o,o',hr,h0=>by
  unfold zNU;have hn:=zUw x (max 0 (fr'-a)) (min (to'-a) (z8 m x)) tick m.kJ (zLS m x) hw (zUo h x);have hm:=zUJ x tick (show max 0 (fr'-a)<=max 0 (fr-a) by omega) (show min (to-a) (z8 m x)<=min (to'-a) (z8 m x) by omega) m.kJ (zLS m x) (zLS m x) (jM _);generalize hA:m.kJ.foldl (zOx x (max 0 (fr-a)) (min (to-a) (z8 m x)) tick) (zLS m x)=A at *;generalize hB:m.kJ.foldl (zOx x (max 0 (fr'-a)) (min (to'-a) (z8 m x)) tick) (zLS m x)=B at *;have e1:zNi m fr to tick a o x=if max 0 (fr-a)>min (to-a) (z8 m x) then o else if o<0\/A<o then A else o:=by unfold zNi;rw[hA]
  have e2:zNi m fr' to' tick a o' x=if max 0 (fr'-a)>min (to'-a) (z8 m x) then o' else if o'<0\/B<o' then B else o':=by unfold zNi;rw[hB]
  rw[e1,e2];have key:zVB (if max 0 (fr-a)>min (to-a) (z8 m x) then o else if o<0\/A<o then A else o) (if max 0 (fr'-a)>min (to'-a) (z8 m x) then o' else if o'<0\/B<o' then B else o')/\((if max 0 (fr'-a)>min (to'-a) (z8 m x) then o' else if o'<0\/B<o' then B else o')=-1\/0<=(if max 0 (fr'-a)>min (to'-a) (z8 m x) then o' else if o'<0\/B<o' then B else o')):=by
   unfold zVB at hr ⊢;by_cases c2:max 0 (fr'-a)>min (to'-a) (z8 m x)
   ·rw[if_pos c2,if_pos (by omega)];exact⟨hr,h0⟩
   ·rw[if_neg c2];by_cases c1:max 0 (fr-a)>min (to-a) (z8 m x)
    ·rw[if_pos c1];by_cases d:o'<0\/B<o'
     ·rw[if_pos d];omega
     ·rw[if_neg d];omega
    ·rw[if_neg c1];by_cases d:o'<0\/B<o'
     ·rw[if_pos d];by_cases f:o<0\/A<o
      ·rw[if_pos f];omega
      ·rw[if_neg f];omega
     ·rw[if_neg d];by_cases f:o<0\/A<o
      ·rw[if_pos f];omega
      ·rw[if_neg f];omega
  exact zUS h hw hf ht r _ _ _ key.1 key.2
theorem zUH{m:zD}(h:zcp m)(hw:∀w∈m.kJ,0<=w.uF){fr to tick:Int}:∀(r:List Int) (a o:Int),0<=o->0<=zNU m fr to tick a o r
 |[],a,o,ho=>ho
 |x::r,a,o,ho=>by
  unfold zNU;refine zUH h hw r _ _ ?_;have hn:=zUw x (max 0 (fr-a)) (min (to-a) (z8 m x)) tick m.kJ (zLS m x) hw (zUo h x);unfold zNi;split
  ·exact ho
  ·split
   ·exact hn
   ·exact ho
theorem zUI{m:zD}(h:zcp m)(hw:∀w∈m.kJ,0<=w.uF){fr to tick:Int}(hft:fr<=to):∀(r:List Int) (a:Int),zj2 m r->a<=fr->to<=zmd m a r->r≠[]->0<=zNU m fr to tick a (-1) r
 |[],a,_,_,_,hne=>absurd rfl hne
 |x::r,a,hon,ha,ht,_=>by
  unfold zNU;have hl:=zcX h (hon x (jq ..));have hn:=zUw x (max 0 (fr-a)) (min (to-a) (z8 m x)) tick m.kJ (zLS m x) hw (zUo h x);by_cases c:fr<=a+z8 m x
  ·refine zUH h hw r _ _ ?_;unfold zNi;rw[if_neg (by omega),if_pos (.inl (by decide))];exact hn
  ·have e:zNi m fr to tick a (-1) x=-1:=by unfold zNi;rw[if_pos (by omega)]
   rw[e];cases r with
   |nil=>simp only[zmd]at ht;omega
   |cons y r=>exact zUI h hw hft (y::r) _ (fun z hz=>hon z (js _ hz)) (by omega) ht (by simp)
theorem zVj{m:zD}(h:zcp m)(hw:∀w∈m.kJ,0<=w.uF){r:List Int}(hon:zj2 m r)(hne:r≠[]){x y:zci}(hI:InK x y)(h0:0<=x.ego.slo)(hle:x.ego.slo<=x.ego.shi)(he:x.ego.shi<=zmd m 0 r)(hs:zMt m r y=0):zMt m r x=0:=by
 unfold zMt at hs ⊢;have e1:=hI.ego.slo;have e2:=hI.ego.shi;have e4:=hI.ego.vhi;have hr:=zUS h hw (tick:=y.tick) e1 e2 r 0 (-1) (-1) (.inl rfl) (.inl rfl);have hh:=zUI h hw (tick:=y.tick) hle r 0 hon h0 he hne;rw[hI.tick];split at hs
 ·cases hs
 ·rw[if_neg];unfold zVB at hr;omega
theorem zU8{m:zD}{r:List Int}{x y:zci}(hI:InK x y)(h0:0<=x.ego.vhi){sw sw':List Swp}(hS:zVA sw sw')(hs:zMF m r y sw'=0):zMF m r x sw=0:=by
 unfold zMF at hs ⊢;have e2:=hI.ego.shi;have e4:=hI.ego.vhi;by_cases c:x.ego.vhi=0
 ·rw[if_pos c]
 ·rw[if_neg c,if_neg];rw[if_neg (by omega)]at hs;intro ha;obtain⟨s,hsm,hp⟩:=jS.1 ha;obtain⟨t,ht,hst⟩:=hS s hsm;have:sw'.any (apP m r y.ego.shi)=true:=by
   refine jS.2 ⟨t,ht,?_⟩;unfold apP at hp ⊢;rw[<-hst.lane];cases hi:zgo r s.lane with
   |none=>rw[hi]at hp;cases hp
   |some i =>
    rw[hi]at hp;simp only[jk,kK,decide_eq_true_eq]at hp ⊢;refine⟨?_,by have:=hst.lo;omega⟩;cases hc:t.cap with
    |false=>rfl
    |true=>rw[hst.cap hc]at hp;cases hp.1
  rw[if_pos this]at hs;cases hs
theorem zVv{p:Prt}{s t:Swp}(h:InS s t)(hs:inS p s=true):inS p t=true:=by
 unfold inS at hs ⊢;simp only[jk,kK,decide_eq_true_eq]at hs ⊢;have h1:=h.lane;have h2:=h.lo;have h3:=h.hi;refine⟨⟨⟨?_,by rw[<-h1];exact hs.1.1.2⟩,by omega⟩,by omega⟩;cases hc:t.cap with
 |false=>rfl
 |true=>rw[h.cap hc]at hs;exact hs.1.1.1
theorem zUD{sw sw':List Swp}(h:zVA sw sw')(e:Int):∀(l:List Prt) (i:Nat),zNK sw e i l=true->zNK sw' e i l=true
 |[],i,ht=>ht
 |p::l,i,ht=>by
  unfold zNK at ht ⊢;simp only[uk,jk]at ht ⊢;rcases ht with⟨h1,h2⟩|h1
  ·left;refine⟨h1,?_⟩;obtain⟨s,hs,hp⟩:=jS.1 h2;obtain⟨t,ht,hst⟩:=h s hs;exact jS.2 ⟨t,ht,zVv hst hp⟩
  ·exact .inr (zUD h e l _ h1)
theorem zU9{zs:List Zon}{len:Int}{ps:List Pss}{vs:List Vis}{w1 w2 x y:zci}(hw:InK w1 w2)(hI:InK x y){sw sw':List Swp}(hS:zVA sw sw')(hs:zMG zs len ps vs w2 y sw'=0):zMG zs len ps vs w1 x sw=0:=by
 unfold zMG at hs ⊢;rw[if_neg];intro ha;obtain⟨v,hv,hp⟩:=jS.1 ha;have:vs.any (alP zs ps sw' y.ego.shi (w2.ego.slo-len))=true:=by
  refine jS.2 ⟨v,hv,?_⟩;unfold alP zNf at hp ⊢;rw[jk]at hp ⊢;refine⟨?_,zUD hS _ _ _ hp.2⟩;obtain⟨p,hpm,h⟩:=jS.1 hp.1;refine jS.2 ⟨p,hpm,?_⟩;unfold zM4 at h ⊢;simp only[jk,decide_eq_true_eq]at h ⊢;have:=hI.ego.shi;have:=hw.ego.slo;exact⟨⟨h.1.1,by omega⟩,by omega⟩
 rw[if_pos this]at hs;cases hs
theorem zVa{zs:List Zon}{ss:List Sgn}{vs:List Vis}{w1 w2 x y:zci}(hw:InK w1 w2)(hI:InK x y)(hs:zMH zs ss vs w2 y=0):zMH zs ss vs w1 x=0:=by
 unfold zMH at hs ⊢;rw[if_neg];intro ha;obtain⟨v,hv,hp⟩:=jS.1 ha;have:vs.any (zNj zs ss y.ego.shi w2.ego.slo w2.tick)=true:=by
  refine jS.2 ⟨v,hv,?_⟩;unfold zNj zP1 at hp ⊢;rw[hw.tick]at hp;simp only[jk,decide_eq_true_eq]at hp ⊢;have:=hI.ego.shi;have:=hw.ego.slo;exact⟨⟨⟨hp.1.1.1,by omega⟩,by omega⟩,hp.2⟩
 rw[if_pos this]at hs;cases hs
theorem zUu{len:Int}{vs:List Vis}{x y:zci}(hI:InK x y)(h0:0<=x.ego.vhi)(hs:zLQ len vs y=true):zLQ len vs x=true:=by
 unfold zLQ at hs ⊢;simp only[jk,decide_eq_true_eq,kK]at hs ⊢;have e1:=hI.ego.slo;have e2:=hI.ego.shi;have e4:=hI.ego.vhi;refine⟨by omega,?_⟩;cases ha:vs.any (zOS len x.ego)with
 |false=>rfl
 |true =>
  obtain⟨v,hv,hp⟩:=jS.1 ha;have:vs.any (zOS len y.ego)=true:=by
   refine jS.2 ⟨v,hv,?_⟩;unfold zOS at hp ⊢;simp only[jk,decide_eq_true_eq]at hp ⊢;omega
  rw[this]at hs;cases hs.2
theorem zU7{a b c d e:Int}:zKs [a,b,c,d,e]=0<->a=0/\b=0/\c=0/\d=0/\e=0:=by
 simp only[zKs];constructor
 ·intro h
  repeat' split at h
  all_goals first |(refine⟨?_,?_,?_,?_,?_⟩<;>assumption) |(exact absurd h (by assumption)) |skip
  all_goals simp_all
 ·rintro⟨rfl,rfl,rfl,rfl,rfl⟩;simp
open Go Go.Eng Go.PlanLaw
theorem zVq{m:zD}{zs:List Zon}{ss:List Sgn}(h:zcp m)(hw:∀w∈m.kJ,0<=w.uF){r:List Int}(hon:zj2 m r)(hne:r≠[]){len:Int}{ps:List Pss}{vs:List Vis}{w1 w2 x y:zci}(hW:InK w1 w2)(hI:InK x y)(hx:znd x.ego){sw sw':List Swp}(hS:zVA sw sw')(hs:zMi m zs ss r len ps vs w2 y sw'=0):zMi m zs ss r len ps vs w1 x sw=0:=by
 obtain⟨⟨e1,e2,e3⟩,⟨e4,e5,e6⟩⟩:=hx;unfold zMi at hs ⊢;rw[zU7]at hs ⊢;obtain⟨h1,h2,h3,h4,h5⟩:=hs;have ho:x.ego.shi<=zmd m 0 r:=by
  unfold onW at h1;split at h1
  ·cases h1
  ·have:=hI.ego.shi;omega
 refine⟨by unfold onW;rw[if_neg (by omega)],zVj h hw hon hne hI e1 e2 ho h2,zU8 hI (by omega) hS h3,zU9 hW hI hS h4,zVa hW hI h5⟩
theorem zUs{m:zD}{zs:List Zon}{ss:List Sgn}(hf:zmq m zs ss)(hw:∀w∈m.kJ,0<=w.uF){r:List Int}(hr:zdA m r=0)(len:Int)(ps:List Pss)(vs:List Vis)(signals:Bool):∀(t:List Int) (n n':Nat) (a b:zci),InK a b->zdf m a=0->zdf m b=0->(zKr m zs ss r len ps vs signals t n b).1=none->fbF m r t b.tick b.ego=none ->
  (zKr m zs ss r len ps vs signals t n' a).1=none/\fbF m r t a.tick a.ego=none/\InK (zKr m zs ss r len ps vs signals t n' a).2 (zKr m zs ss r len ps vs signals t n b).2/\zdf m (zKr m zs ss r len ps vs signals t n' a).2=0
 |[],n,n',a,b,hI,ha,hb,h1,h2=>⟨rfl,rfl,hI,ha⟩
 |x::t,n,n',a,b,hI,ha,hb,h1,h2=>by
  have h:=hf.qR;obtain⟨hon,hne,hl8⟩:=zg1 h hr;unfold zKr at h1;split at h1
  ·rename_i hwy;have hon':=zNe hwy;have B8:¬BM m r b.tick b.ego x:=by
    intro hbd;unfold fbF at h2;rw[if_pos hbd]at h2;cases h2
   unfold fbF at h2;have hsh:(zaN m r b.ego x).shi<=zmd m 0 r:=hon';rw[if_neg B8,if_neg (by omega)]at h2;have h2:fbF m r t (b.tick+1) (zaN m r b.ego x)=none:=by
    cases hq:fbF m r t (b.tick+1) (zaN m r b.ego x)with
    |none=>rfl
    |some y=>rw[hq]at h2;cases h2
   obtain⟨hN,hS⟩:=zVi hf r len hI ha hb x signals;have hE:=zUz m r hI.ego x;have e2:=hE.shi;have htk:=hI.tick;unfold TrRun.BM at B8;have tb:=(zte hb).2;have cb:zdf m (zEt m zs ss r len signals b x)=0:=zEH hf hr len b x signals hb (by omega) (by omega);have ca:zdf m (zEt m zs ss r len signals a x)=0:=zEH hf hr len a x signals ha (by omega) (by omega);have hwa:=zVq h hw hon hne (len:=len) (ps:=ps) (vs:=vs) (zs:=zs) (ss:=ss) hI hN (zte ca).1 hS hwy;obtain⟨g1,g2,g3,g4⟩:=zUs hf hw hr len ps vs signals t (n+1) (n'+1) _ _ hN ca cb h1 h2;have v1:zKr m zs ss r len ps vs signals (x::t) n' a=zKr m zs ss r len ps vs signals t (n'+1) (zEt m zs ss r len signals a x):=by rw[zKr,if_pos hwa]
   have v2:zKr m zs ss r len ps vs signals (x::t) n b=zKr m zs ss r len ps vs signals t (n+1) (zEt m zs ss r len signals b x):=by rw[zKr,if_pos hwy]
   rw[v1,v2];refine⟨g1,?_,g3,g4⟩;unfold fbF;rw[if_neg (by unfold TrRun.BM;omega),if_neg (by omega)];have g2:fbF m r t (a.tick+1) (zaN m r a.ego x)=none:=g2;rw[g2];rfl
  ·cases h1
theorem zUm(m:zD)(zs:List Zon)(ss:List Sgn)(r:List Int)(c:zK8)(k:zci)(p:List Int)(signals:Bool):(zOk m zs ss r c k p signals).1=true <->
  zKW m r c k=true/\qM c p=0/\(zKr m zs ss r c.len (zKh m zs 0 r) (pvV m zs r) signals p 0 k).1=none/\fbF m r p k.tick k.ego=none/\zLQ c.len (pvV m zs r) (zKr m zs ss r c.len (zKh m zs 0 r) (pvV m zs r) signals p 0 k).2=true:=by
 unfold zOk;by_cases h:zKW m r c k=true/\qM c p=0
 ·rw[if_pos h];unfold zNw zLH;generalize zKr m zs ss r c.len (zKh m zs 0 r) (pvV m zs r) signals p 0 k=V;obtain⟨v1,v2⟩:=V;cases v1 with
  |none =>
   simp only;by_cases hs:zLQ c.len (pvV m zs r) v2=true
   ·rw[if_pos hs];cases fbF m r p k.tick k.ego with
    |none=>simp[zKX,h,hs]
    |some b=>simp[zKX]
   ·rw[if_neg hs];cases fbF m r p k.tick k.ego with
    |none=>simp[zKX,hs]
    |some b=>simp[zKX]
  |some x =>
   obtain⟨x1,x2⟩:=x;cases fbF m r p k.tick k.ego with
   |none=>simp[zKX]
   |some b =>
    simp only[zKX];split<;>simp
 ·rw[if_neg h];constructor
  ·intro q;cases q
  ·rintro⟨h1,h2,_⟩;exact absurd ⟨h1,h2⟩ h
theorem zUV{m:zD}{r:List Int}{c:zK8}{k k':zci}(h:zKW m r c k=true)(hk:zdf m k'=0):zKW m r c k'=true:=by
 unfold zKW at h ⊢;simp only[jk,decide_eq_true_eq]at h ⊢;exact⟨h.1,hk⟩
theorem zUC{m:zD}{zs:List Zon}{ss:List Sgn}(hf:zmq m zs ss)(hw:∀w∈m.kJ,0<=w.uF){r:List Int}{c:zK8}{a b:zci}(hI:InK a b)(ha:zdf m a=0){p:List Int}{signals:Bool}(h:(zOk m zs ss r c b p signals).1=true):(zOk m zs ss r c a p signals).1=true:=by
 rw[zUm]at h ⊢;obtain⟨h1,h2,h3,h4,h5⟩:=h;obtain⟨hr,_,_,hb⟩:=zNz h1;obtain⟨g1,g2,g3,g4⟩:=zUs hf hw hr c.len _ _ signals p 0 0 a b hI ha hb h3 h4;exact⟨zUV h1 ha,h2,g1,g2,zUu g3 (by have:=(zte g4).1.v;omega) h5⟩
theorem zUX{c:zK8}{a:Int}{t:List Int}(h:qM c (a::t)=0)(hne:t≠[]):qM c t=0:=by
 obtain⟨b,t,rfl⟩:∃b s,t=b::s:=by cases t with|nil=>exact absurd rfl hne|cons b s=>exact⟨b,s,rfl⟩
 unfold qM at h ⊢;split at h
 ·cases h
 ·rename_i c1;rw[if_neg c1,if_neg (by simp)];rw[if_neg (by simp)]at h;split at h
  ·cases h
  ·rename_i c2;rw[if_neg (by simp only[jl]at c2 ⊢;omega)];split at h
   ·cases h
   ·rename_i c3;rw[if_neg (by simpa using c3)];split at h
    ·cases h
    ·rename_i c4;rw[if_neg (fun q=>c4 (by rw[vV,q,Bool.or_true]))];split at h
     ·cases h
     ·rename_i c5;rw[if_neg];intro q;refine c5 ?_;simp only[AE]at q ⊢;obtain⟨q1,q2,q3,q4,q5,q6,q7,q8,q9,q10⟩:=Ai.1 c1;have e:Go.PlanLaw.Bm c b (b::t)=Go.PlanLaw.Bm c b t:=by
       rw[Go.PlanLaw.Bm];have:(!(decide (-c.vP<=b-b)&&decide (b-b<=c.vP)))=false:=by simp;omega
       rw[this,uv]
      rw[e]at q;rw[Go.PlanLaw.Bm,Go.PlanLaw.Bm,q,Bool.or_true,Bool.or_true]
theorem zUY{c:zK8}{a:Int}(h:qM c [a]=0):a<=0:=by
 unfold qM at h;split at h
 ·cases h
 ·rw[if_neg (by simp),if_neg (by simp)]at h;split at h
  ·cases h
  ·rename_i c3;simpa using c3
theorem zVh{m:zD}{zs:List Zon}{ss:List Sgn}(hF:zKj m zs ss)(hw:∀w∈m.kJ,0<=w.uF){r:List Int}(hcon:∀z:Nat,z<zs.length->zTY (zKh m zs 0 r) z=true){c:zK8}{k:zci}{a:Int}{t:List Int}{signals:Bool}(htk:k.tick<1099511627775)(h:(zOk m zs ss r c k (a::t) signals).1=true) :
  zm6 m r c.len k a=0/\zdf m (zEt m zs ss r c.len signals k a)=0/\(zOk m zs ss r c (zEt m zs ss r c.len signals k a) (Pl.vI (a::t)) signals).1=true:=by
 have hf:=hF.full;rw[zUm]at h;obtain⟨h1,h2,h3,h4,h5⟩:=h;obtain⟨hr,hkd,hc,hb⟩:=zNz h1;obtain⟨hon,hne,hl8⟩:=zg1 hf.qR hr;have hEb:=zFu hf.qR r hl8 hon;unfold zKr at h3;split at h3
 ·rename_i hwy;have hon':(zaN m r k.ego a).shi<=zmd m 0 r:=zNe hwy;have B8:¬TrRun.BM m r k.tick k.ego a:=by
   intro hbd;unfold fbF at h4;rw[if_pos hbd]at h4;cases h4
  unfold fbF at h4;rw[if_neg B8,if_neg (by omega)]at h4;have h4:fbF m r t (k.tick+1) (zaN m r k.ego a)=none:=by
   cases hq:fbF m r t (k.tick+1) (zaN m r k.ego a)with
   |none=>rfl
   |some y=>rw[hq]at h4;cases h4
  unfold TrRun.BM at B8;have tb:=(zte hb).2;have cn:zdf m (zEt m zs ss r c.len signals k a)=0:=zEH hf hr c.len k a signals hb (by omega) (by omega);have hst:zm6 m r c.len k a=0:=by
   obtain⟨q1,q2,_⟩:=hc;unfold zm6;simp[hb,hr];omega
  refine⟨hst,cn,?_⟩;have v1:zKr m zs ss r c.len (zKh m zs 0 r) (pvV m zs r) signals (a::t) 0 k=zKr m zs ss r c.len (zKh m zs 0 r) (pvV m zs r) signals t (0+1) (zEt m zs ss r c.len signals k a):=by rw[zKr,if_pos hwy]
  rw[v1]at h5;by_cases ht:t=[]
  ·subst ht;have e:Pl.vI [a]=[a]:=by simp[Pl.vI]
   rw[e];have h5:zLQ c.len (pvV m zs r) (zEt m zs ss r c.len signals k a)=true:=h5;unfold zLQ at h5;simp only[jk,decide_eq_true_eq,kK]at h5;obtain⟨⟨e1,e2,e3⟩,⟨e4,e5,e6⟩⟩:=(zte cn).1;have hlen:=hc.1;have hnt:(zEt m zs ss r c.len signals k a).tick=k.tick+1:=rfl;have hsl:(zEt m zs ss r c.len signals k a).ego.shi<=zmd m 0 r:=hon';have hlaw:=fun(htk:(zEt m zs ss r c.len signals k a).tick<1099511627776)=>zTU hF hr hkd hcon hc (zEt m zs ss r c.len signals k a) cn ⟨by omega,h5.1⟩ hsl htk (by omega) signals a (zUY h2) h2
   have hca:=zT2 hF hcon c.len (zEt m zs ss r c.len signals k a).ego.shi (zEt m zs ss r c.len signals k a).ego.slo hlen e2;rw[<-zRZ,h5.2]at hca;rw[hlaw (by omega),<-hca];rfl
  ·have e:Pl.vI (a::t)=t:=by
    have:1<(a::t).length:=by cases t with |nil=>exact absurd rfl ht |cons b t=>simp
    simp only[Pl.vI,if_pos this];rfl
   rw[e,zUm];obtain⟨g1,g2,g3,g4⟩:=zUs hf hw hr c.len (zKh m zs 0 r) (pvV m zs r) signals t (0+1) 0 _ _ (InK.refl _) cn cn h3 h4;exact⟨zUV h1 cn,zUX h2 ht,g1,g2,zUu g3 (by have:=(zte g4).1.v;omega) h5⟩
 ·cases h3
def Zjt(S:StV)(zs:List Zon)(ss:List Sgn)(k:zci)(p:List Int):Bool:=(zOk S.m zs ss S.r S.car k p S.sig).1
structure ZkT(S:StV)(zs:List Zon)(ss:List Sgn):Prop where
 ok:z6u S zs ss
 be:Zlr S zs
 con:∀z:Nat,z<zs.length->zTY (zKh S.m zs 0 S.r) z=true
 wl:∀w∈S.m.kJ,0<=w.uF
theorem InE.trans{a b c:Ego}(h:InE a b)(g:InE b c):InE a c:=⟨by have:=h.slo;have:=g.slo;omega,by have:=h.shi;have:=g.shi;omega,by have:=h.vlo;have:=g.vlo;omega,by have:=h.vhi;have:=g.vhi;omega⟩
theorem InE.refl(a:Ego):InE a a:=⟨jM _,jM _,jM _,jM _⟩
theorem InK.trans{a b c:zci}(h:InK a b)(g:InK b c):InK a c:=⟨h.tick.trans g.tick,h.ego.trans g.ego,h.bl.trans g.bl⟩
theorem KNd.le{m:zD}{k:zci}(h:KNd m k):Le k.jZ:=fun x hx=>(h.j.vb x hx).le
theorem ZjX(l:List zk):Sub l l:=fun p hp=>⟨p,hp,.refl p⟩
theorem Zke{S:StV}{k:zci}(h:KNd S.m k):InK (Zhv S k) k:=⟨rfl,.refl _,(zVd S.m k.ego S.car.len S.r h.le).1⟩
theorem Zle{m:zD}{k:zci}(h:KNd m k)(x:zZP):InK (Zib m k x) k:=⟨rfl,.refl _,z0e h.le⟩
theorem Zlh(k:zci)(a b c:Int):InK (z9f k a b c).1 k:=by
 unfold z9f;split
 ·exact InK.refl k
 ·split
  ·exact InK.refl k
  ·exact⟨rfl,⟨jM _,jM _,Int.le_max_left ..,Int.min_le_left ..⟩,ZjX _⟩
theorem Zln(k:zci)(a b c:Int):InK (Zag k a b c).1 k:=by
 unfold Zag;split
 ·exact InK.refl k
 ·split
  ·exact InK.refl k
  ·exact⟨rfl,⟨Int.le_max_left ..,Int.min_le_left ..,jM _,jM _⟩,ZjX _⟩
theorem ZkD:∀(l:List Mrk) (k:zci) (b:Bool),InK (ZhZ l (k,b)).1 k
 |[],k,b=>InK.refl k
 |x::l,k,b=>(ZkD l (z9f k x.st x.lo x.hi).1 (b&&(z9f k x.st x.lo x.hi).2)).trans (Zlh ..)
theorem Zkq:∀(l:List Mrk) (k:zci) (b:Bool),InK (Zis l (k,b)).1 k
 |[],k,b=>InK.refl k
 |x::l,k,b=>(Zkq l (Zag k x.st x.lo x.hi).1 (b&&(Zag k x.st x.lo x.hi).2)).trans (Zln ..)
theorem ZkE{S:StV}:∀(l:List zZP) {k:zci} (b:Bool),KNd S.m k->InK (ZiH S l (k,b)).1 k
 |[],k,b,_=>InK.refl k
 |x::l,k,b,h=>(ZkE l (b&&ZiS S.m (Zhv S (Zib S.m k x)) x.pts) (h.upd x).own).trans ((Zke (h.upd x)).trans (Zle h x))
theorem ZkZ{S:StV}{k:zci}(h:KNd S.m k)(q:Option Hrd):InK (znE S q k).1 k:=by
 cases q with
 |none=>exact Zke h
 |some y =>
  obtain⟨h1,_⟩:=KNd.spds y.ku true h;have h1':KNd S.m (ZhZ y.ku (k,true)).1:=h1;obtain⟨h2,_⟩:=KNd.fixs y.qf (ZhZ y.ku (k,true)).2 h1';exact(ZkE y.qk _ h2.own).trans ((Zke h2).trans ((Zkq y.qf _ _).trans (ZkD y.ku k true)))
theorem ZnC{S:StV}{zs:List Zon}{ss:List Sgn}{k:zci}{p:List Int}(h:Zjt S zs ss k p=true):p≠[]/\p.length<=200:=by
 unfold Zjt at h;rw[zUm]at h;obtain⟨_,h2,h3⟩:=zVR h.2.1;exact⟨h2,h3⟩
theorem ZmO(a:Int)(t:List Int):Pl.vU (a::t) 0=a:=by
 unfold Pl.vU;rw[if_neg (by simp)];have:(max 0 (min (0:Int) (((a::t).length:Nat)-1))).toNat=0:=by
  simp only[jl];omega
 rw[this];rfl
theorem ZnB{S:StV}{zs:List Zon}{ss:List Sgn}(hL:ZkT S zs ss){k:zci}(hk:KB S.m k)(ht:k.tick<100000){p:List Int}(h:Zjt S zs ss k p=true)(q:Option Hrd) :
  Zjt S zs ss (znE S q (ZhP S zs ss k (Pl.vU p 0))).1 (Pl.vI p)=true:=by
 obtain⟨hne,_⟩:=ZnC h;obtain⟨a,t,rfl⟩:∃a t,p=a::t:=by cases p with|nil=>exact absurd rfl hne|cons a t=>exact⟨a,t,rfl⟩
 rw[ZmO];obtain⟨k1,_⟩:=hk.step (zs:=zs) (ss:=ss) hL.ok ht a;obtain⟨_,_,h3⟩:=zVh hL.ok.full hL.wl hL.con (by omega) h;exact zUC hL.ok.full.full hL.wl (ZkZ k1.nd q) (k1.nd.Bl q).1.chk h3
theorem Znl{S:StV}{zs:List Zon}{ss:List Sgn}(hL:ZkT S zs ss){k:zci}(hk:KB S.m k)(ht:k.tick<100000){p:List Int}(h:Zjt S zs ss k p=true)(h1:p.length<=1)(q:Option Hrd) :
  (znE S q (ZhP S zs ss k (Pl.vU p 0))).1.ego.vhi=0:=by
 obtain⟨hne,_⟩:=ZnC h;obtain⟨a,rfl⟩:∃a,p=[a]:=by
  match p,hne,h1 with
  |[],hne,_=>exact absurd rfl hne
  |[a],_,_=>exact⟨a,rfl⟩
  |a::b::t,_,h1=>simp at h1
 rw[ZmO];obtain⟨k1,_⟩:=hk.step (zs:=zs) (ss:=ss) hL.ok ht a;have h:=(zUm ..).1 h;obtain⟨_,_,h3,_,h5⟩:=h;have hi:=(ZkZ k1.nd q).ego.vhi;have hge:=(k1.nd.Bl q).1.j.ego.v;unfold zKr at h3 h5;split at h3
 ·rename_i hwy;rw[if_pos hwy]at h5;unfold zLQ zKr at h5;simp only[jk,decide_eq_true_eq]at h5;have e:(ZhP S zs ss k a).ego.vhi=0:=h5.1;omega
 ·cases h3
theorem Zkn(kQ:Int)(ok:List Int->Bool):∀(t:List (List Int)) (i:Nat),0<=(zK5 kQ ok t i).1->∃j,j<t.length/\(zK5 kQ ok t i).1=((i+j:Nat):Int)/\ok (t.getD j [])=true
 |[],i,h=>by simp[zK5]at h
 |p::t,i,h=>by
  unfold zK5 at h ⊢;split
  ·rename_i c;rw[if_pos c]at h;simp at h
  ·rename_i c;rw[if_neg c]at h;split
   ·rename_i c2;exact⟨0,by simp,by simp,by simpa using c2⟩
   ·rename_i c2;rw[if_neg c2]at h;obtain⟨j,h1,h2,h3⟩:=Zkn kQ ok t (i+1) h;exact⟨j+1,by simp;omega,by rw[h2];omega,by simpa using h3⟩
theorem ZkW{S:StV}{zs:List Zon}{ss:List Sgn}(hc:S.car.ok)(d:NdV)(h:0<=(Zkd S zs ss d).1):Zjt S zs ss d.k6 (ZiG S zs ss d).qt=true/\(ZiG S zs ss d).qt.length<=125:=by
 unfold ZiG;simp only[if_pos h];unfold Zkd zOU at h ⊢;obtain⟨j,h1,h2,h3⟩:=Zkn _ _ _ 0 h;unfold zMT;rw[h2,if_neg (by omega),show(((0+j:Nat):Int)).toNat=j by omega];constructor
 ·unfold okC at h3;simp only[jk,decide_eq_true_eq]at h3;obtain⟨⟨h4,h5⟩,h6⟩:=h3;unfold Zjt zOk;rw[if_pos ⟨h4,h5⟩];exact h6
 ·have hl:=fun up hold=>zOt hc (Zh2 d S.car.uW.toNat) d.qD (max 0 (min d.k6.ego.vhi 2000)) up hold (by omega)
  have hm:(zLj S.car (Zh2 d S.car.uW.toNat) d.qD d.k6).getD j []∈zLj S.car (Zh2 d S.car.uW.toNat) d.qD d.k6:=by
   rw[jo,jr h1];exact jf h1
  generalize (zLj S.car (Zh2 d S.car.uW.toNat) d.qD d.k6).getD j []=p at *;simp only[zLj,Pl.yP,jG,qw,or_false]at hm;rcases hm with rfl|rfl|rfl|rfl|rfl|rfl|rfl|rfl
  ·have:=hl 6 4;omega
  ·have:=hl 6 0;omega
  ·have:=hl 3 4;omega
  ·have:=hl 3 0;omega
  ·have:=hl 1 4;omega
  ·have:=hl 1 0;omega
  ·have:=hl 0 4;omega
  ·have:=hl 0 0;omega
theorem Zku(p:List Int):(Pl.vI p).length=if 1<p.length then p.length-1 else p.length:=by
 unfold Pl.vI;split<;>simp
def Zju(h:Hrd):List Ent:=[⟨0,0,h⟩]
def Zlb(h:Hrd):Prop:=h.ku=[]/\h.qf=[]/\∀s∈h.qk,s.pts=[]
theorem ZjS{S:StV}:∀(l:List zZP) (k:zci),(∀s∈l,s.pts=[])->(ZiH S l (k,true)).2=true
 |[],k,_=>rfl
 |x::l,k,h=>by
  have e:ZiH S (x::l) (k,true)=ZiH S l (Zhv S (Zib S.m k x),true):=by
   show ZiH S l (Zhv S (Zib S.m k x),true&&ZiS S.m (Zhv S (Zib S.m k x)) x.pts)=_;rw[h x (jq ..)];rfl
  rw[e];exact ZjS l _ fun s hs=>h s (js _ hs)
theorem Zkg{S:StV}{h:Hrd}(q:Zlb h)(k:zci):(znE S (some h) k).2=true:=by
 obtain⟨h1,h2,h3⟩:=q;unfold znE;simp only[h1,h2];exact ZjS h.qk (Zhv S k) h3
def knN(S:StV)(zs:List Zon)(ss:List Sgn)(l:List Int)(k:zci):zci:=l.foldl (fun k a=>Zhv S (ZhP S zs ss k a)) k
theorem ZnZ{S:StV}{zs:List Zon}{ss:List Sgn}{es:List Ent}(hes:∀t,1<=t->znB t es=none):∀(l:List Int) (k:zci) (b:Bool),0<=k.tick->chN S zs ss es l (k,b)=(knN S zs ss l k,b)
 |[],k,b,_=>rfl
 |a::l,k,b,h=>by
  have ih:=ZnZ (S:=S) (zs:=zs) (ss:=ss) hes l (Zhv S (ZhP S zs ss k a)) b (by show 0<=k.tick+1;omega);show chN S zs ss es l ((znE S (znB (k.tick+1) es) (ZhP S zs ss k a)).1,b&&(znE S (znB (k.tick+1) es) (ZhP S zs ss k a)).2)=_;rw[hes _ (by omega)];show chN S zs ss es l (Zhv S (ZhP S zs ss k a),b&&true)=_;rw[Bool.and_true,ih];rfl
theorem ZkY(S:StV)(zs:List Zon)(ss:List Sgn)(l:List Int)(a:Int)(k:zci):knN S zs ss (l++[a]) k=Zhv S (ZhP S zs ss (knN S zs ss l k) a):=by
 unfold knN;rw[List.foldl_append];rfl
structure Sil(S:StV)(zs:List Zon)(ss:List Sgn)(h:Hrd)(i:Int)(d:NdV)(g:RgV)(es:List Ent):Prop where
 nd:Zk7 S d g es 1
 now:d.now=i
 pos:1<=i
 ets:(es=Zju h/\g.kh.tick=0)\/(es=[]/\0<g.kh.tick)
 kn:knN S zs ss g.jP (znE S (znB g.kh.tick es) g.kh).1=Zhv S (ZhP S zs ss d.k6 d.qD)
 kb:KB S.m d.k6
 tick:d.k6.tick=i-1
 ver:Zjt S zs ss d.k6 d.told=true
 qD:d.qD=Pl.vU d.told 0
 qt:d.qt=Pl.vI d.told
 len:d.told.length<=125
 last:d.last=0
 mode:d.mode=if S.k7<i-1 then 2 else 1
 short:S.k7<i-1->(d.told.length:Int)<=max 1 (125-(i-1-S.k7))
 stand:S.k7+125<=i-1->d.k6.ego.vhi=0
 ini:g.ini=false
theorem Znr{h:Hrd}{t:Int}(ht:1<=t):znB t (Zju h)=none:=by
 unfold Zju znB;rw[if_neg (by simp only;omega)];rfl
def ksQ(es:List Ent):List Int:=es.map Ent.key
theorem ZnY{h:Hrd}{t:Int}:Zh0 t [0] (Zju h)=if 0<t then [] else Zju h:=by
 unfold Zh0;simp only[jO,AZ];split
 ·simp[ZjP,ZiR,Zju]
 ·rfl
theorem Sil.go{S:StV}{zs:List Zon}{ss:List Sgn}{h:Hrd}(hq:Zlb h)(hL:ZkT S zs ss){i:Int}{d:NdV}{g:RgV}{es:List Ent}(H:Sil S zs ss h i d g es) :
  ((Zh0 (Zhl S zs ss es g).kh.tick (ksQ es) es=Zju h/\(Zhl S zs ss es g).kh.tick=0)\/(Zh0 (Zhl S zs ss es g).kh.tick (ksQ es) es=[]/\0<(Zhl S zs ss es g).kh.tick)) /\
  knN S zs ss (Zhl S zs ss es g).jP (znE S (znB (Zhl S zs ss es g).kh.tick (Zh0 (Zhl S zs ss es g).kh.tick (ksQ es) es)) (Zhl S zs ss es g).kh).1=Zhv S (ZhP S zs ss d.k6 d.qD) /\
  Zkz S zs ss (Zhl S zs ss es g) (Zh0 (Zhl S zs ss es g).kh.tick (ksQ es) es)=(Zhv S (ZhP S zs ss d.k6 d.qD),true):=by
 obtain⟨hg,ha,hk,C7,hfew,Ce,yk,Di⟩:=H.nd;have h0:=hk.nd.t;have hkn:=H.kn;have key:∀(g':RgV) (es':List Ent),0<=g'.kh.tick->(∀t,1<=t->znB t es'=none)->(znE S (znB g'.kh.tick es') g'.kh).2=true->(znE S (znB g'.kh.tick es') g'.kh).1.tick=g'.kh.tick ->
   Zkz S zs ss g' es'=(knN S zs ss g'.jP (znE S (znB g'.kh.tick es') g'.kh).1,true):=fun g' es' a1 a2 a3 a4=>by
  unfold Zkz;rw[show znE S (znB g'.kh.tick es') g'.kh=((znE S (znB g'.kh.tick es') g'.kh).1,(znE S (znB g'.kh.tick es') g'.kh).2) from rfl,a3,ZnZ a2 _ _ _ (by rw[a4];exact a1)]
 unfold Zhl;by_cases c:g.na=5
 ·rw[if_pos c];have hi:g.ini=false:=by
   cases hi:g.ini with
   |false=>rfl
   |true=>have:=hg.ini hi;omega
  obtain⟨b1,b2,b3,b4,b5,b6⟩:=Zj0 (zs:=zs) (ss:=ss) hL.ok (by omega) (by omega) hi hk (by omega) es;have e:Zh0 (Zh9 S zs ss es g).kh.tick (ksQ es) es=[]:=by
   rcases H.ets with⟨rfl,q⟩ |⟨rfl,q⟩
   ·show Zh0 _ [0] (Zju h)=_;rw[ZnY,if_pos (by omega)]
   ·rfl
  rw[e];have hk2:knN S zs ss (Zh9 S zs ss es g).jP (znE S (znB (Zh9 S zs ss es g).kh.tick []) (Zh9 S zs ss es g).kh).1=Zhv S (ZhP S zs ss d.k6 d.qD):=by
   rw[<-hkn];have hacts:g.jP=g.s0::g.jP.tail:=by
    have:=ZkB (g:=g) (by omega) (i:=0) (by omega);rw[vE]at this;rw[<-List.drop_one];exact this
   rw[b3,b4]
   conv=>rhs;rw[hacts]
   rfl
  refine⟨.inr ⟨rfl,by omega⟩,hk2,?_⟩;rw[key _ [] (by omega) (fun t _=>rfl) rfl rfl,hk2]
 ·rw[if_neg c];rcases H.ets with⟨rfl,q⟩ |⟨rfl,q⟩
  ·have e:Zh0 g.kh.tick (ksQ (Zju h)) (Zju h)=Zju h:=by
    show Zh0 _ [0] (Zju h)=_;rw[ZnY,if_neg (by omega)]
   rw[e];refine⟨.inl ⟨rfl,q⟩,hkn,?_⟩;have hf:znB g.kh.tick (Zju h)=some h:=by rw[q];rfl
   rw[key g _ (by omega) (fun t ht=>Znr ht) (by rw[hf];exact Zkg hq _) (hk.Bl _).2,hkn]
  ·refine⟨.inr ⟨rfl,q⟩,hkn,?_⟩;show Zkz S zs ss g []=_;rw[key g _ (by omega) (fun t ht=>rfl) rfl (hk.Bl _).2,hkn]
set_option maxRecDepth 100000
open Go Go.Eng Go.PlanLaw
abbrev kM(b0 b1:List Cl)(v0 v1:Nat)(c:Int)(es:List Ent)(u:Nat)(T:List (Option Blk)):Mem:=bxv v0 2 b0::bxv v1 1 b1::bx 1 [.map 3 true]::mpB c es u::T
theorem rg2:List.range 2=[0,1]:=rfl
theorem rg4:List.range 4=[0,1,2,3]:=rfl
abbrev kI(v:Nat)(l:List Cl):Option Blk:=some { box:=true,esz:=1,rows:=[l],gen:=0,fz:=false,ver:=v }
abbrev kE:Env:=[(5,.w (.c (.mit 4))),(0,.w (.c (.yld 0 Zhn [(2,false,1)])))]
abbrev kE':Env:=[(7,.w (Bo false)),(0,.w (.c (.yld 0 Zhn [(2,false,1)]))),(5,.w (.c (.mit 4)))]
theorem kl0(c:Int)(u:Nat):Y L Cs Zht (some [5,0]) 5 kE (kM [I 0,.ptr 1 0 0 0] [.jb] 0 0 c [] u [kI 0 [.map 3 true,I c]])=some (.exit 0,kE',(kM [I 0,.ptr 1 0 0 0] [.jb] 0 0 c [] u [kI 0 [.map 3 true,I c]])):=by
 have m1:=Zia (M:=kM [I 0,.ptr 1 0 0 0] [.jb] 0 0 c [] u [kI 0 [.map 3 true,I c]]) (id:=3) rfl;rw[ZfM Zht.eq_1];simp[zmG,zil,m1,zAl]
theorem yl1:R L Cs Zhn [.c (.yld 0 Zhn [(2,false,1)]),W 0] [bx 2 [I 0,.ptr 1 0 0 0],bx 1 [.jb]]=some (.w (Bo true),[bxv 2 2 [I 0,.ptr 1 0 0 0],bxv 1 1 [.slice 2 1 1 0 1 none],some (own 1 [[I 0]])]):=zah.2 ⟨60,by kernel_rfl⟩
theorem kl2(h:Hrd)(u:Nat):Y L Cs Zht (some [5,0]) 5 kE (kM [I 0,.ptr 1 0 0 0] [.slice 5 1 1 0 1 none] 2 1 1 (Zju h) u [kI 1 [.map 3 true,I 1,I 0,I 1],some (own 1 [[I 0]])])=some (.exit 0,kE',kM [I 0,.ptr 1 0 0 0] [.slice 5 1 1 0 1 none] 2 1 1 (Zju h) u [kI 1 [.map 3 true,I 1,I 0,I 1],some (own 1 [[I 0]])]):=by
 have m1:=Zia (M:=kM [I 0,.ptr 1 0 0 0] [.slice 5 1 1 0 1 none] 2 1 1 (Zju h) u [kI 1 [.map 3 true,I 1,I 0,I 1],some (own 1 [[I 0]])]) (id:=3) rfl;simp[Zju,Zly]at m1;rw[ZfM Zht.eq_1];simp[zmG,zil,m1,zAl,Zju,Zly]
theorem kl1(h:Hrd)(u:Nat):Y L Cs Zht (some [5,0]) 5 kE (kM [I 0,.ptr 1 0 0 0] [.jb] 0 0 1 (Zju h) u [kI 0 [.map 3 true,I 1]])=some (.exit 0,kE',kM [I 0,.ptr 1 0 0 0] [.slice 5 1 1 0 1 none] 2 1 1 (Zju h) u [kI 1 [.map 3 true,I 1,I 0,I 1],some (own 1 [[I 0]])]):=by
 have m1:=Zia (M:=kM [I 0,.ptr 1 0 0 0] [.jb] 0 0 1 (Zju h) u [kI 0 [.map 3 true,I 1]]) (id:=3) rfl;have m2:=Zia (M:=kM [I 0,.ptr 1 0 0 0] [.jb] 0 0 1 (Zju h) u [kI 1 [.map 3 true,I 1,I 0,I 1]]) (id:=3) rfl;have y:=yl1;have l2:=kl2 h u;simp[Zju,Zly]at m1 m2 l2;rw[ZfM Zht.eq_1];simp[zmG,zil,m1,m2,zAl,Zju,Zly,y,l2]
theorem kq0(c:Int)(u:Nat):R L Cs Zhd [WV.c (Cl.yld 0 Zhn [(2,false,1)]),WV.c (Cl.ptr 2 0 0 0)]
         (kM [I 0,.ptr 1 0 0 0] [.jb] 0 0 c [] u [])=some (.t [],kM [I 0,.ptr 1 0 0 0] [.jb] 0 0 c [] u []):=by
 have m1:=Zia (M:=kM [I 0,.ptr 1 0 0 0] [.jb] 0 0 c [] u [none]) (id:=3) rfl;have h:=kl0 c u;rw[zUa ZiD rfl];simp[Zhy,m1,h]
theorem kq1(h:Hrd)(u:Nat):R L Cs Zhd [WV.c (Cl.yld 0 Zhn [(2,false,1)]),WV.c (Cl.ptr 2 0 0 0)]
         (kM [I 0,.ptr 1 0 0 0] [.jb] 0 0 1 (Zju h) u [])=some (.t [],kM [I 0,.ptr 1 0 0 0] [.slice 4 1 1 0 1 none] 2 1 1 (Zju h) u [some (own 1 [[I 0]])]):=by
 have m1:=Zia (M:=kM [I 0,.ptr 1 0 0 0] [.jb] 0 0 1 (Zju h) u [none]) (id:=3) rfl;have h:=kl1 h u;simp[kM,kI,kE,kE',mpB,Zju,Zly]at m1 h;rw[zUa ZiD rfl];simp[Zhy,kM,kI,mpB,m1,h,Zju,Zly,rg4]
open Go.Eng.Ins in
theorem Zz9e:Zhp=fF false none 2 13 [(.slot 4)] (sQ (rH 2 4 [x 2 0 1 0,o (.kq 1 1)] [1,4,2]) (sQ (sQ (rH 0 6 [m 1] [4,6,2]) (.block 0 (.rng (.s 6) 3474 [2]))) (sQ (rH 0 12 [l 2,q 4 12] [4]) .ret))):=by kernel_rfl
theorem ka0(c:Int)(u:Nat):R L Cs Zh7 [.c .jb,.c (.fn Zhd [] [.ptr 0 0 0 0])] [bx 1 [.map 1 true],mpB c [] u]=some (.w (.c .jb),[bx 1 [.map 1 true],mpB c [] u]):=by
 have h:=kq0 c u;rw[zUa Zh8 rfl];simp[kM,kI,mpB,Zju,Zly]at h;simp[Zz9e,zNb,zeN,ghost,kM,mpB,Zju,Zly,h,show Zhn≠Zhd by decide,Eng.kL,Eng.vj,Eng.v9,Eng.look,rg2]
theorem ka1(h:Hrd)(u:Nat):R L Cs Zh7 [.c .jb,.c (.fn Zhd [] [.ptr 0 0 0 0])] [bx 1 [.map 1 true],mpB 1 (Zju h) u]=some (.w (.c (sl 2 1 [[I 0]])),[bx 1 [.map 1 true],mpB 1 (Zju h) u,some (own 1 [[I 0]])]):=by
 have h:=kq1 h u;rw[zUa Zh8 rfl];simp[kM,kI,mpB,Zju,Zly]at h;simp[Zz9e,zNb,zeN,ghost,kM,mpB,Zju,Zly,h,show Zhn≠Zhd by decide,Eng.kL,Eng.vj,Eng.v9,Eng.look,rg2]
theorem sort0:R L Cs zmO [.c .jb] []=some (.t [],[]):=zah.2 ⟨60,by kernel_rfl⟩
theorem sort1:R L Cs zmO [.c (sl 0 1 [[I 0]])] [some (own 1 [[I 0]])]=some (.t [],[some (own 1 [[I 0]])]):=zah.2 ⟨60,by kernel_rfl⟩
theorem kc0(c:Int)(u:Nat):R L Cs Zii [.c (.fn Zhd [] [.ptr 0 0 0 0])] [bx 1 [.map 1 true],mpB c [] u]=some (.w (.c .jb),[bx 1 [.map 1 true],mpB c [] u]):=by
 have h:=ka0 c u;rw[zUa Zip rfl];simp[mpB,Zju,Zly]at h;simp[Zhu,mpB,Zju,Zly,h,rg2]
theorem kc1(h:Hrd)(u:Nat):R L Cs Zii [.c (.fn Zhd [] [.ptr 0 0 0 0])] [bx 1 [.map 1 true],mpB 1 (Zju h) u]=some (.w (.c (sl 2 1 [[I 0]])),[bx 1 [.map 1 true],mpB 1 (Zju h) u,some (own 1 [[I 0]])]):=by
 have h:=ka1 h u;rw[zUa Zip rfl];simp[mpB,Zju,Zly]at h;simp[Zhu,mpB,Zju,Zly,h,rg2]
theorem ZkF(c:Int):ZjC c [] []:=fun u=>by
 have h:=kc0 c u;have h2:=sort0;rw[zUa Ziu rfl];simp[mpB]at h;simp[Zhw,mpB,h,h2,rg2]
theorem ZnD(h:Hrd):ZjC 1 (Zju h) [0]:=fun u=>by
 have h:=kc1 h u;have h2:=sort1;rw[zUa Ziu rfl];simp[mpB,Zju,Zly]at h;simp at h2;simp[Zhw,mpB,h,h2,Zju,Zly,rg2]
set_option maxRecDepth 10000
open Go Go.Eng Go.PlanLaw
theorem ZkU{S:StV}{zs:List Zon}{ss:List Sgn}{k:zci}{p:List Int}(h:Zjt S zs ss k p=true):qM S.car p=0:=by
 unfold Zjt at h;exact((zUm ..).1 h).2.1
theorem Zlj{S:StV}{zs:List Zon}{ss:List Sgn}(hL:ZkT S zs ss)(d:NdV)(K:zci)(hv:Zjt S zs ss K d.qt=true)(hl:d.qt.length<=125) :
  Zjt S zs ss K (goN S zs ss d K).qt=true/\(goN S zs ss d K).qt.length<=125/\(goN S zs ss d K).last=d.last/\(goN S zs ss d K).now=d.now/\(goN S zs ss d K).k6=K/\(goN S zs ss d K).mode=(if S.k7<d.now-d.last then 2 else d.mode) /\
  ((goN S zs ss d K).mode≠1->(goN S zs ss d K).qt=d.qt):=by
 unfold goN;split
 ·rename_i hm;have hm':(if S.k7<d.now-d.last then 2 else d.mode)=1:=hm;have base:(ZiG S zs ss (ZiF S { d with k6:=K })).last=d.last/\(ZiG S zs ss (ZiF S { d with k6:=K })).now=d.now/\(ZiG S zs ss (ZiF S { d with k6:=K })).k6=K/\(ZiG S zs ss (ZiF S { d with k6:=K })).mode=(if S.k7<d.now-d.last then 2 else d.mode):=⟨rfl,rfl,rfl,rfl⟩;have hp:Zjt S zs ss K (ZiG S zs ss (ZiF S { d with k6:=K })).qt=true/\(ZiG S zs ss (ZiF S { d with k6:=K })).qt.length<=125:=by
   by_cases hf:0<=(Zkd S zs ss (ZiF S { d with k6:=K })).1
   ·exact ZkW hL.ok.car _ hf
   ·have e:(ZiG S zs ss (ZiF S { d with k6:=K })).qt=d.qt:=by
     unfold ZiG;simp only[if_neg hf];rfl
    rw[e];exact⟨hv,hl⟩
  obtain⟨b1,b2,b3,b4⟩:=base;exact⟨hp.1,hp.2,b1,b2,b3,b4,fun q=>absurd (b4.trans hm') q⟩
 ·exact⟨hv,hl,rfl,rfl,rfl,rfl,fun _=>rfl⟩
theorem ZnE{h:Hrd}{c:Int}{es:List Ent}(hc:c=1)(he:es=Zju h\/es=[]):ZjC c es (ksQ es):=by
 subst hc;rcases he with rfl|rfl
 ·exact ZnD h
 ·exact ZkF 1
theorem Znk{h:Hrd}{es:List Ent}(he:es=Zju h\/es=[]):(ksQ es).length<=1000:=by
 rcases he with rfl|rfl<;>simp[ksQ,Zju]
theorem Sil.tick1{S:StV}{zs:List Zon}{ss:List Sgn}{h:Hrd}(hq:Zlb h)(hL:ZkT S zs ss){i:Int}{d:NdV}{g:RgV}{es:List Ent}(H:Sil S zs ss h i d g es)(hi:i<80000)(v w u:Nat) :
  ∃x d' g' es' v' w' u',Sil S zs ss h (i+1) d' g' es'/\(v<v'/\w<w'/\(u'=u->es'=es))/\R L Cs Zh5 [Pt 0,.a (inC ⟨i,[],[],[]⟩)] (ndM S d g 1 es v w u)=some (.t [W x,W 0],ndM S d' g' 1 es' v' w' u'):=by
 have he:es=Zju h\/es=[]:=H.ets.elim (fun q=>.inl q.1) (fun q=>.inr q.1);obtain⟨G1,G3,G2⟩:=H.go hq hL;have hs:=hL.ok.sil;have e2:hrN S zs ss d g 1 es (ksQ es) ⟨i,[],[],[]⟩=(d,(1,Zh0 (Zhl S zs ss es g).kh.tick (ksQ es) es)):=rfl;obtain⟨v',w',u',hvw,hes2,hR⟩:=Zlp hL.ok H.nd (by decide) 1 v w u (ksQ es) (ZnE rfl he) (Znk he) (x:=⟨i,[],[],[]⟩) ⟨by simp,by simp,by simp,fun y hy=>by cases hy⟩ ⟨by simp,by simp,by simp⟩ H.now.symm e2 G2;obtain⟨r1,r2,r3,r4,r5⟩:=ZkX (zs:=zs) (ss:=ss) hL.ok H.nd;have hkt:=H.tick;have C7:=H.now;have yk:=H.last;have hmode:=H.mode;have uy:=H.pos;have hver:Zjt S zs ss (Zhv S (ZhP S zs ss d.k6 d.qD)) d.qt=true:=by
  have:=ZnB hL H.kb (by omega) H.ver none;rw[<-H.qD,<-H.qt]at this;exact this
 have hpl:d.qt.length<=125:=by
  have:=H.len;rw[H.qt,Zku];split<;>omega
 have hst:d.told.length<=1->(Zhv S (ZhP S zs ss d.k6 d.qD)).ego.vhi=0:=fun q=>by
  have:=Znl hL H.kb (by omega) H.ver q none;rw[<-H.qD]at this;exact this
 have hK1:=H.kb.step (zs:=zs) (ss:=ss) hL.ok (by omega) d.qD;have hK2:KB S.m (Zhv S (ZhP S zs ss d.k6 d.qD))/\(Zhv S (ZhP S zs ss d.k6 d.qD)).tick=d.k6.tick+1:=by
  obtain⟨a,b⟩:=hK1.1.Bl (S:=S) none;exact⟨a,b.trans hK1.2⟩
 generalize Zhv S (ZhP S zs ss d.k6 d.qD)=K at *;obtain⟨p1,p2,p3,p4,p5,p6,p7⟩:=Zlj hL d K hver hpl;have Ba:=H.ets;generalize hes':Zh0 (Zhl S zs ss es g).kh.tick (ksQ es) es=es' at *;have Ce:EsN 1 es':=by rw[<-hes'];exact H.nd.ents.fgt _ _
 generalize Zhl S zs ss es g=g1 at *;obtain⟨a1,a2,a3,a4,a5⟩:=ZjF r2 (Pl.vU (goN S zs ss d K).qt 0);have Cr:=H.short;have Di:=H.qt;have htail:d.qt.length=if 1<d.told.length then d.told.length-1 else d.told.length:=by rw[Di,Zku]
 refine⟨_,ZjL (goN S zs ss d K),ZhJ g1 (Pl.vU (goN S zs ss d K).qt 0),es',v',w',u',?_,⟨hvw.1,hvw.2.1,fun q=>(hvw.2.2.2 q).2⟩,hR⟩;refine⟨⟨a4,?_,by rw[a3];exact r4,?_,?_,Ce,?_,?_⟩,?_,by omega,?_,?_,?_,?_,?_,rfl,rfl,p2,?_,?_,?_,?_,a5⟩
 ·intro a ha;rw[a1]at ha;rcases jB.1 ha with ha|ha
  ·exact r3 a ha
  ·rw[jt.1 ha];exact zGU (zNC (ZkU p1)).1 0
 ·show(goN S zs ss d K).now+1=_;rw[a3,a2,p4]
  push_cast
  omega
 ·show(goN S zs ss d K).now+1<=90000;rw[p4];omega
 ·have e:(ZjL (goN S zs ss d K)).last=0:=p3.trans yk;rw[e];omega
 ·show(Pl.vI (goN S zs ss d K).qt).length<=900;rw[Zku];split<;>omega
 ·show(goN S zs ss d K).now+1=i+1;rw[p4,C7]
 ·rw[a3];exact G1
 ·show knN S zs ss (ZhJ g1 _).jP _=Zhv S (ZhP S zs ss (goN S zs ss d K).k6 (Pl.vU (goN S zs ss d K).qt 0));rw[a1,ZkY,a3,p5,G3]
 ·show KB S.m (goN S zs ss d K).k6;rw[p5];exact hK2.1
 ·show(goN S zs ss d K).k6.tick=_;rw[p5,hK2.2];omega
 ·show Zjt S zs ss (goN S zs ss d K).k6 (goN S zs ss d K).qt=true;rw[p5];exact p1
 ·show(goN S zs ss d K).last=0;rw[p3,yk]
 ·show(goN S zs ss d K).mode=_;rw[p6,hmode,C7,yk];split<;>split<;>first |rfl |(split<;>omega) |omega
 ·intro hsi;show((goN S zs ss d K).qt.length:Int)<=_;have hm2:(goN S zs ss d K).mode=2:=by rw[p6,if_pos (by omega)]
  rw[p7 (by rw[hm2];decide),htail];have hln:=H.len;by_cases c:S.k7<i-1
  ·have:=Cr c;split<;>omega
  ·split<;>omega
 ·intro hsi;show(goN S zs ss d K).k6.ego.vhi=0;rw[p5];have:=Cr (by omega);exact hst (by omega)
theorem Zkt{S:StV}{zs:List Zon}{ss:List Sgn}(hL:ZkT S zs ss)(ht:S.t0=0):Zjt S zs ss (Zhv S ⟨S.t0,zTA 0 S.m.jd,S.e0⟩) [0]=true:=by
 have hB:=hL.be;have hk:=KB.zero hL.ok hB;obtain⟨s1,s2,s3⟩:=hB.s;have CR:=hB.big;have h:=zTU hL.ok.full hL.ok.vJ hB.kind hL.con hL.ok.car (Zhv S ⟨S.t0,zTA 0 S.m.jd,S.e0⟩) hk.nd.chk hB.v hB.far (by show S.t0<_;omega) (by show S.e0.shi<=_;omega) S.sig 0 (jM _) (Ze9 hL.ok.car);unfold Zjt;rw[h,kK,vo];intro p hp q;have:=hB.pas p hp;simp only[jk,decide_eq_true_eq]at q;have e:(Zhv S ⟨S.t0,zTA 0 S.m.jd,S.e0⟩).ego.shi=S.e0.shi:=rfl;omega
theorem Zk9(n:Nat):EsN n []:=fun e he=>by cases he
def Zoc(S:StV)(zs:List Zon)(ss:List Sgn)(y:zZP):NdV:=ZjL (goN S zs ss { nd0 S with last:=0 } (znE S (some ⟨[],[],[y]⟩) (rg0 S).kh).1)
theorem Sil.first{S:StV}{zs:List Zon}{ss:List Sgn}(hL:ZkT S zs ss)(ht:S.t0=0)(y:zZP)(hst:y.uJ=0)(hp:y.pts=[])(hse:y.seen.length<=5000) :
  ∃g' v' w' u',Sil S zs ss ⟨[],[],[y]⟩ 1 (Zoc S zs ss y) g' (Zju ⟨[],[],[y]⟩)/\(4<v'/\0<w'/\u'≠0)/\R L Cs Zh5 [Pt 0,.a (inC ⟨0,[y],[],[]⟩)] (ndM S (nd0 S) (rg0 S) 0 [] 4 0 0)=some (.t [W (Zlu S (Zoc S zs ss y)),W 0],ndM S (Zoc S zs ss y) g' 1 (Zju ⟨[],[],[y]⟩) v' w' u'):=by
 unfold Zoc;have hk:=KB.zero hL.ok hL.be;have hv0:=Zkt hL ht;have hs:=hL.ok.sil;have hr0:ZjQ (rg0 S):=⟨ju _,fun _=>rfl⟩;have hnd:Zk7 S (nd0 S) (rg0 S) [] 1:=by
  refine⟨hr0,fun a ha=>?_,hk,?_,?_,Zk9 1,?_,?_⟩
  ·cases ha
  ·show S.t0=S.t0+0;omega
  ·show S.t0<=90000;omega
  ·show 0<=S.t0/\S.t0<=1099511627776;omega
  ·show 1<=900;decide
 have hq:Zlb ⟨[],[],[y]⟩:=⟨rfl,rfl,fun s hs=>by rw[jt.1 hs];exact hp⟩;have e2:hrN S zs ss (nd0 S) (rg0 S) 0 [] [] ⟨0,[y],[],[]⟩=({ nd0 S with last:=0 },(1,Zju ⟨[],[],[y]⟩)):=by
  show(heD (nd0 S) y,he3 (nd0 S) (0,[]) y)=_;have hc:Zjv (nd0 S) y.uJ=true:=by
   unfold Zjv nd0;simp only[hst,ht];decide
  unfold heD he3;rw[if_pos hc,if_pos hc,hst];have e:max (nd0 S).last 0=0:=by show max S.t0 0=0;omega
  rw[e];rfl
 have eK:Zkz S zs ss (Zhl S zs ss [] (rg0 S)) (Zju ⟨[],[],[y]⟩)=((znE S (some ⟨[],[],[y]⟩) (rg0 S).kh).1,true):=by
  have e:Zkz S zs ss (Zhl S zs ss [] (rg0 S)) (Zju ⟨[],[],[y]⟩)=znE S (znB S.t0 (Zju ⟨[],[],[y]⟩)) (rg0 S).kh:=rfl;rw[e,ht];show znE S (some ⟨[],[],[y]⟩) (rg0 S).kh=_;rw[<-Zkg (S:=S) hq (rg0 S).kh]
 obtain⟨v',w',u',hvw,hes2,hR⟩:=Zlp hL.ok hnd (by decide) 0 4 0 0 [] (ZkF 0) (by decide) (x:=⟨0,[y],[],[]⟩) ⟨by simp,by simp,by simp,fun z hz=>by rw[jt.1 hz,hp];exact⟨hse,by simp⟩⟩ ⟨by simp,by simp,by simp⟩ ht.symm e2 eK;have hfi:=ZkZ (S:=S) hk.nd (some ⟨[],[],[y]⟩);obtain⟨k1,k2⟩:=hk.Bl (S:=S) (some ⟨[],[],[y]⟩);have hv:Zjt S zs ss (znE S (some ⟨[],[],[y]⟩) (rg0 S).kh).1 [0]=true:=zUC hL.ok.full.full hL.wl hfi k1.nd.chk hv0;have hpast:(rg0 S).kh=Zhv S ⟨S.t0,zTA 0 S.m.jd,S.e0⟩:=rfl;have hpt:(rg0 S).kh.tick=0:=ht;have ekk:knN S zs ss [] (znE S (znB (rg0 S).kh.tick (Zju ⟨[],[],[y]⟩)) (rg0 S).kh).1=(znE S (some ⟨[],[],[y]⟩) (rg0 S).kh).1:=by
  rw[hpt];rfl
 rw[<-hpast]at k1 k2;generalize hKdef:(znE S (some ⟨[],[],[y]⟩) (rg0 S).kh).1=K at *;obtain⟨p1,p2,p3,p4,p5,p6,p7⟩:=Zlj hL { nd0 S with last:=0 } K hv (by show 1<=125;decide);have r0:Zhl S zs ss [] (rg0 S)=rg0 S:=rfl;rw[r0]at hR;obtain⟨a1,a2,a3,a4,a5⟩:=ZjF (g:=rg0 S) (ju _) (Pl.vU (goN S zs ss { nd0 S with last:=0 } K).qt 0);have p4':(goN S zs ss { nd0 S with last:=0 } K).now=0:=p4.trans ht;have p3':(goN S zs ss { nd0 S with last:=0 } K).last=0:=p3;have p6':(goN S zs ss { nd0 S with last:=0 } K).mode=1:=by
  rw[p6];show(if S.k7<S.t0-0 then(2:Int) else 1)=1;rw[if_neg (by omega)]
 generalize goN S zs ss { nd0 S with last:=0 } K=d5 at *;refine⟨ZhJ (rg0 S) (Pl.vU d5.qt 0),v',w',u',?_,⟨hvw.1,hvw.2.1,fun q=>?_⟩,hR⟩
 rotate_left
 ·have:=(hvw.2.2.2 q).1;cases this
 refine⟨⟨a4,?_,by rw[a3];exact hk,?_,?_,?_,?_,?_⟩,?_,by decide,?_,?_,?_,?_,?_,rfl,rfl,p2,p3',?_,?_,?_,a5⟩
 ·intro a ha;rw[a1]at ha;rcases jB.1 ha with ha|ha
  ·cases ha
  ·rw[jt.1 ha];exact zGU (zNC (ZkU p1)).1 0
 ·show d5.now+1=_;rw[a3,a2,p4',hpt];rfl
 ·show d5.now+1<=90000;rw[p4'];decide
 ·intro e he;rw[jt.1 he];refine⟨by simp,by simp,by simp,fun x hx=>?_,fun x hx=>?_,fun x hx=>?_⟩
  ·cases hx
  ·cases hx
  ·rw[jt.1 hx,hp];exact⟨hst,hse,by simp⟩
 ·show 0<=d5.last/\d5.last<=1099511627776;rw[p3'];decide
 ·show(Pl.vI d5.qt).length<=900;rw[Zku];split<;>omega
 ·show d5.now+1=1;rw[p4'];rfl
 ·rw[a3];exact .inl ⟨rfl,hpt⟩
 ·show knN S zs ss (ZhJ (rg0 S) _).jP _=Zhv S (ZhP S zs ss d5.k6 (Pl.vU d5.qt 0));rw[a1,ZkY,a3,p5];rw[show(rg0 S).jP=[] from rfl,ekk]
 ·show KB S.m d5.k6;rw[p5];exact k1
 ·show d5.k6.tick=_;rw[p5,k2,hpt];rfl
 ·show Zjt S zs ss d5.k6 d5.qt=true;rw[p5];exact p1
 ·show d5.mode=_;rw[p6',if_neg (by omega)]
 ·intro q;omega
 ·intro q;omega
abbrev ndX(S:StV)(d:NdV)(a b:Nat):List Cl:=[I S.m.version,.jc (S.m.jd.map zo),.jc S.m.qZ,.jc S.m.signals,.jc (S.m.kJ.map zaL),.jc (zu S.r),I S.car.len,I S.car.qV,I S.car.qm,I S.car.vP,I S.car.uW,I S.e0.slo,I S.e0.shi,I S.e0.vlo,I S.e0.vhi,I S.t0,I S.kQ,I S.k7,.bool S.sig,
 I S.m.version,.jc (S.m.jd.map zo),.jc S.m.qZ,.jc S.m.signals,.jc (S.m.kJ.map zaL),.jc (zu S.r),.jc (zu (zW S.m 0 S.r)),I (zmd S.m 0 S.r),I S.car.len,.jc (zu (S.m.jd.map zfn.len)),.jc (zgU (srcs S)),
 I d.now,I d.first,I d.last,I d.mode,.jc (zu d.qt),.ptr a 0 0 0,.map b true,I d.qD,.jc (zu d.told),I d.k6.tick,.jc (zI d.k6.jZ),I d.k6.ego.slo,I d.k6.ego.shi,I d.k6.ego.vlo,I d.k6.ego.vhi,I d.looked]
abbrev CH(x0 q:Int):Option Blk:=some { box:=false,esz:=3,rows:=[[I x0,I 0,I q]],gen:=1,fz:=true,ver:=2 }
abbrev CG(x0 q:Int)(z:Bool)(v:Nat):Option Blk:=some { box:=false,esz:=3,rows:=[[I 0,.jc [[I x0,I 0,I q]],.jc []]],gen:=1,fz:=z,ver:=v }
abbrev lpM(A:List Cl)(x0 q:Int)(S:StV)(d:NdV)(g:RgV)(es:List Ent)(v w u:Nat):Mem:=[bx 12 A,bxv 1 19 (ZlR S),bxv v 46 (ndX S d 3 4),bxv w 12 (rgC 3 g),mpB 1 es u,CH x0 q,CG x0 q true 2]
theorem Zni(A:List Cl)(x0 q:Int){S:StV}{d d':NdV}{g g':RgV}{es es':List Ent}{v v' w w' u u':Nat}(hi:g.ini=false)(hi':g'.ini=false)(h:v<v'/\w<w'/\(u'=u->es'=es))(t x:Int)
  (hR:R L Cs Zh5 [Pt 0,.a (inC ⟨t,[],[],[]⟩)] (ndM S d g 1 es v w u)=some (.t [W x,W 0],ndM S d' g' 1 es' v' w' u')) :
  ∃fp,zx (R L Cs) ⟨true⟩ (.c (.fn Zh5 [] [])) [Pt 2,.a [I t,.jb,.jb,.jb]] (lpM A x0 q S d g es v w u)=some (.t [W x,W 0],lpM A x0 q S d' g' es' v' w' u',fp):=by
 obtain⟨s0,s1,s2,s3,s4,na,ini,p⟩:=g;obtain⟨r0,r1,r2,r3,r4,ma,jni,p'⟩:=g';obtain⟨h1,h2,hu⟩:=h;simp only at hi hi';subst hi;subst hi';have a1:¬v'=v:=by omega
 have a2:¬w'=w:=by omega
 by_cases a3:u'=u
 ·obtain rfl:=hu a3;subst a3;refine⟨.wr [(2,0,whole),(3,0,whole)],?_⟩;simp[ndM,ndC,rgC,mpB,bxv,inC,ZlG,zb]at hR;simp[lpM,ndX,hR,Zly,a1,a2]
 ·refine⟨.wr [(2,0,whole),(3,0,whole),(4,0,whole)],?_⟩;simp[ndM,ndC,rgC,mpB,bxv,inC,ZlG,zb]at hR;simp[lpM,ndX,hR,Zly,a1,a2,a3]
theorem ZlU(A:List Cl)(x0 q:Int){S:StV}{d:NdV}{g:RgV}{es:List Ent}{v w u:Nat}(hi:g.ini=false){f:Nat}{r:AV}(hr:(∃n,r=.w (W n))\/(∃k,r=.w (.a (zG k)))\/(∃y,r=.w (.a (zJ4 y))))
  (hR:R L Cs f [Pt 0] (ndM S d g 1 es v w u)=some (r,ndM S d g 1 es v w u)) :
  zx (R L Cs) ⟨true⟩ (.c (.fn f [] [])) [Pt 2] (lpM A x0 q S d g es v w u)=some (r,lpM A x0 q S d g es v w u,.no):=by
 obtain⟨s0,s1,s2,s3,s4,na,ini,p⟩:=g;simp only at hi;subst hi;rcases hr with⟨n,rfl⟩ |⟨k,rfl⟩ |⟨⟨y1,y2,y3⟩,rfl⟩
 ·simp[ndM,ndC,rgC,mpB,bxv]at hR;simp[lpM,ndX,hR,Zly]
 ·simp[ndM,ndC,rgC,mpB,bxv,zG]at hR;simp[lpM,ndX,hR,Zly,zG]
 ·simp[ndM,ndC,rgC,mpB,bxv,zJ4,zJY]at hR;simp[lpM,ndX,hR,Zly,zJ4,zJY]
abbrev lpE(i:Int):Env:=[(6,.w (Pt 2)),(5,.w (Pt 1)),(9,.w (W i))]
theorem Znj{S:StV}{zs:List Zon}{ss:List Sgn}{h:Hrd}(hq:Zlb h)(hL:ZkT S zs ss)(A:List Cl)(x0 q:Int):∀(f:Nat) (i:Int) (d:NdV) (g:RgV) (es:List Ent) (v w u:Nat),Sil S zs ss h i d g es->i+f=S.k7+151 ->
  ∃d' g' es' v' w' u',Sil S zs ss h (S.k7+151) d' g' es'/\Y L Cs ZhI (some [6,5,9]) 7 (lpE i) (lpM A x0 q S d g es v w u)=some (.exit 0,(59,.w (Bo false))::[(5,.w (Pt 1)),(6,.w (Pt 2)),(9,.w (W (S.k7+151)))],lpM A x0 q S d' g' es' v' w' u')
 |0,i,d,g,es,v,w,u,H,e=>by
  obtain rfl:i=S.k7+151:=by omega
  have hs:=hL.ok.sil;have hw:IntKind.i64.wrap (S.k7+150)=S.k7+150:=zTd _ (by omega) (by omega);have hc:¬S.k7+151<=S.k7+150:=by omega
  have hi:=H.ini;obtain⟨s0,s1,s2,s3,s4,na,ini,p⟩:=g;simp only at hi;subst hi;refine⟨d,_,es,v,w,u,H,?_⟩;rw[ZfM ZhI.eq_1];simp[hw,hc,Zly]
 |f+1,i,d,g,es,v,w,u,H,e=>by
  have hs:=hL.ok.sil;have uy:=H.pos;have hw:IntKind.i64.wrap (S.k7+150)=S.k7+150:=zTd _ (by omega) (by omega);have hc:i<=S.k7+150:=by omega
  obtain⟨x,d1,g1,es1,v1,w1,u1,H1,hv,hR⟩:=H.tick1 hq hL (by omega) v w u;obtain⟨fp,hT⟩:=Zni A x0 q H.ini H1.ini hv i x hR;have hM:=ZlU A x0 q (S:=S) H1.ini (.inl ⟨d1.mode,rfl⟩) (Zmn S d1 g1 1 es1 v1 w1 u1);have hm:d1.mode=if S.k7<i then 2 else 1:=by
   have:=H1.mode;rw[this,show i+1-1=i by omega]
  obtain⟨d',g',es',v',w',u',H',ih⟩:=Znj hq hL A x0 q f (i+1) d1 g1 es1 v1 w1 u1 H1 (by omega);have hws:IntKind.i64.wrap (i+1)=i+1:=zTd _ (by omega) (by omega);refine⟨d',g',es',v',w',u',H',?_⟩;rw[<-ih];rw[hm]at hM;rw[ZfM ZhI.eq_1];by_cases hk:S.k7<i
  ·rw[if_pos hk]at hM;simp[-zx,hw,hc,hT,hM,hk,hws]
  ·rw[if_neg hk]at hM;simp[-zx,hw,hc,hT,hM,hk,hws]
theorem Zn1{S:StV}{zs:List Zon}{ss:List Sgn}(hL:ZkT S zs ss)(A:List Cl)(hA:(A.all fun c=>zBH c==[])=true) :
  ∃fp,zx (R L Cs) ⟨true⟩ (.c (.fn ZlW [] [])) [.a (ZlR S)] [bx 12 A,bxv 1 19 (ZlR S)]=some (.t [Pt 2,W 0],[bx 12 A,bxv 1 19 (ZlR S),bxv 4 46 (ndX S (nd0 S) 3 4),bxv 0 12 (rgC 3 (rg0 S)),mpB 0 [] 0],fp):=by
 have Dd:=Znz hL.ok hL.be;refine⟨.no,?_⟩;simp[ndM,ndC,rgC,mpB,bxv,nd0,rg0,ZlR]at Dd;simp[Dd,ndX,nd0,rg0,ZlR]
theorem ZnO{S:StV}{d':NdV}{g':RgV}{es':List Ent}{v' w' u':Nat}(hi':g'.ini=false)(h:4<v'/\0<w'/\u'≠0)(x0 q x:Int)(A:List Cl)
  (hR:R L Cs Zh5 [Pt 0,.a (inC ⟨0,[⟨0,[⟨x0,0,q⟩],[]⟩],[],[]⟩)] (ndM S (nd0 S) (rg0 S) 0 [] 4 0 0)=some (.t [W x,W 0],ndM S d' g' 1 es' v' w' u')) :
  ∃fp,zx (R L Cs) ⟨true⟩ (.c (.fn Zh5 [] [])) [Pt 2,.a [I 0,.slice 6 1 3 0 1 none,.jb,.jb]] [bx 12 A,bxv 1 19 (ZlR S),bxv 4 46 (ndX S (nd0 S) 3 4),bxv 0 12 (rgC 3 (rg0 S)),mpB 0 [] 0,CH x0 q,CG x0 q false 1] =
   some (.t [W x,W 0],[bx 12 A,bxv 1 19 (ZlR S),bxv v' 46 (ndX S d' 3 4),bxv w' 12 (rgC 3 g'),mpB 1 es' u',CH x0 q,CG x0 q true 2],fp):=by
 obtain⟨r0,r1,r2,r3,r4,ma,jni,p'⟩:=g';simp only at hi';subst hi';have a1:¬v'=4:=by omega
 have a2:¬w'=0:=by omega
 have a3:=h.2.2;refine⟨.wr [(6,0,whole),(2,0,whole),(3,0,whole),(4,0,whole)],?_⟩;simp[ndM,ndC,rgC,mpB,bxv,inC,ZlG,zb,zX6,zWx,zWX,zWs,rg0,nd0]at hR;simp[ndX,hR,Zly,a1,a2,a3,rg0,nd0,CH,CG,zX]
theorem ZnP{S:StV}{d:NdV}{g:RgV}{es:List Ent}{v w u:Nat}(hi:g.ini=false)(A:List Cl)(T:List (Option Blk)) :
  zx (R L Cs) ⟨true⟩ (.c (.fn ZlS [] [])) [Pt 2] (bx 12 A::bxv 1 19 (ZlR S)::bxv v 46 (ndX S d 3 4)::bxv w 12 (rgC 3 g)::mpB 1 es u::T)=some (.w (W d.mode),bx 12 A::bxv 1 19 (ZlR S)::bxv v 46 (ndX S d 3 4)::bxv w 12 (rgC 3 g)::mpB 1 es u::T,.no):=by
 have hR:=Zmn S d g 1 es v w u;obtain⟨s0,s1,s2,s3,s4,na,ini,p⟩:=g;simp only at hi;subst hi;simp[ndM,ndC,rgC,mpB,bxv]at hR;simp[ndX,hR,Zly]
theorem ZnN(A:List Cl)(x0 q:Int){S:StV}{d d':NdV}{g:RgV}{es:List Ent}{v v' w u:Nat}(hi:g.ini=false)(hv:v<v'){f:Nat}{n:Int}
  (hR:R L Cs f [Pt 0] (ndM S d g 1 es v w u)=some (.w (W n),ndM S d' g 1 es v' w u)) :
  ∃fp,zx (R L Cs) ⟨true⟩ (.c (.fn f [] [])) [Pt 2] (lpM A x0 q S d g es v w u)=some (.w (W n),lpM A x0 q S d' g es v' w u,fp):=by
 obtain⟨s0,s1,s2,s3,s4,na,ini,p⟩:=g;simp only at hi;subst hi;have a1:¬v'=v:=by omega
 refine⟨.wr [(2,0,whole)],?_⟩;simp[ndM,ndC,rgC,mpB,bxv]at hR;simp[lpM,ndX,hR,Zly,a1]
theorem Sil.last1{S:StV}{zs:List Zon}{ss:List Sgn}{h:Hrd}(hq:Zlb h)(hL:ZkT S zs ss){i:Int}{d:NdV}{g:RgV}{es:List Ent}(H:Sil S zs ss h i d g es)(hi:i<80000)(v w u:Nat) :
  ∃x d' g' es' v' w' u',d'.mode=1/\g'.ini=false/\(v<v'/\w<w'/\(u'=u->es'=es))/\R L Cs Zh5 [Pt 0,.a (inC ⟨i,[],[],[]⟩)] (ndM S { d with mode:=1,last:=d.now } g 1 es v w u)=some (.t [W x,W 0],ndM S d' g' 1 es' v' w' u'):=by
 have he:es=Zju h\/es=[]:=H.ets.elim (fun q=>.inl q.1) (fun q=>.inr q.1);obtain⟨_,_,G2⟩:=H.go hq hL;have hs:=hL.ok.sil;have C7:=H.now;have uy:=H.pos;have hnd:Zk7 S { d with mode:=1,last:=d.now } g es 1:=by
  obtain⟨n1,n2,n3,n4,n5,n6,n7,n8⟩:=H.nd;refine⟨n1,n2,n3,n4,n5,n6,?_,n8⟩;show 0<=d.now/\d.now<=1099511627776;omega
 have e2:hrN S zs ss { d with mode:=1,last:=d.now } g 1 es (ksQ es) ⟨i,[],[],[]⟩=({ d with mode:=1,last:=d.now },(1,Zh0 (Zhl S zs ss es g).kh.tick (ksQ es) es)):=rfl;obtain⟨v',w',u',hvw,hes2,hR⟩:=Zlp hL.ok hnd (by decide) 1 v w u (ksQ es) (ZnE rfl he) (Znk he) (x:=⟨i,[],[],[]⟩) ⟨by simp,by simp,by simp,fun y hy=>by cases hy⟩ ⟨by simp,by simp,by simp⟩ H.now.symm e2 G2;obtain⟨r1,r2,_⟩:=ZkX (zs:=zs) (ss:=ss) hL.ok H.nd;have hm:=(ZkM (zs:=zs) (ss:=ss) hL.ok (d:={ d with mode:=1,last:=d.now }) H.nd.qt (Zhv S (ZhP S zs ss d.k6 d.qD))).2.2.2.2;refine⟨_,_,_,_,v',w',u',?_,(ZjF r2 _).2.2.2.2,⟨hvw.1,hvw.2.1,fun q=>(hvw.2.2.2 q).2⟩,hR⟩;show(goN S zs ss { d with mode:=1,last:=d.now } (Zhv S (ZhP S zs ss d.k6 d.qD))).mode=1;rw[hm];show(if S.k7<d.now-d.now then(2:Int) else 1)=1;rw[if_neg (by omega)]
theorem ZmT{S:StV}{zs:List Zon}{ss:List Sgn}(hL:ZkT S zs ss)(ht:S.t0=0)(n r dl bu si s sp ln ac br ra span:Int)(sg:Bool)
  (hSet:R L Cs ZlI [.a [I n,I r,I dl,I bu,I si,I s,I sp,I ln,I ac,I br,I ra,.bool sg]] []=some (.w (.a (ZlR S)),[]))
  (hAw:R L Cs ZlH [] []=some (.w (Bo true),[])) :
  R L Cs ZhR [.a [I n,I r,I dl,I bu,I si,I s,I sp,I ln,I ac,I br,I ra,.bool sg],W span] []=some (.w (Bo true),[]):=by
 have hg:=hL.ok.full.full.qR;have hs:=hL.ok.sil;obtain⟨hon,hne,hl8⟩:=zg1 hg hL.ok.vJ;obtain⟨x0,r',hr⟩:∃x t,S.r=x::t:=by cases h:S.r with|nil=>exact absurd h hne|cons x t=>exact⟨x,t,rfl⟩
 have hx0:=hon x0 (by rw[hr];exact jq ..);have hlen:=zcX hg hx0;have hLn:=zEV hg hx0;have hMod:=zD0 span (z8 S.m x0+1) (by omega) (by omega);have w1:IntKind.i64.wrap (z8 S.m x0+1)=z8 S.m x0+1:=zTd _ (by omega) (by omega);obtain⟨g1,v1,w1',u1,H1,hv1,hT1⟩:=Sil.first hL ht ⟨0,[⟨x0,0,span % (z8 S.m x0+1)⟩],[]⟩ rfl rfl (by simp);generalize Zoc S zs ss ⟨0,[⟨x0,0,span % (z8 S.m x0+1)⟩],[]⟩=d1 at *;generalize Zlu S d1=x1 at *;have hq:Zlb ⟨[],[],[⟨0,[⟨x0,0,span % (z8 S.m x0+1)⟩],[]⟩]⟩:=⟨rfl,rfl,fun y hy=>by rw[jt.1 hy]⟩;obtain⟨fp,Dd⟩:=Zn1 hL [I n,I r,I dl,I bu,I si,I s,I sp,I ln,I ac,I br,I ra,.bool sg] rfl;have c1:∀M,zx (R L Cs) ⟨true⟩ (.c (.fn ZlI [] [])) [.a [I n,I r,I dl,I bu,I si,I s,I sp,I ln,I ac,I br,I ra,.bool sg]] M=some (.w (.a (ZlR S)),M,.no):=fun M=>by simp[hSet]
 have c2:∀M,zx (R L Cs) ⟨true⟩ (.c (.fn zDZ [] [])) [.a (zf S.m),W x0] M=some (.w (W (z8 S.m x0)),M,.no):=fun M=>by
  simp only[zf]at hLn;simp[zf,hLn]
 have c3:∀M,zx (R L Cs) ⟨true⟩ (.c (.fn zEd [] [])) [W span,W (z8 S.m x0+1)] M=some (.w (W (span % (z8 S.m x0+1))),M,.no):=fun M=>by simp[hMod]
 have c4:∀M,zx (R L Cs) ⟨true⟩ (.c (.fn ZlH [] [])) [] M=some (.w (Bo true),M,.no):=fun M=>by simp[hAw]
 have DS:0<S.r.length:=by rw[hr];exact Nat.succ_pos _
 have hx0e:S.r[0]=x0:=by simp[hr]
 simp only[zf]at c2;obtain⟨fp1,hT⟩:=ZnO H1.ini hv1 x0 (span % (z8 S.m x0+1)) x1 [I n,I r,I dl,I bu,I si,I s,I sp,I ln,I ac,I br,I ra,.bool sg] hT1;have hM1:=ZnP (S:=S) (d:=d1) (g:=g1) (es:=Zju ⟨[],[],[⟨0,[⟨x0,0,span % (z8 S.m x0+1)⟩],[]⟩]⟩) (v:=v1) (w:=w1') (u:=u1) H1.ini [I n,I r,I dl,I bu,I si,I s,I sp,I ln,I ac,I br,I ra,.bool sg] [CH x0 (span % (z8 S.m x0+1)),CG x0 (span % (z8 S.m x0+1)) true 2];have m1:d1.mode=1:=by
  have:=H1.mode;rw[this,if_neg (by omega)]
 rw[m1]at hM1;obtain⟨N,hN⟩:=jz hs.1;obtain⟨d2,g2,es2,v2,w2,u2,H2,hLp⟩:=Znj hq hL [I n,I r,I dl,I bu,I si,I s,I sp,I ln,I ac,I br,I ra,.bool sg] x0 (span % (z8 S.m x0+1)) (N+150) 1 d1 g1 _ v1 w1' u1 H1 (by push_cast;omega);have hb2:d2.k6.jZ.length<=100000000000:=by have:=H2.kb.nd.len hL.ok;omega
 have hck:=zNC (ZkU H2.ver);have hKn:=ZlU [I n,I r,I dl,I bu,I si,I s,I sp,I ln,I ac,I br,I ra,.bool sg] x0 (span % (z8 S.m x0+1)) (S:=S) H2.ini (.inr (.inl ⟨d2.k6,rfl⟩)) (ZnK (S:=S) d2 g2 1 es2 v2 w2 u2 hb2);have hVe:=ZlU [I n,I r,I dl,I bu,I si,I s,I sp,I ln,I ac,I br,I ra,.bool sg] x0 (span % (z8 S.m x0+1)) (S:=S) H2.ini (.inr (.inr ⟨_,rfl⟩)) (ZmB hL.ok d2 g2 1 es2 v2 w2 u2 hb2 (by have:=hck.2.1;omega) hck.1);have hvh:d2.k6.ego.vhi=0:=H2.stand (by omega);have hm2:d2.mode=2:=by
  have:=H2.mode;rw[this,if_pos (by omega)]
 have hver:(Znm S zs ss d2.k6 d2.told).1=true:=H2.ver;have hrst:Znp S zs ss d2=true:=by
  unfold Znp;rw[hm2,hvh,hver];decide
 have hR1:=ZmP hL.ok d2 g2 1 es2 v2 w2 u2 hb2 (by have:=hck.2.1;omega) hck.1;rw[hrst,if_pos rfl]at hR1;obtain⟨fp2,hRs⟩:=ZnN [I n,I r,I dl,I bu,I si,I s,I sp,I ln,I ac,I br,I ra,.bool sg] x0 (span % (z8 S.m x0+1)) H2.ini (by omega) hR1;have hM3:=ZlU [I n,I r,I dl,I bu,I si,I s,I sp,I ln,I ac,I br,I ra,.bool sg] x0 (span % (z8 S.m x0+1)) (S:=S) H2.ini (.inl ⟨_,rfl⟩) (Zmn S { d2 with mode:=1,last:=d2.now } g2 1 es2 (v2+2) w2 u2);have hR2:=ZmP hL.ok { d2 with mode:=1,last:=d2.now } g2 1 es2 (v2+2) w2 u2 hb2 (by have:=hck.2.1;exact jV this (by decide)) hck.1;have hrst2:Znp S zs ss { d2 with mode:=1,last:=d2.now }=false:=by
  unfold Znp;simp
 rw[hrst2,if_neg (by decide)]at hR2;have hRs2:=ZlU [I n,I r,I dl,I bu,I si,I s,I sp,I ln,I ac,I br,I ra,.bool sg] x0 (span % (z8 S.m x0+1)) (S:=S) H2.ini (.inl ⟨_,rfl⟩) hR2;have hNo:=ZlU [I n,I r,I dl,I bu,I si,I s,I sp,I ln,I ac,I br,I ra,.bool sg] x0 (span % (z8 S.m x0+1)) (S:=S) H2.ini (.inl ⟨_,rfl⟩) (ZnT S { d2 with mode:=1,last:=d2.now } g2 1 es2 (v2+2) w2 u2);obtain⟨x3,d3,g3,es3,v3,w3,u3,hm4,hi3,hv3,hT3⟩:=H2.last1 hq hL (by omega) (v2+2) w2 u2;obtain⟨fp3,hTl⟩:=Zni [I n,I r,I dl,I bu,I si,I s,I sp,I ln,I ac,I br,I ra,.bool sg] x0 (span % (z8 S.m x0+1)) H2.ini hi3 hv3 _ x3 hT3;have hM4:=ZlU [I n,I r,I dl,I bu,I si,I s,I sp,I ln,I ac,I br,I ra,.bool sg] x0 (span % (z8 S.m x0+1)) (S:=S) hi3 (.inl ⟨_,rfl⟩) (Zmn S d3 g3 1 es3 v3 w3 u3);rw[hm4]at hM4;have hnow2:=H2.now;generalize hy:Znm S zs ss d2.k6 d2.told=y at *;obtain⟨y1,y2,y3⟩:=y;simp only at hver;subst hver;simp only at hM3 hRs2 hNo hTl;rw[hnow2]at hNo hM3 hRs hRs2 hTl;rw[zUa ZlQ rfl];simp (maxSteps:=1000000) [-zx,ZhS,c1,Dd,c2,c3,c4,w1,hx0e,DS,zg,zX,zH,hT,hM1,hLp,hKn,hVe,hvh,hRs,hM3,hRs2,hNo,hTl,hM4,zJ4,zJY,zG]
set_option maxRecDepth 100000
open Go Go.Eng Go.PlanLaw
def mpA:zD:=⟨0,[⟨1,[(0,0),(100000,0)],1500,1500,[],100000⟩],[],[],[]⟩
def Zn8:StV:=⟨mpA,[0],⟨4000,20,60,30,0⟩,⟨10000,10000,0,0⟩,0,8,5,true⟩
theorem Zod{l:zfn}(h:l∈mpA.jd):l=⟨1,[(0,0),(100000,0)],1500,1500,[],100000⟩:=jt.1 h
theorem Zoh(a:Int):zS mpA a=[]:=by
 by_cases h:mpA.jd.length<=a.toNat
 ·exact zyt h
 ·have e:a.toNat=0:=by
   have:mpA.jd.length=1:=rfl;omega
  unfold zS;rw[e];rfl
theorem Zor:zcp mpA where
 small:=⟨by decide,fun l h=>by rw[Zod h];decide,fun l h=>by rw[Zod h];intro x hx;cases hx⟩
 chk:=zah.2 ⟨200,by kernel_rfl⟩
 rchk:=zah.2 ⟨200,by kernel_rfl⟩
 len:=fun l h=>by rw[Zod h];exact zah.2 ⟨200,by kernel_rfl⟩
 rlen:=fun l h=>by rw[Zod h];exact zah.2 ⟨200,by kernel_rfl⟩
 CI:=fun l h=>by rw[Zod h];decide
 kind:=fun l h=>by rw[Zod h];exact .inl rfl
 uF:=fun l h=>by rw[Zod h];decide
theorem Zos:zmq mpA [] [] where
 qR:=Zor
 one:=⟨fun l h=>by rw[Zod h];exact⟨0,0,100000,0,rfl,⟨by decide,by decide,zah.2 ⟨400,by kernel_rfl⟩,zah.2 ⟨400,by kernel_rfl⟩,zah.2 ⟨400,by kernel_rfl⟩,zah.2 ⟨400,by kernel_rfl⟩⟩⟩,by decide⟩
 yz:=⟨by decide,fun a=>by rw[Zoh];decide,fun a x h=>(by rw[Zoh]at h;cases h),fun a x h=>(by rw[Zoh]at h;cases h),fun a x h=>(by rw[Zoh]at h;cases h)⟩
 zd:=⟨rfl,rfl,by decide,by decide,fun z h=>(by cases h),fun z h=>(by cases h),fun z h=>(by cases h)⟩
 asc:=fun _ _=>by simp
 nd:=fun z h=>by cases h
 pv:=fun z h=>by cases h
theorem Zok:∀l:List Int,∀a,zKh mpA [] a l=[]
 |[],_=>rfl
 |x::l,a=>by
  unfold zKh;rw[Zok l];rfl
theorem Zol:zKj mpA [] []:=⟨Zos,by decide,by decide,by decide,⟨by kernel_rfl,by kernel_rfl⟩,fun l _=>by rw[Zok];simp[zN1],fun l _=>by rw[Zok];decide⟩
theorem Zoq:ZkT Zn8 [] [] where
 ok:=⟨Zol,by kernel_rfl,by unfold Car.ok Zn8;simp only;omega,by decide,by decide⟩
 be:=⟨⟨rfl,rfl⟩,by decide,by decide,by decide,fun p h=>(by rw[show zKh Zn8.m [] 0 Zn8.r=[] from Zok _ _]at h;cases h),by kernel_rfl,by decide⟩
 con:=fun z h=>by cases h
 wl:=fun w h=>by cases h
abbrev scA:zZP:=⟨0,[⟨0,0,60000⟩],[]⟩
theorem Zoi:R L Cs Zn7 [] []=some (.w (.a (ZlR Zn8)),[]):=zah.2 ⟨200,by kernel_rfl⟩
theorem Zot:Zlu Zn8 (Zoc Zn8 [] [] scA)=20/\(Zoc Zn8 [] [] scA).looked=1/\(Zoc Zn8 [] [] scA).mode=1/\(Zoc Zn8 [] [] scA).now=1:=by
 have h1:decide (Zlu Zn8 (Zoc Zn8 [] [] scA)=20/\(Zoc Zn8 [] [] scA).looked=1/\(Zoc Zn8 [] [] scA).mode=1/\(Zoc Zn8 [] [] scA).now=1)=true:=by kernel_rfl
 exact of_decide_eq_true h1
theorem Zog(S:StV)(d:NdV)(g:RgV)(c:Int)(es:List Ent)(v w u:Nat):R L Cs Zoa [Pt 0] (ndM S d g c es v w u)=some (.w (W d.looked),ndM S d g c es v w u):=by
 have h:=ZkQ S d g c es v w u;obtain⟨s0,s1,s2,s3,s4,n,ini,p⟩:=g;rw[zUa Zob rfl];cases ini<;>simp[ndM,ndC,rgC,mpB,bxv]at h<;>simp[ZiM,h]
abbrev Zom(S:StV)(d:NdV)(g:RgV)(es:List Ent)(v w u:Nat)(x0 q:Int):Mem:=[bxv v 46 (ndX S d 1 2),bxv w 12 (rgC 1 g),mpB 1 es u,CH x0 q,CG x0 q true 2]
theorem Zoe{S:StV}{d:NdV}{g:RgV}{es:List Ent}{v w u:Nat}{x0 q:Int}(hi:g.ini=false){f:Nat}{n:Int}
  (hR:R L Cs f [Pt 0] (ndM S d g 1 es v w u)=some (.w (W n),ndM S d g 1 es v w u)) :
  zx (R L Cs) ⟨true⟩ (.c (.fn f [] [])) [Pt 0] (Zom S d g es v w u x0 q)=some (.w (W n),Zom S d g es v w u x0 q,.no):=by
 obtain⟨s0,s1,s2,s3,s4,na,ini,p⟩:=g;simp only at hi;subst hi;simp[ndM,ndC,rgC,mpB,bxv]at hR;simp[Zom,ndX,hR,Zly]
theorem Zop{S:StV}{zs:List Zon}{ss:List Sgn}(hL:ZkT S zs ss) :
  ∃fp,zx (R L Cs) ⟨true⟩ (.c (.fn ZlW [] [])) [.a (ZlR S)] []=some (.t [Pt 0,W 0],[bxv 4 46 (ndX S (nd0 S) 1 2),bxv 0 12 (rgC 1 (rg0 S)),mpB 0 [] 0],fp):=by
 have Dd:=Znz hL.ok hL.be;refine⟨.no,?_⟩;simp[ndM,ndC,rgC,mpB,bxv,nd0,rg0,ZlR]at Dd;simp[Dd,ndX,nd0,rg0,ZlR]
theorem Zoo{S:StV}{d':NdV}{g':RgV}{es':List Ent}{v' w' u':Nat}(hi':g'.ini=false)(h:4<v'/\0<w'/\u'≠0)(x0 q x:Int)
  (hR:R L Cs Zh5 [Pt 0,.a (inC ⟨0,[⟨0,[⟨x0,0,q⟩],[]⟩],[],[]⟩)] (ndM S (nd0 S) (rg0 S) 0 [] 4 0 0)=some (.t [W x,W 0],ndM S d' g' 1 es' v' w' u')) :
  ∃fp,zx (R L Cs) ⟨true⟩ (.c (.fn Zh5 [] [])) [Pt 0,.a [I 0,.slice 4 1 3 0 1 none,.jb,.jb]] [bxv 4 46 (ndX S (nd0 S) 1 2),bxv 0 12 (rgC 1 (rg0 S)),mpB 0 [] 0,CH x0 q,CG x0 q false 1] =
   some (.t [W x,W 0],Zom S d' g' es' v' w' u' x0 q,fp):=by
 obtain⟨r0,r1,r2,r3,r4,ma,jni,p'⟩:=g';simp only at hi';subst hi';have a1:¬v'=4:=by omega
 have a2:¬w'=0:=by omega
 have a3:=h.2.2;refine⟨.wr [(4,0,whole),(0,0,whole),(1,0,whole),(2,0,whole)],?_⟩;simp[ndM,ndC,rgC,mpB,bxv,inC,ZlG,zb,zX6,zWx,zWX,zWs,rg0,nd0]at hR;simp[ndX,hR,Zly,a1,a2,a3,rg0,nd0,CH,CG,zX]
theorem Zoj:R L Cs ZlH [] []=some (.w (Bo true),[]):=by
 obtain⟨g1,v1,w1,u1,H1,hv1,hT1⟩:=Sil.first Zoq rfl scA rfl rfl (by decide);obtain⟨f1,f2,f3,f4⟩:=Zot;generalize Zoc Zn8 [] [] scA=d1 at *;rw[f1]at hT1;have c1:zx (R L Cs) ⟨true⟩ (.c (.fn Zn7 [] [])) [] []=some (.w (.a (ZlR Zn8)),[],.no):=by simp[Zoi]
 obtain⟨fp,hN⟩:=Zop Zoq;obtain⟨fp1,hT⟩:=Zoo H1.ini hv1 0 60000 20 hT1;have hL:=Zoe (S:=Zn8) (x0:=0) (q:=60000) H1.ini (Zog Zn8 d1 g1 1 (Zju ⟨[],[],[scA]⟩) v1 w1 u1);have hM:=Zoe (S:=Zn8) (x0:=0) (q:=60000) H1.ini (Zmn Zn8 d1 g1 1 (Zju ⟨[],[],[scA]⟩) v1 w1 u1);have hW:=Zoe (S:=Zn8) (x0:=0) (q:=60000) H1.ini (ZnT Zn8 d1 g1 1 (Zju ⟨[],[],[scA]⟩) v1 w1 u1);rw[f2]at hL;rw[f3]at hM;rw[f4]at hW;rw[zUa Zn9 rfl];simp (maxSteps:=400000) [-zx,Zin,c1,hN,hT,hL,hM,hW,zg,zX,zH]
theorem ZnL.law{m:zD}{zs:List Zon}{ss:List Sgn}(hM:ZnL m zs ss){k:Int}(hk:k=0\/zaK m ((zDT m k).headD 0)=1)(bu si dl s sp ln ac br ra:Int)(sg:Bool):ZkT (Zns m k bu si dl s sp ln ac br ra sg) zs ss:=by
 obtain⟨h1,h2⟩:=ZnR hM hk bu si dl s sp ln ac br ra sg;exact⟨h1,h2,fun z hz=>hM.con _ h1.vJ z hz,hM.wl⟩
theorem ZnG(hAw:R L Cs ZlH [] []=some (.w (Bo true),[]))(n r dl bu si s sp ln ac br ra span:Int)(sg:Bool) :
  R L Cs ZhR [.a [I n,I r,I dl,I bu,I si,I s,I sp,I ln,I ac,I br,I ra,.bool sg],W span] []=some (.w (Bo true),[]):=by
 obtain⟨m,zs,ss,k,hM,hk,hS⟩:=ZnS n r dl bu si s sp ln ac br ra sg;exact ZmT (hM.law hk bu si dl s sp ln ac br ra sg) rfl n r dl bu si s sp ln ac br ra span sg hS hAw
abbrev Zng:Sh:=.st [zmN,zmN,zmN,zmN,zmN,zmN,zmN,zmN,zmN,zmN,zmN,.bool]
theorem ZmQ(hAw:R L Cs ZlH [] []=some (.w (Bo true),[])):∀xs,zot [Zng,zmN] xs->∃M',R L Cs ZhR xs []=some (.w (.c (.bool true)),M'):=by
 intro xs h;simp only[zot,zfo,znD]at h;obtain⟨c1,y1,rfl,h1,c2,y2,rfl,h2,rfl⟩:=h;obtain⟨a1,t1,rfl,⟨n1,rfl,_⟩,a2,t2,rfl,⟨n2,rfl,_⟩,a3,t3,rfl,⟨n3,rfl,_⟩,a4,t4,rfl,⟨n4,rfl,_⟩,a5,t5,rfl,⟨n5,rfl,_⟩,a6,t6,rfl,⟨n6,rfl,_⟩,a7,t7,rfl,⟨n7,rfl,_⟩,a8,t8,rfl,⟨n8,rfl,_⟩,a9,t9,rfl,⟨n9,rfl,_⟩,a10,t10,rfl,⟨n10,rfl,_⟩,a11,t11,rfl,⟨n11,rfl,_⟩,a12,t12,rfl,⟨b,rfl⟩,rfl⟩:=h1;obtain⟨n12,rfl,_⟩:=h2;exact⟨[],ZnG hAw n1 n2 n3 n4 n5 n6 n7 n8 n9 n10 n11 n12 b⟩
theorem Zof:∀xs,zot [Zng,zmN] xs->∃M',R L Cs ZhR xs []=some (.w (.c (.bool true)),M'):=ZmQ Zoj
set_option maxRecDepth 10000
open Go Go.Eng
theorem zq2(a:Int):R L [] zlc [W a] []=some (.w (Bo false),[]):=by
 rw[zUa zle rfl];simp[zfU]
theorem zn3(a:Int):R L [] zi5 [W a] []=some (.w (Bo false),[]):=by
 rw[zUa zi9 rfl];simp[ze6]
theorem zuB(a b:Int):R L [] zi6 [W a,W b] []=some (.w (W (zgQ a b)),[]):=by
 have h1:=zq2 a;have h2:=zq2 b;rw[zUa zja rfl];unfold zgQ;by_cases h:a<b
 ·simp[zb3,h1,h2,h]
 ·by_cases h':b<a
  ·simp[zb3,h1,h2,h,h']
  ·simp[zb3,h1,h2,h,h']
theorem zmv(a b:Int):R L [] zhQ [W a,W b] []=some (.w (W (zgQ a b)),[]):=by
 have h1:=zn3 a;have h2:=zn3 b;rw[zUa zhS rfl];unfold zgQ;by_cases h:a<b
 ·simp[zbq,h1,h2,h]
 ·by_cases h':b<a
  ·simp[zbq,h1,h2,h,h']
  ·simp[zbq,h1,h2,h,h']
theorem zxz(b:Bool):R L [] zhB [Bo b] []=some (.w (W (if b then 1 else 0)),[]):=by
 rw[zUa zp4 rfl];cases b<;>simp[zhF]
def orI(a b c d:Int):Int:=if a=0 then(if b=0 then(if c=0 then d else c) else b) else a
abbrev orE(a b c d:Int)(i:Int):Env:=[(7,.w (W 4)),(6,.w (.c (.jc [[I a],[I b],[I c],[I d]]))),(3,.w (W 0)),(8,.w (W i))]
theorem or0(a b c d:Int):R L [] zob [.c (.jc [[I a],[I b],[I c],[I d]])] []=some (.w (W (orI a b c d)),[]):=by
 have w1:IntKind.i64.wrap 1=1:=rfl;have w2:IntKind.i64.wrap 2=2:=rfl;have w3:IntKind.i64.wrap 3=3:=rfl;have w4:IntKind.i64.wrap 4=4:=rfl;have h4:Y L [] zab (some [7,6,3,8]) 0 (orE a b c d 4) []=some (.exit 0,[(9,.w (Bo false)),(3,.w (W 0)),(6,.w (.c (.jc [[I a],[I b],[I c],[I d]]))),(7,.w (W 4)),(8,.w (W 4))],[]):=by
  rw[ZfM zab.eq_1];simp
 have h3:Y L [] zab (some [7,6,3,8]) 0 (orE a b c d 3) []=if d=0 then Y L [] zab (some [7,6,3,8]) 0 (orE a b c d 4) [] else some (.ret,[(2,.w (W d))],[]):=by
  rw[ZfM zab.eq_1];by_cases h:d=0
  ·simp[h,w4]
  ·have h':(d !=0)=true:=by simp[h]
   simp[h,h']
 have h2:Y L [] zab (some [7,6,3,8]) 0 (orE a b c d 2) []=if c=0 then Y L [] zab (some [7,6,3,8]) 0 (orE a b c d 3) [] else some (.ret,[(2,.w (W c))],[]):=by
  rw[ZfM zab.eq_1];by_cases h:c=0
  ·simp[h,w3]
  ·have h':(c !=0)=true:=by simp[h]
   simp[h,h']
 have h1:Y L [] zab (some [7,6,3,8]) 0 (orE a b c d 1) []=if b=0 then Y L [] zab (some [7,6,3,8]) 0 (orE a b c d 2) [] else some (.ret,[(2,.w (W b))],[]):=by
  rw[ZfM zab.eq_1];by_cases h:b=0
  ·simp[h,w2]
  ·have h':(b !=0)=true:=by simp[h]
   simp[h,h']
 have h0:Y L [] zab (some [7,6,3,8]) 0 (orE a b c d 0) []=if a=0 then Y L [] zab (some [7,6,3,8]) 0 (orE a b c d 1) [] else some (.ret,[(2,.w (W a))],[]):=by
  rw[ZfM zab.eq_1];by_cases h:a=0
  ·simp[h,w1]
  ·have h':(a !=0)=true:=by simp[h]
   simp[h,h']
 rw[h4]at h3;rw[h3]at h2;rw[h2]at h1;rw[h1]at h0;rw[zUa zow rfl];unfold orI;by_cases c1:a=0<;>by_cases c2:b=0<;>by_cases c3:c=0<;>by_cases c4:d=0<;>simp only[c1,c2,c3,c4,if_true,if_false]at h0 ⊢<;>simp[zfw,h0]
def zoG(b:Bool):Int:=if b then 1 else 0
def zu6(a b:Swp):Int:=orI (zgQ a.lane b.lane) (zgQ a.lo b.lo) (zgQ a.hi b.hi) (zoG a.cap-zoG b.cap)
theorem less0(a b:Swp):R L [] zar [.a (swC a),.a (swC b)] []=some (.w (W (zu6 a b)),[]):=by
 have h1:=zuB a.lane b.lane;have h2:=zmv a.lo b.lo;have h3:=zmv a.hi b.hi;have h4:R L [] zhB [Bo a.cap] []=some (.w (W (zoG a.cap)),[]):=zxz a.cap;have h5:R L [] zhB [Bo b.cap] []=some (.w (W (zoG b.cap)),[]):=zxz b.cap;have h6:=or0 (zgQ a.lane b.lane) (zgQ a.lo b.lo) (zgQ a.hi b.hi) (zoG a.cap-zoG b.cap);have w:IntKind.i64.wrap (zoG a.cap-zoG b.cap)=zoG a.cap-zoG b.cap:=by
  cases a.cap<;>cases b.cap<;>rfl
 unfold zu6;generalize zgQ a.lane b.lane=x1 at *;generalize zgQ a.lo b.lo=x2 at *;generalize zgQ a.hi b.hi=x3 at *;generalize zoG a.cap=o1 at *;generalize zoG b.cap=o2 at *;rw[zUa zsv rfl];simp[zjq,swC,h1,h2,h3,h4,h5,h6,w,zg,zX]
theorem zz5(a b:Swp):(zu6 a b<0)<->ltS a b=true:=by
 rw[zz2];unfold zu6 orI zgQ zoG;by_cases h1:a.lane<b.lane
 ·simp[h1]
 ·by_cases h2:b.lane<a.lane
  ·have:¬a.lane=b.lane:=by omega
   simp[h1,h2,this]
  ·have e1:a.lane=b.lane:=by omega
   by_cases h3:a.lo<b.lo
   ·simp[e1,h3]
   ·by_cases h4:b.lo<a.lo
    ·have:¬a.lo=b.lo:=by omega
     simp[e1,h3,h4,this]
    ·have e2:a.lo=b.lo:=by omega
     by_cases h5:a.hi<b.hi
     ·simp[e1,e2,h5]
     ·by_cases h6:b.hi<a.hi
      ·have:¬a.hi=b.hi:=by omega
       simp[e1,e2,h5,h6,this]
      ·have e3:a.hi=b.hi:=by omega
       cases a.cap<;>cases b.cap<;>simp[e1,e2,e3]
end Go.TrRun
namespace Go.Eng
open Go
theorem zsf [zb0]{P:Program}{cf:za4}(hcf:FnS P cf){f:FuncId}(hf:f<zb0.base){args:List WV}{vs:Array Value}{w:World}{σ:zP}{j:Inj}{M':Mem}{c:Int}(h:cf f args []=some (.w (.c (.int .i64 c)),M'))
  (hag:zM σ w) (hvs:zac σ j args vs.toList) (hm:MR (fun b=>w.heap.size<=b) σ j [] w) :
  Calls P f vs w fun e w'=>e=.returned (.int .i64 c)/\∃q os',w'=Go.Sort.grow (w.drewN q) os':=by
 obtain⟨_,_,_,_,hc⟩:=(hcf f args [] _ _ h (fun id hid=>by simp at hid)).1 hf;refine Calls.yO (hc (fun b=>w.heap.size<=b) σ j w vs (fun _ h=>h) hag hm hvs) ?_;rintro e w' ⟨v,σ',j',rfl,hr,_,_,hst⟩;have hr:VC σ' j' (.int .i64 c) v:=hr;cases hr;refine⟨rfl,w'.drawn-w.drawn,w'.heap.extract w.heap.size w'.heap.size,?_⟩;have h1:=hst.side.os;have h2:=hst.side.output;have h3:=hst.side.tape;have h4:=hst.side.drawn;have h5:=hst.frame;have h6:=hst.size;cases w' with |mk heap tape drawn os output =>
 simp only at h1 h2 h3 h4 h5 h6;subst h1;subst h2;subst h3;unfold Go.Sort.grow World.drewN;simp only[World.mk.injEq,and_true,true_and];refine⟨?_,by omega⟩;apply Ac;intro i;by_cases hi:i<w.heap.size
 ·rw[kD hi];exact h5 i hi (by omega)
 ·rw[yU (by omega),qx];by_cases hi2:i<heap.size
  ·rw[if_pos (by omega)]
   congr 1;omega
  ·rw[if_neg (by omega)];exact kZ (by omega)
end Go.Eng
namespace Go.TrRun
open Go Go.Eng
theorem zxp(σ:zP)(j:Inj)(x:List Int):WVR σ j (.a (swC (zik x))) (.agg (ziq 4 7 x).toArray):=by
 refine⟨_,rfl,?_⟩;have e:(ziq 4 7 x).toArray.toList=[.int .i64 (x.getD 0 0),.int .i64 (x.getD 1 0),.int .i64 (x.getD 2 0),.bool (x.getD 3 0 !=0)]:=rfl;rw[e];refine⟨rfl,fun n c v hc hv=>?_⟩
 match n with
 |0=>cases hc;cases hv;exact .int _ _ _
 |1=>cases hc;cases hv;exact .int _ _ _
 |2=>cases hc;cases hv;exact .int _ _ _
 |3=>cases hc;cases hv;exact .bool _ _
 |n+4=>cases hc
def zAw(x y:List Int):Int:=zu6 (zik x) (zik y)
theorem zBC:(fun x y=>decide (zAw x y<0))=ltZ 4 7:=by
 funext x y;have h:=zz5 (zik x) (zik y);have e:ltS (zik x) (zik y)=ltZ 4 7 x y:=by
  have k1:∀z:List Int,zji (zik z)=zsY 4 7 z:=fun z=>by
   simp[zji,zik,zsY,List.range,List.range.loop,zgk]
  simp only[ltS,ltZ,k1,if_true]
 rw[e]at h;unfold zAw;cases hz:ltZ 4 7 x y with
 |true=>exact decide_eq_true (h.2 hz)
 |false =>
  refine decide_eq_false fun h'=>?_
  rw[h.1 h']at hz;cases hz
theorem zwK{P:Program}(vF:P.follows .mixedOrders=true)(hL:(L.map fun p=>zcF P an true p.1)=L.map fun p=>some p.2)(hV:zql P L=true)(hf:zar<P.funcs.size)(x y:List Int)(W:World) :
  Calls P zar #[.agg (ziq 4 7 x).toArray,.agg (ziq 4 7 y).toArray] W fun e w'=>e=.returned (.int .i64 (zAw x y))/\∃q os',w'=Go.Sort.grow (W.drewN q) os':=by
 letI:=zww P fun f=>L.lookup f
 obtain⟨n,hn⟩:=zah.1 (less0 (zik x) (zik y));exact zsf (zsT vF hL hV (Cs:=[]) rfl (fun c hc=>by cases hc) n) (f:=zar) hf hn (zml (W:=W) fun g row hr=>by cases hr) (.cons (zxp _ _ x) (.cons (zxp _ _ y) .nil)) MR.nil
end Go.TrRun
