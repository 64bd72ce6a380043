/- This text proves what functions of this seat's program answer, run by the evaluator; no condition. -/
import Derived.Test.YtdndkdliiojpiaaGreatATx3
import Derived.WalkSmall
set_option maxHeartbeats 8000000
set_option linter.unusedVariables false
set_option linter.unusedSimpArgs false
set_option linter.unusedSectionVars false
set_option maxRecDepth 10000
namespace Go.TrRun
open Go Go.Eng Go.PlanLaw
abbrev zNM(m:zD)(r:List Int)(len:Int)(ps:List Pss)(vs:List Vis)(u:Nat)(was NW:List Cl)(SW:Cl):Mem:=[bxv u 26 (jC m r len ps (.slice 5 vs.length 10 0 vs.length none) was NW SW),some (Go.Eng.own 10 (zKt vs))]
abbrev zNL(m:zD)(r:List Int)(len:Int)(ps:List Pss)(vs:List Vis)(u:Nat)(was NW:List Cl)(SW:Cl):Mem:=[bxv u 26 (jC m r len ps .jc was NW SW)]
abbrev zV0(qq:Nat)(m:zD)(r:List Int)(len:Int)(ps:List Pss)(vs:List Vis)(u:Nat)(was NW:List Cl)(SW:Cl):Mem:=if qq=0 then zNL m r len ps vs u was NW SW else zNM m r len ps vs u was NW SW
theorem zV1{m:zD}{zs:List Zon}{ss:List Sgn}(hF:zKj m zs ss){r:List Int}(hr:zdA m r=0)(c:zK8)(hc:c.ok)(k:zci)(hk:KJ m k)(ht:0<=k.tick/\k.tick<=1099511627776)(signals:Bool)(kM:Int)(vs:List Vis)(hvs:vs=pvV m zs r)(qq:Nat)(hq0:qq=0/\vs=[]\/qq=1/\vs≠[])(l:List (List Int))(hll:l.length<=100)(hl:∀p∈l,p.length<=1000):∀(t:List (List Int)) (i u:Nat) (WAS NW:List Cl) (SW:Cl),zMo WAS->zKq NW SW->l.drop i=t->i<=l.length ->
  ∃E T u' CB NW' SW',zMo CB/\zKq NW' SW'/\SeX E T l (zK5 kM (okC m zs ss r c k signals true) t i)/\Y L Cs zIx (some [51,50,49,6,7,11,23,10,22,21,19,20,16]) (qq+5) (seE (.c (.ptr 4 0 0 0)) l kM signals true i) (zLh m c k++zV0 qq m r c.len (zKh m zs 0 r) vs u WAS NW SW)=some (.exit 0,E,zLh m c k++zV0 qq m r c.len (zKh m zs 0 r) vs u' CB NW' SW'++T):=by
 intro t;induction t with
 |nil =>
  intro i u WAS NW SW oW oS hd hi;obtain rfl:=zUb hd hi;refine⟨(52,.w (Bo false))::seE (.c (.ptr 4 0 0 0)) l kM signals true l.length,[],u,WAS,NW,SW,oW,oS,⟨.inl rfl,rfl,rfl,rfl,rfl⟩,?_⟩;rw[ZfM zIx.eq_1];simp
 |cons p t ih =>
  intro i u WAS NW SW oW oS hd hi;obtain⟨hil,hx,hd'⟩:=zL hd;have hpl:p∈l:=by rw[<-hx];exact jf hil
  have hw:=zB (i:=i) (by omega);have hC:=Pl.CD c p (hl p hpl);have hcl:0<=c.len/\c.len<=20000:=by have:=hc.1;have:=hc.2.1;omega
  simp only[Pl.kJ]at hC;unfold zK5;by_cases c1:kM<=(i:Int)
  ·rw[if_pos c1];clear ih;refine⟨[(58,.w (Bo true)),(24,.w (W i)),(51,.w (W i)),(50,.w (W l.length)),(49,.w (.c (.jb (Pl.uD l)))),(6,.w (W kM)),(7,.w (Bo signals)),(11,.w (Pt 2)),(23,.w (.c (.ptr 4 0 0 0))),(10,.w (Pt 1)),(22,.w (Bo true)),(25,.w (Pt (qq+5))),(21,.w (W (-1))),(19,.w (.c (.jb (Pl.uD l)))),(20,.w (W i)),(16,.w (Pt 3))],[bxv 1 1 [.jb (zu p)]],u,WAS,NW,SW,oW,oS,⟨.inr ⟨p,rfl⟩,rfl,rfl,rfl,rfl⟩,?_⟩;rw[ZfM zIx.eq_1];rcases hq0 with⟨rfl,-⟩ |⟨rfl,-⟩<;>rcases oW with rfl |⟨kw,rfl⟩<;>rcases oS with⟨rfl,rfl⟩ |⟨k0,x,rfl,rfl⟩<;>simp (maxSteps:=1000000) [seE,zLh,zV0,zNM,zNL,jC,zox,zh,zi,zf,zG,own,zJY,zJ4,Pl.kJ,Pl.uD,hil,hx,hw,c1,zg,zH]
  ·rw[if_neg c1];by_cases c2:uP c p=0
   ·obtain⟨hin,hp2,hne⟩:=zNC c2;rw[c2]at hC;obtain⟨u',W',N',S',oW',oS',hu,h4⟩:=zL8 hF hr c.len hcl signals p hin (by omega) u k WAS NW SW hk ht oW oS hne;have hok:okC m zs ss r c k signals true p=(zNw m zs ss r c.len k p signals).1:=by simp[okC,c2]
    rw[hok];rw[<-hvs]at h4;generalize zNw m zs ss r c.len k p signals=y at *;obtain⟨y1,y2,y3⟩:=y;simp only[zJ3,zVW hq0]at h4;cases y1 with
    |true =>
     clear ih;rw[if_pos rfl];refine⟨[(21,.w (W i)),(19,.w (.c (.jb (Pl.uD l)))),(20,.w (W (i+1:Nat))),(16,.w (Pt 3))],[bxv 1 1 [.jb (zu p)]],u',W',N',S',oW',oS',⟨.inr ⟨p,rfl⟩,rfl,rfl,rfl,rfl⟩,?_⟩;rw[ZfM zIx.eq_1];rcases hq0 with⟨rfl,-⟩ |⟨rfl,-⟩<;>rcases oW with rfl |⟨kw,rfl⟩<;>rcases oS with⟨rfl,rfl⟩ |⟨k0,x,rfl,rfl⟩<;>rcases oW' with rfl |⟨kw',rfl⟩<;>rcases oS' with⟨rfl,rfl⟩ |⟨k0',x',rfl,rfl⟩<;>simp only[jP,↓reduceIte,jF,Nat.reduceAdd,jC,zox,zh,zi,zf,zG,own,zJY,zJ4,Pl.kJ,Pl.uD,zJZ,ji,je]at h4<;>simp (maxSteps:=1000000) [seE,zLh,zV0,zNM,zNL,jC,zox,zh,zi,zf,zG,own,zJY,zJ4,Pl.kJ,Pl.uD,hil,hx,hw,c1,hC,h4,hu,zg,zH]
    |false =>
     rw[if_neg (by simp)];obtain⟨E,T,u2,W2,N2,S2,oW2,oS2,h1,h2⟩:=ih (i+1) u' W' N' S' oW' oS' hd' hil;refine⟨E,T,u2,W2,N2,S2,oW2,oS2,h1,?_⟩;rw[<-h2,ZfM zIx.eq_1];clear h1 h2 ih;rcases hq0 with⟨rfl,-⟩ |⟨rfl,-⟩<;>rcases oW with rfl |⟨kw,rfl⟩<;>rcases oS with⟨rfl,rfl⟩ |⟨k0,x,rfl,rfl⟩<;>rcases oW' with rfl |⟨kw',rfl⟩<;>rcases oS' with⟨rfl,rfl⟩ |⟨k0',x',rfl,rfl⟩<;>simp only[jP,↓reduceIte,jF,Nat.reduceAdd,jC,zox,zh,zi,zf,zG,own,zJY,zJ4,Pl.kJ,Pl.uD,zJZ,ji,je]at h4<;>simp (maxSteps:=1000000) [seE,zLh,zV0,zNM,zNL,jC,zox,zh,zi,zf,zG,own,zJY,zJ4,Pl.kJ,Pl.uD,hil,hx,hw,c1,hC,h4,hu,zg,zH]
   ·have hb:(uP c p==0)=false:=by simpa using c2
    have hok:okC m zs ss r c k signals true p=false:=by simp[okC,c2]
    rw[hok,if_neg (by simp)];obtain⟨E,T,u2,W2,N2,S2,oW2,oS2,h1,h2⟩:=ih (i+1) u WAS NW SW oW oS hd' hil;refine⟨E,T,u2,W2,N2,S2,oW2,oS2,h1,?_⟩;rw[<-h2,ZfM zIx.eq_1];clear h1 h2 ih;generalize uP c p=e at *;rcases hq0 with⟨rfl,-⟩ |⟨rfl,-⟩<;>rcases oW with rfl |⟨kw,rfl⟩<;>rcases oS with⟨rfl,rfl⟩ |⟨k0,x,rfl,rfl⟩<;>simp (maxSteps:=1000000) [seE,zLh,zV0,zNM,zNL,jC,zox,zh,zi,zf,zG,own,zJY,zJ4,Pl.kJ,Pl.uD,hil,hx,hw,c1,hC,hb,zg,zH]
theorem zOd(kM:Int)(ok:List Int->Bool):∀(t:List (List Int)) (i:Nat),(zK5 kM ok t i).1=-1\/((i:Int)<=(zK5 kM ok t i).1/\(zK5 kM ok t i).1<i+t.length)
 |[],i=>.inl rfl
 |p::t,i=>by
  unfold zK5;split
  ·exact .inl rfl
  ·split
   ·refine .inr ⟨by simp,by simp;omega⟩
   ·rcases zOd kM ok t (i+1)with h|h
    ·exact .inl h
    ·refine .inr ⟨by omega,by simp only[jk];omega⟩
abbrev zLj(c:zK8)(q:List Int)(last:Int)(k:zci):List (List Int):=Pl.yp c q last (max 0 (min k.ego.vhi 2000))
def zMT(l:List (List Int))(f:Int):List Int:=if f<0 then [] else l.getD f.toNat []
def zOU(m:zD)(zs:List Zon)(ss:List Sgn)(r:List Int)(c:zK8)(k:zci)(q:List Int)(last kM:Int)(signals:Bool):Int×Int :=
 zK5 kM (okC m zs ss r c k signals (zKW m r c k)) (zLj c q last k) 0
theorem zPl{m:zD}{zs:List Zon}{ss:List Sgn}(hF:zKj m zs ss)(r:List Int)(hl:r.length<=1000)(c:zK8)(hc:c.ok)(k:zci)(hk:k.j8.length<=100000000000)(q:List Int)(hq:q.length<=5)(last kM:Int)(signals:Bool) :
  R L Cs zMZ [.a (zf m),.c (.jb (zu r)),.a (Pl.kJ c),.a (zG k),.c (.jb (zu q)),W last,W kM,Bo signals] [] =
    some (.t [.a [.jb (zu (zMT (zLj c q last k) (zOU m zs ss r c k q last kM signals).1))],W (zOU m zs ss r c k q last kM signals).2,Bo (decide (0<=(zOU m zs ss r c k q last kM signals).1))],[]):=by
 have h1:=zPi hF r hl c k hk;have h2:=Pl.Cm hc q hq last k.ego.vhi;have hin:=zOd kM (okC m zs ss r c k signals (zKW m r c k)) (zLj c q last k) 0;have hlen:(zLj c q last k).length=8:=rfl;have hlenI:((zLj c q last k).length:Int)=8:=rfl;have hpl:=zNa hc q last (max 0 (min k.ego.vhi 2000)) (by omega);unfold zOU;by_cases d1:zKW m r c k=true
 ·obtain⟨hr,_,_,hck⟩:=zNz d1;have hke:=zte hck;have hkj:=zPP hF.full.qW hck;obtain⟨u,h3⟩:=zMM hF hr c.len;rw[show zKE (zKh m zs 0 r) 0 zs.length=pvV m zs r from rfl]at h3;rw[d1]at h1 hin ⊢;obtain⟨qq,hq0⟩:∃qq,qq=0/\pvV m zs r=[]\/qq=1/\pvV m zs r≠[]:=by
   by_cases h0:pvV m zs r=[]
   ·exact⟨0,.inl ⟨rfl,h0⟩⟩
   ·exact⟨1,.inr ⟨rfl,h0⟩⟩
  obtain⟨E,T,u',W',N',S',oW,oS,⟨hT,g1,g2,g3,g4⟩,hL⟩:=zV1 hF hr c hc k hkj (by omega) signals kM (pvV m zs r) rfl qq hq0 (zLj c q last k) (by omega) (fun p hp=>by have:=hpl p hp;omega) (zLj c q last k) 0 u zox zox .jc (.inl rfl) (.inl ⟨rfl,rfl⟩) rfl (jr _);simp only[zJ3,zVW hq0]at h3;simp only[zLj]at *;generalize pvV m zs r=vs at *;generalize zKh m zs 0 r=ps at *;generalize zK5 kM (okC m zs ss r c k signals true) (Pl.yp c q last (max 0 (min k.ego.vhi 2000))) 0=y at *;generalize Pl.yp c q last (max 0 (min k.ego.vhi 2000))=ws at *;obtain⟨f,n⟩:=y;simp only at g1 g2 g3 g4 hin ⊢;rcases hq0 with⟨rfl,-⟩ |⟨rfl,-⟩
  all_goals
   simp only[jP,↓reduceIte,jF,Nat.reduceAdd,zf,zG,Pl.kJ,Pl.uD,jC,zox,zh,zi,own,zJZ,ji,je,seE,zLh,zV0,zNM,zNL,hlenI,jg]at h1 h2 h3 hL g3;rw[zUa zLc rfl];rcases hin with rfl |⟨i1,i2⟩
   ·rcases hT with rfl |⟨p,rfl⟩<;>simp (maxSteps:=1000000) [zIS,zMT,zf,zG,Pl.kJ,h1,h2,h3,hL,g1,g2,g3,g4,hlen,zg,zH]
   ·obtain⟨j,rfl⟩:∃j:Nat,f=j:=⟨f.toNat,by omega⟩;have j1:¬(j:Int)<0:=by omega
    have j2:(0:Int)<=j:=by omega
    have j3:j<ws.length:=by omega
    have j4:j<8:=by omega
    have j5:(j:Int)<8:=by omega
    rcases hT with rfl |⟨p,rfl⟩<;>simp (maxSteps:=1000000) [zIS,zMT,zf,zG,Pl.kJ,h1,h2,h3,hL,g1,g2,g3,g4,hlen,j1,j2,j3,j4,j5,zg,zH]
 ·have d1:zKW m r c k=false:=by simpa using d1
  rw[d1]at h1 hin ⊢;obtain⟨E,T,⟨hT,g1,g2,g3,g4⟩,hL⟩:=zOp m zs ss r c k signals kM (zLj c q last k) (by omega) (zLj c q last k) 0 rfl (jr _);simp only[zLj]at *;generalize zK5 kM (okC m zs ss r c k signals false) (Pl.yp c q last (max 0 (min k.ego.vhi 2000))) 0=y at *;generalize Pl.yp c q last (max 0 (min k.ego.vhi 2000))=ws at *;obtain⟨f,n⟩:=y;simp only at g1 g2 g3 g4 hin ⊢;simp only[zf,zG,Pl.kJ,Pl.uD,ji,je,seE,zLh,hlenI,jg]at h1 h2 hL g3;rw[zUa zLc rfl];rcases hin with rfl |⟨i1,i2⟩
  ·rcases hT with rfl |⟨p,rfl⟩<;>simp (maxSteps:=1000000) [zIS,zMT,zf,zG,Pl.kJ,h1,h2,hL,g1,g2,g3,g4,hlen,zg,zH]
  ·obtain⟨j,rfl⟩:∃j:Nat,f=j:=⟨f.toNat,by omega⟩;have j1:¬(j:Int)<0:=by omega
   have j2:(0:Int)<=j:=by omega
   have j3:j<ws.length:=by omega
   have j4:j<8:=by omega
   have j5:(j:Int)<8:=by omega
   rcases hT with rfl |⟨p,rfl⟩<;>simp (maxSteps:=1000000) [zIS,zMT,zf,zG,Pl.kJ,h1,h2,hL,g1,g2,g3,g4,hlen,j1,j2,j3,j4,j5,zg,zH]
open Go Go.Eng
def Zh2(d:NdV)(n:Nat):List Int:=(List.range n).map fun(i:Nat)=>Pl.qe d.kX (i:Int)
theorem Zkw(d:NdV)(n:Nat):Zh2 d (n+1)=Zh2 d n++[Pl.qe d.kX n]:=by simp[Zh2,List.range_succ]
theorem ZjG(d:NdV)(n:Nat):(Zh2 d n).length=n:=by simp[Zh2]
theorem Zkm(S:StV)(d:NdV)(g:RgV)(c:Int)(es:List Zou)(v w u:Nat)(hp:d.kX.length<=1000)(D:Nat)(hD:D<=5):∀(f i:Nat),i+f=D ->
  Y L Cs Zhj (some [3,14,13,0]) 4 [(3,.w (.c (sl 3 1 (zu (Zh2 d i))))),(14,.w (W i)),(13,.w (W D)),(0,.w (Pt 0))] (ndM S d g c es v w u++[some (own 1 (zu (Zh2 d i)))]) =
    some (.exit 0,[(15,.w (Bo false)),(3,.w (.c (sl 3 1 (zu (Zh2 d D))))),(14,.w (W D)),(13,.w (W D)),(0,.w (Pt 0))],ndM S d g c es v w u++[some (own 1 (zu (Zh2 d D)))])
 |0,i,h=>by
  obtain rfl:i=D:=by omega
  obtain⟨s0,s1,s2,s3,s4,n,ini,p⟩:=g;rw[ZfM Zhj.eq_1];cases ini<;>simp[Zly]
 |f+1,i,h=>by
  have ih:=Zkm S d g c es v w u hp D hD f (i+1) (by omega);have hw:=zB (i:=i) (by omega);have hci:(i:Int)<D:=by omega
  have hA:=Pl.C5 d.kX hp i;have hq:=ZjG d i;have hr:((Zh2 d i).length+1)*8<=140737488355328:=by omega
  rw[<-ih,Zkw];generalize Pl.qe d.kX (i:Int)=a at *;generalize Zh2 d i=q at *;obtain⟨s0,s1,s2,s3,s4,n,ini,p⟩:=g;rw[ZfM Zhj.eq_1];cases ini<;>simp[hci,hw,hA,hr,zX,Zly,-Int.natCast_add]
def Zkd(S:StV)(zs:List Zon)(ss:List Sgn)(d:NdV):Int×Int:=zOU S.m zs ss S.r S.car d.ui (Zh2 d S.car.kS.toNat) d.qP S.kM S.sig
def ZiG(S:StV)(zs:List Zon)(ss:List Sgn)(d:NdV):NdV:={ d with looked:=(Zkd S zs ss d).2,kX:=if 0<=(Zkd S zs ss d).1 then zMT (zLj S.car (Zh2 d S.car.kS.toNat) d.qP d.ui) (Zkd S zs ss d).1 else d.kX }
theorem ZjR{S:StV}{zs:List Zon}{ss:List Sgn}(hS:z6u S zs ss)(d:NdV)(g:RgV)(c:Int)(es:List Zou)(v w u:Nat)(hp:d.kX.length<=1000)(hk:d.ui.j8.length<=100000000000) :
  ∃v',v<v'/\R L Cs ZhB [Pt 0] (ndM S d g c es v w u)=some (.w (.c (.fn Zhq [.ptr 0 0 0 0] [])),ndM S (ZiG S zs ss d) g c es v' w u):=by
 obtain⟨q1,q2,q3,q4,q5,q6,q7,q8,q9,q10⟩:=hS.car;obtain⟨D,hD⟩:=jB q9;have hr2:=zlP hS.full.full.yA hS.yd;have hL:=Zkm S d g c es v w u hp D (by omega) D 0 (by omega);have hS2:=zPl hS.full S.r (by omega) S.car hS.car d.ui hk (Zh2 d D) (by rw[ZjG];omega) d.qP S.kM S.sig;have hql:=ZjG d D;have htk:(zu (Zh2 d D)).take D=zu (Zh2 d D):=jw (by simp[hql]);unfold ZiG Zkd;have eD:S.car.kS.toNat=D:=by rw[hD];rfl
 rw[eD];have q0:Zh2 d 0=[]:=rfl;generalize zOU S.m zs ss S.r S.car d.ui (Zh2 d D) d.qP S.kM S.sig=y at *;generalize zLj S.car (Zh2 d D) d.qP d.ui=z at *;obtain⟨f,n⟩:=y;simp only at hS2 ⊢;simp only[q0,ndM,ji,je,jg,zay,sl,own,jo,zfq,hql]at hL;simp only[zf,Pl.kJ,zG,hD]at hS2;obtain⟨s0,s1,s2,s3,s4,na,ini,p⟩:=g;by_cases hf:0<=f
 ·refine⟨v+2,by omega,?_⟩;simp only[hf,if_true,decide_true]at hS2 ⊢;rw[zUa ZhH rfl];cases ini<;>simp[Zho,hL,hS2,hD,htk,hql,zX,Zly,zr]
 ·refine⟨v+1,by omega,?_⟩;simp only[hf,if_false,decide_false]at hS2 ⊢;rw[zUa ZhH rfl];cases ini<;>simp[Zho,hL,hS2,hD,htk,hql,zX,Zly,zr]
structure KB(m:zD)(k:zci):Prop where
 nd:KNd m k
 far:k.ego.shi<=1000000000+2000*k.tick
 few:k.tick<=100000
theorem KB.step{S:StV}{zs:List Zon}{ss:List Sgn}(hS:z6u S zs ss){k:zci}(h:KB S.m k)(ht:k.tick<100000)(a:Int):KB S.m (ZhP S zs ss k a)/\(ZhP S zs ss k a).tick=k.tick+1:=by
 have hd:=zLs hS.full.full.qW hS.yd h.nd.j.ego a;have hf:=h.far;have h0:=h.nd.t;have e:(ZhP S zs ss k a).ego=zaN S.m S.r k.ego a:=rfl;have et:(ZhP S zs ss k a).tick=k.tick+1:=rfl;have hj:=zNm hS.full.full hS.yd S.car.len S.sig h.nd.j a (show(zaN S.m S.r k.ego a).shi<=1099511627776 by omega);exact⟨⟨⟨hj,by rw[et];omega⟩,by rw[e,et];omega,by rw[et];omega⟩,et⟩
theorem ZjY:∀(l:List Mrk) (k:zci) (b:Bool),(ZhZ l (k,b)).1.ego.shi=k.ego.shi
 |[],k,b=>rfl
 |x::l,k,b=>by
  show(ZhZ l ((z9f k x.st x.lo x.hi).1,b&&(z9f k x.st x.lo x.hi).2)).1.ego.shi=_;rw[ZjY l];exact(ZhO k x.st x.lo x.hi).2.2.2
theorem Zka:∀(l:List Mrk) (k:zci) (b:Bool),(Zis l (k,b)).1.ego.shi<=k.ego.shi
 |[],k,b=>kW _
 |x::l,k,b=>by
  show(Zis l ((Zag k x.st x.lo x.hi).1,b&&(Zag k x.st x.lo x.hi).2)).1.ego.shi<=_;refine Int.le_trans (Zka l _ _) ?_;unfold Zag
  (repeat' split)<;>simp only<;>omega
theorem ZjZ(S:StV):∀(l:List zZP) (k:zci) (b:Bool),(ZiH S l (k,b)).1.ego=k.ego
 |[],k,b=>rfl
 |x::l,k,b=>by
  show(ZiH S l (Zhv S (Zib S.m k x),b&&ZiS S.m (Zhv S (Zib S.m k x)) x.pts)).1.ego=_;rw[ZjZ S l];rfl
theorem ZkN(S:StV)(q:Option Hrd)(k:zci):(znE S q k).1.ego.shi<=k.ego.shi:=by
 cases q with
 |none=>exact kW _
 |some y =>
  have e:(znE S (some y) k).1.ego=(Zis y.ku (ZhZ y.jT (k,true))).1.ego:=ZjZ S y.ki _ _;rw[e];refine Int.le_trans (Zka y.ku _ _) ?_;exact Int.le_of_eq (ZjY y.jT k true)
theorem KB.BS{S:StV}{k:zci}(h:KB S.m k)(q:Option Hrd):KB S.m (znE S q k).1/\(znE S q k).1.tick=k.tick:=by
 obtain⟨h1,h2⟩:=h.nd.BS q;have:=ZkN S q k;have:=h.far;have:=h.few;exact⟨⟨h1,by rw[h2];omega,by rw[h2];omega⟩,h2⟩
def chN(S:StV)(zs:List Zon)(ss:List Sgn)(es:List Zou)(l:List Int)(x:zci×Bool):zci×Bool :=
 l.foldl (fun q a=>((znE S (znB (q.1.tick+1) es) (ZhP S zs ss q.1 a)).1,q.2&&(znE S (znB (q.1.tick+1) es) (ZhP S zs ss q.1 a)).2)) x
def Zir(g:RgV):Nat->Int
 |0=>g.s0
 |1=>g.s1
 |2=>g.s2
 |3=>g.s3
 |_=>g.s4
theorem ZkB{g:RgV}(h:g.na<=5){i:Nat}(hi:i<g.na):g.jN.drop i=Zir g i::g.jN.drop (i+1):=by
 obtain⟨s0,s1,s2,s3,s4,n,ini,p⟩:=g;simp only at h hi;unfold RgV.jN Zir;rcases n with _|_|_|_|_|_|n
 ·omega
 all_goals first |(exfalso;omega) |(rcases i with _ |_ |_ |_ |_ |i<;>first |rfl |(exfalso;omega))
def Zk8(es:List Zou):Prop:=∀t h,znB t es=some h->Zld h t
theorem ZkP{S:StV}{zs:List Zon}{ss:List Sgn}(hS:z6u S zs ss)(es:List Zou):∀(l:List Int) (k:zci) (b:Bool),KB S.m k->k.tick+l.length<=100000->KB S.m (chN S zs ss es l (k,b)).1/\(chN S zs ss es l (k,b)).1.tick=k.tick+l.length
 |[],k,b,h,ht=>⟨h,by simp[chN]⟩
 |a::l,k,b,h,ht=>by
  simp only[jk]at ht;obtain⟨h1,h2⟩:=h.step hS (by omega) a;obtain⟨h3,h4⟩:=h1.BS (znB (k.tick+1) es);obtain⟨h5,h6⟩:=ZkP hS es l _ (b&&(znE S (znB (k.tick+1) es) (ZhP S zs ss k a)).2) h3 (by rw[h4,h2];omega);refine⟨h5,h6.trans ?_⟩;rw[h4,h2,jk];omega
abbrev fgE(i na:Nat)(A:Cl)(ok:Bool):Env:=[(4,.w (Bo ok)),(29,.w (W i)),(28,.w (W na)),(27,.w (.c A)),(0,.w (Pt 0)),(3,.w (Pt 3))]
theorem Zks{S:StV}{zs:List Zon}{ss:List Sgn}(hS:z6u S zs ss)(d:NdV){g:RgV}(hg:g.na<=5)(hi0:g.ini=false)(ha:∀a∈g.jN,zk0 a)(c:Int)(es:List Zou)(he:Zk8 es)(v w u:Nat):∀(f i:Nat) (k:zci) (ok:Bool) (vk:Nat),i+f=g.na->KB S.m k->k.tick+f<=100000 ->
  ∃vk',Y L Cs Zhc (some [4,29,28,27,0,3]) 4 (fgE i g.na (.bsl 1 0 0 0 1 g.na 5) ok) (ndM S d g c es v w u++[bxv vk 6 (zG k)]) =
   some (.exit 0,(30,.w (Bo false))::fgE g.na g.na (.bsl 1 0 0 0 1 g.na 5) (chN S zs ss es (g.jN.drop i) (k,ok)).2,ndM S d g c es v w u++[bxv vk' 6 (zG (chN S zs ss es (g.jN.drop i) (k,ok)).1)])
 |0,i,k,ok,vk,hf,hk,ht=>by
  obtain rfl:i=g.na:=by omega
  have e:g.jN.drop g.na=[]:=qJ (by simp[RgV.jN];omega);rw[e];refine⟨vk,?_⟩;obtain⟨s0,s1,s2,s3,s4,n,ini,p⟩:=g;simp only at hi0;subst hi0;rw[ZfM Zhc.eq_1];simp[chN,Zly]
 |f+1,i,k,ok,vk,hf,hk,ht=>by
  have hin:i<g.na:=by omega
  have e:=ZkB hg hin;have ha0:zk0 (Zir g i):=ha _ (qn (by rw[e];exact jx));obtain⟨k1,k2⟩:=hk.step hS (by omega) (Zir g i);obtain⟨k3,k4⟩:=k1.BS (znB (k.tick+1) es);have h1:=Zkc hS d g c es v w u hk.nd (Zir g i) ha0;have h2:=ZjM hS d g c es v w u k1.nd (fun h hh=>he _ h hh);rw[k2]at h2;obtain⟨vk',ih⟩:=Zks hS d hg hi0 ha c es he v w u f (i+1) (znE S (znB (k.tick+1) es) (ZhP S zs ss k (Zir g i))).1 (ok&&(znE S (znB (k.tick+1) es) (ZhP S zs ss k (Zir g i))).2) (vk+1) (by omega) k3 (by rw[k4,k2];omega);refine⟨vk',?_⟩;have ec:chN S zs ss es (g.jN.drop i) (k,ok)=chN S zs ss es (g.jN.drop (i+1)) ((znE S (znB (k.tick+1) es) (ZhP S zs ss k (Zir g i))).1,ok&&(znE S (znB (k.tick+1) es) (ZhP S zs ss k (Zir g i))).2):=by rw[e];rfl
  rw[ec,<-ih];have hw:=zB (i:=i) (by omega);have hci:(i:Int)<g.na:=by omega
  clear ih ec k1 k2 k3 k4;generalize znE S (znB (k.tick+1) es) (ZhP S zs ss k (Zir g i))=y at *;obtain⟨ky,oy⟩:=y;generalize ZhP S zs ss k (Zir g i)=ks at *;obtain⟨s0,s1,s2,s3,s4,n,ini,p⟩:=g;simp only at hi0 hg hin hci;subst hi0;simp only[zG]at h1 h2;rw[ZfM Zhc.eq_1];simp[ndM,ndC,rgC,mpB,bxv]at h1 h2;have e1:(1:Int)<n<->1<n:=by omega
  have e2:(2:Int)<n<->2<n:=by omega
  have e3:(3:Int)<n<->3<n:=by omega
  have e4:(4:Int)<n<->4<n:=by omega
  rcases i with _|_|_|_|_|i
  case succ.succ.succ.succ.succ=>omega
  all_goals simp only[Zir]at h1
  all_goals have hin':=hin
  all_goals simp (config:={ failIfUnchanged:=false }) only[jF,Nat.reduceAdd]at hin'
  all_goals cases ok<;>simp[fgE,hin',e1,e2,e3,e4,h1,h2,wk1,wk2,wk3,wk4,wk5,zG,Zly,-Int.natCast_add]
def Zkz(S:StV)(zs:List Zon)(ss:List Sgn)(g:RgV)(es:List Zou):zci×Bool:=chN S zs ss es g.jN (znE S (znB g.kc.tick es) g.kc)
theorem Zlo(ok:Bool)(M:Mem):Y L Cs Zhc (some [4,29,28,27,0,3]) 4 [(4,.w (Bo ok)),(29,.w (W 0)),(28,.w (W 0)),(27,.w (.c .jc)),(0,.w (Pt 0)),(3,.w (Pt 3))] M=some (.exit 0,[(30,.w (Bo false)),(4,.w (Bo ok)),(29,.w (W 0)),(28,.w (W 0)),(27,.w (.c .jc)),(0,.w (Pt 0)),(3,.w (Pt 3))],M):=by
 rw[ZfM Zhc.eq_1];simp
theorem Zkj{S:StV}{zs:List Zon}{ss:List Sgn}(hS:z6u S zs ss)(d:NdV){g:RgV}(hg:ZjQ g)(ha:∀a∈g.jN,zk0 a)(hk:KB S.m g.kc)(ht:g.kc.tick+g.na<=100000)(c:Int)(es:List Zou)(he:Zk8 es)(v w u:Nat) :
  R L Cs ZhW [Pt 0] (ndM S d g c es v w u)=some (.w (.c (.fn (if(Zkz S zs ss g es).2 then ZhK else ZiI) [.ptr 0 0 0 0] [])),ndM S { d with ui:=(Zkz S zs ss g es).1 } g c es (v+1) w u):=by
 obtain⟨k1,k2⟩:=hk.BS (znB g.kc.tick es);have h1:=ZjM hS d g c es v w u hk.nd (fun h hh=>he _ h hh);unfold Zkz;cases hi:g.ini with
 |true =>
  have h0:=hg.ini hi;have e:g.jN=[]:=by simp[RgV.jN,h0]
  rw[e];simp only[chN,List.foldl_nil];generalize znE S (znB g.kc.tick es) g.kc=y at *;obtain⟨ky,oy⟩:=y;obtain⟨s0,s1,s2,s3,s4,n,ini,p⟩:=g;simp only at hi h0;subst hi;subst h0;simp only[zG]at h1;rw[zUa ZhX rfl];simp[ndM,ndC,rgC,mpB,bxv]at h1;cases oy<;>simp[Zhr,h1,Zlo,zG,Zly,zr]
 |false =>
  obtain⟨vk',hL⟩:=Zks hS d hg.few hi ha c es he v w u g.na 0 (znE S (znB g.kc.tick es) g.kc).1 (znE S (znB g.kc.tick es) g.kc).2 1 (by omega) k1 (by rw[k2];exact ht);simp only[uH]at hL;generalize znE S (znB g.kc.tick es) g.kc=y at *;obtain⟨ky,oy⟩:=y;simp only at hL;generalize chN S zs ss es g.jN (ky,oy)=z at *;obtain⟨kz,oz⟩:=z;obtain⟨s0,s1,s2,s3,s4,n,ini,p⟩:=g;simp only at hi;subst hi;simp only[zG,fgE,ndM,ji,je,jg]at h1 hL;rw[zUa ZhX rfl];simp[ndC,rgC,mpB,bxv]at h1;cases oz<;>simp[Zhr,h1,hL,zG,Zly,zr]
def ZjP(n:Int)(es:List Zou):List Zou:=match ZiR n es 0 with
 |some (i,_)=>es.eraseIdx i
 |none=>es
theorem Zi0{α β:Type}{f:α->β}:∀(l:List α) (i:Nat),(l.map f).eraseIdx i=(l.eraseIdx i).map f
 |[],_=>rfl
 |_::_,0=>rfl
 |a::l,i+1=>by simp[Zi0 l i]
theorem Zkf{M:Mem}{c:Int}{es:List Zou}{u:Nat}{id:Nat}(h:M[id]?=some (mpB c es u))(n:Int):∃u' fp,(u<=u'/\(u'=u->ZjP n es=es))/\zoK M [.c (.map id true),.c (.int .i64 n)]=some (.t [],M.set id (mpB c (ZjP n es) u'),fp):=by
 unfold zoK ZjP;simp only[Zia h,ZiE,zlW];cases ZiR n es 0 with
 |none =>
  refine⟨u,.no,⟨jm _,fun _=>rfl⟩,?_⟩;simp only[Option.map_none]
  congr 3
  apply ue;intro k;by_cases hk:id=k
  ·subst hk;rw[jS (jQ.1 h).1,h]
  ·rw[jz hk]
 |some q =>
  refine⟨u+1,.wr [(id,0,whole)],⟨kH u,fun h=>absurd h (by omega)⟩,?_⟩;simp[mpB,Zi0]
def Zh0(t:Int)(ks:List Int)(es:List Zou):List Zou:=ks.foldl (fun es k=>if k<t then ZjP k es else es) es
theorem Zgm(S:StV)(d:NdV)(g:RgV)(c:Int)(v w:Nat)(ks:List Int)(hks:ks.length<=1000):∀(r:List Int) (i:Nat) (es:List Zou) (u:Nat),ks.drop i=r->i<=ks.length ->
  ∃u',(u<=u'/\(u'=u->Zh0 g.kc.tick r es=es))/\Y L Cs Zlz (some [62,61,60,0]) 4 [(62,.w (W i)),(61,.w (W ks.length)),(60,.w (.c (.jb (zu ks)))),(0,.w (Pt 0))] (ndM S d g c es v w u++[bx 1 [.map 2 true]]) =
   some (.exit 2,[(63,.w (Bo false)),(62,.w (W ks.length)),(61,.w (W ks.length)),(60,.w (.c (.jb (zu ks)))),(0,.w (Pt 0))],ndM S d g c (Zh0 g.kc.tick r es) v w u'++[bx 1 [.map 2 true]])
 |[],i,es,u,hd,hi=>by
  have e:i=ks.length:=by
   have:=congrArg List.length hd;simp at this;omega
  subst e;refine⟨u,⟨jm _,fun _=>rfl⟩,?_⟩;obtain⟨s0,s1,s2,s3,s4,n,ini,p⟩:=g;rw[ZfM Zlz.eq_1];cases ini<;>simp[Zh0,Zly]
 |x::r,i,es,u,hd,hi=>by
  have h1:i<ks.length:=by
   have:=congrArg List.length hd;simp at this;omega
  have h2:ks[i]=x:=by rw[jv h1]at hd;exact(jY hd).1
  have h3:ks.drop (i+1)=r:=by rw[jv h1]at hd;exact(jY hd).2
  have hw:=zB (i:=i) (by omega);have hci:(i:Int)<ks.length:=by omega
  have kU:(zu ks)[i]?=some [I x]:=by simp[zu,h1,h2]
  by_cases hc:x<g.kc.tick
  ·have hM:(ndM S d g c es v w u++[bx 1 [.map 2 true]])[2]?=some (mpB c es u):=rfl;obtain⟨u1,fp,hfp,hD⟩:=Zkf hM x;obtain⟨u',hu,ih⟩:=Zgm S d g c v w ks hks r (i+1) (ZjP x es) u1 h3 (by omega);have e:Zh0 g.kc.tick (x::r) es=Zh0 g.kc.tick r (ZjP x es):=by simp[Zh0,hc]
   refine⟨u',⟨jO hfp.1 hu.1,fun q=>?_⟩,?_⟩
   ·have h5:=hfp.1;have h6:=hu.1;rw[e,hu.2 (by omega)];exact hfp.2 (by omega)
   rw[e,<-ih];clear hfp hu;generalize ZjP x es=es' at *;obtain⟨s0,s1,s2,s3,s4,n,ini,p⟩:=g;simp only[ndM,ji,je,own,zfq]at hD;simp only at hc;rw[ZfM Zlz.eq_1];cases ini<;>simp[hci,h1,h2,hw,hc,hD,Zly,-Int.natCast_add]
  ·obtain⟨u',hu,ih⟩:=Zgm S d g c v w ks hks r (i+1) es u h3 (by omega);have e:Zh0 g.kc.tick (x::r) es=Zh0 g.kc.tick r es:=by simp[Zh0,hc]
   refine⟨u',⟨hu.1,fun q=>by rw[e];exact hu.2 q⟩,?_⟩;rw[e,<-ih];clear hu;obtain⟨s0,s1,s2,s3,s4,n,ini,p⟩:=g;simp only at hc;rw[ZfM Zlz.eq_1];cases ini<;>simp[hci,h1,h2,hw,hc,Zly,-Int.natCast_add]
theorem Zj9(S:StV)(d:NdV)(g:RgV)(c:Int)(es:List Zou)(v w u:Nat)(hn:0<=d.now/\d.now<=1099511627776)(h:¬g.kc.tick<d.now-4):Y L Cs ZlA (some [0]) 3 [(0,.w (Pt 0))] (ndM S d g c es v w u)=some (.exit 0,[(19,.w (Bo false)),(0,.w (Pt 0))],ndM S d g c es v w u):=by
 have hw:IntKind.i64.wrap (d.now-4)=d.now-4:=zTd _ (by omega) (by omega);obtain⟨s0,s1,s2,s3,s4,n,ini,p⟩:=g;simp only at h;rw[ZfM ZlA.eq_1];cases ini<;>simp[hw,h,Zly]
def Zh9(S:StV)(zs:List Zon)(ss:List Sgn)(es:List Zou)(g:RgV):RgV:=ZhL { g with kc:=ZhP S zs ss (znE S (znB g.kc.tick es) g.kc).1 g.s0 }
theorem ZgL{S:StV}{zs:List Zon}{ss:List Sgn}(hS:z6u S zs ss)(d:NdV){g:RgV}(hg:g.na<=5)(h0:0<g.na)(hi:g.ini=false)(ha:zk0 g.s0)(hk:KB S.m g.kc)(ht:g.kc.tick<100000)(c:Int)(es:List Zou)(he:Zk8 es)(v w u:Nat)(hn:0<=d.now/\d.now<=1099511627776)(h:g.kc.tick<d.now-4) :
  Y L Cs ZlA (some [0]) 3 [(0,.w (Pt 0))] (ndM S d g c es v w u)=Y L Cs ZlA (some [0]) 3 [(0,.w (Pt 0))] (ndM S d (Zh9 S zs ss es g) c es v (w+3) u):=by
 have hw:IntKind.i64.wrap (d.now-4)=d.now-4:=zTd _ (by omega) (by omega);obtain⟨k1,k2⟩:=hk.BS (znB g.kc.tick es);have h1:=ZjM hS d g c es v w u hk.nd (fun h hh=>he _ h hh);have h2:=Zkc hS d g c es v w u k1.nd g.s0 ha;have h3:=Zki (g:={ g with kc:=ZhP S zs ss (znE S (znB g.kc.tick es) g.kc).1 g.s0 }) hg h0 hi (w+1);have h4:=(Zjr (g:={ g with kc:=ZhP S zs ss (znE S (znB g.kc.tick es) g.kc).1 g.s0 }) hg h0 hi).2.2.2.2;unfold Zh9;generalize ZhL { g with kc:=ZhP S zs ss (znE S (znB g.kc.tick es) g.kc).1 g.s0 }=g' at *;generalize znE S (znB g.kc.tick es) g.kc=y at *;obtain⟨ky,oy⟩:=y;simp only at h1 h2 h3;generalize ZhP S zs ss ky g.s0=ks at *;obtain⟨s0,s1,s2,s3,s4,n,ini,p⟩:=g;obtain⟨r0,r1,r2,r3,r4,n',ini',p'⟩:=g';simp only at h4 hi h h0 hg;subst h4;subst hi;have hn1:0<n:=h0;simp only[zG]at h1 h2;rw[ZfM ZlA.eq_1];simp[ndM,ndC,rgC,mpB,bxv]at h1 h2 h3;simp[hw,h,h1,h2,h3,hn1,zG,Zly];rfl
theorem ZkS(c:Int)(es:List Zou)(u:Nat):R L Cs Zi1 [.c (.map 0 true)] [mpB c es u]=some (.w (.c (.fn Zhd [] [.ptr 1 0 0 0])),[mpB c es u,bx 1 [.map 0 true]]):=by
 rw[zUa Zjd rfl];simp[ZhC,zr,Zly]
def ZjC(c:Int)(es:List Zou)(ks:List Int):Prop:=∀u,R L Cs Zit [.c (.fn Zhd [] [.ptr 0 0 0 0])] [bx 1 [.map 1 true],mpB c es u]=some (.w (.c (.jb (zu ks))),[bx 1 [.map 1 true],mpB c es u])
theorem Zjs{S:StV}(d:NdV)(g:RgV)(c:Int)(es:List Zou)(v w u:Nat)(g':RgV)(w1:Nat)(h1:Y L Cs ZlA (some [0]) 3 [(0,.w (Pt 0))] (ndM S d g c es v w u)=some (.exit 0,[(19,.w (Bo false)),(0,.w (Pt 0))],ndM S d g' c es v w1 u))(ks:List Int)(hK:ZjC c es ks)(hks:ks.length<=1000) :
  ∃u',(u<=u'/\(u'=u->Zh0 g'.kc.tick ks es=es))/\R L Cs Zhz [Pt 0] (ndM S d g c es v w u)=some (.t [],ndM S d g' c (Zh0 g'.kc.tick ks es) v w1 u'):=by
 have hk1:=ZkS c es u;have hk2:=hK u;obtain⟨u',hu,hL⟩:=Zgm S d g' c v w1 ks hks ks 0 es u rfl (jr _);refine⟨u',hu,?_⟩;clear hu;generalize Zh0 g'.kc.tick ks es=es' at *;obtain⟨r0,r1,r2,r3,r4,n',ini',p'⟩:=g';simp only[ndM,ji,je,jg,zfq]at hL hk2;rw[zUa ZhY rfl];cases ini'<;>simp[Zhs,h1,hk1,hk2,hL,zr,Zly]
def Zhl(S:StV)(zs:List Zon)(ss:List Sgn)(es:List Zou)(g:RgV):RgV:=if g.na=5 then Zh9 S zs ss es g else g
theorem Zj0{S:StV}{zs:List Zon}{ss:List Sgn}(hS:z6u S zs ss){g:RgV}(hg:g.na<=5)(h0:0<g.na)(hi:g.ini=false)(hk:KB S.m g.kc)(ht:g.kc.tick<100000)(es:List Zou) :
  ZjQ (Zh9 S zs ss es g)/\(Zh9 S zs ss es g).na+1=g.na/\(Zh9 S zs ss es g).jN=g.jN.tail/\(Zh9 S zs ss es g).kc=ZhP S zs ss (znE S (znB g.kc.tick es) g.kc).1 g.s0/\KB S.m (Zh9 S zs ss es g).kc/\(Zh9 S zs ss es g).kc.tick=g.kc.tick+1:=by
 obtain⟨k1,k2⟩:=hk.BS (znB g.kc.tick es);obtain⟨k3,k4⟩:=k1.step (zs:=zs) (ss:=ss) hS (by rw[k2];exact ht) g.s0;obtain⟨a1,a2,a3,a4,a5⟩:=Zjr (g:={ g with kc:=ZhP S zs ss (znE S (znB g.kc.tick es) g.kc).1 g.s0 }) hg h0 hi;refine⟨a4,a2,a1,a3,?_,?_⟩
 ·unfold Zh9;rw[a3];exact k3
 ·unfold Zh9;rw[a3];simp only;rw[k4,k2]
theorem Zkk{S:StV}{zs:List Zon}{ss:List Sgn}(hS:z6u S zs ss)(d:NdV){g:RgV}(hg:ZjQ g)(ha:∀a∈g.jN,zk0 a)(hk:KB S.m g.kc)(hn:d.now=g.kc.tick+g.na)(ht:d.now<=100000)(c:Int)(es:List Zou)(he:Zk8 es)(v w u:Nat)(ks:List Int)(hK:ZjC c es ks)(hks:ks.length<=1000) :
  ∃w' u',(w<=w'/\(w'=w->Zhl S zs ss es g=g))/\(u<=u'/\(u'=u->Zh0 (Zhl S zs ss es g).kc.tick ks es=es))/\R L Cs Zhz [Pt 0] (ndM S d g c es v w u)=some (.t [],ndM S d (Zhl S zs ss es g) c (Zh0 (Zhl S zs ss es g).kc.tick ks es) v w' u'):=by
 have hf:=hg.few;have h0:=hk.nd.t;unfold Zhl;by_cases h5:g.na=5
 ·rw[if_pos h5];have hi:g.ini=false:=by
   cases hi:g.ini with
   |false=>rfl
   |true=>have:=hg.ini hi;omega
  have hs0:g.s0∈g.jN:=by simp[RgV.jN,h5]
  obtain⟨b1,b2,b3,b4,b5,b6⟩:=Zj0 (zs:=zs) (ss:=ss) hS hf (by omega) hi hk (by omega) es;have e1:=ZgL (zs:=zs) (ss:=ss) hS d hf (by omega) hi (ha _ hs0) hk (by omega) c es he v w u (by omega) (by omega);have e2:=Zj9 S d (Zh9 S zs ss es g) c es v (w+3) u (by omega) (by rw[b6];omega);obtain⟨u',hu,h⟩:=Zjs d g c es v w u (Zh9 S zs ss es g) (w+3) (e1.trans e2) ks hK hks;exact⟨_,u',⟨by omega,fun q=>absurd q (by omega)⟩,hu,h⟩
 ·rw[if_neg h5];have e2:=Zj9 S d g c es v w u (by omega) (by omega);obtain⟨u',hu,h⟩:=Zjs d g c es v w u g w e2 ks hK hks;exact⟨_,u',⟨jm _,fun _=>rfl⟩,hu,h⟩
structure Zlw(n:Nat)(h:Hrd)(t:Int):Prop where
 n1:h.jT.length<=n
 n2:h.ku.length<=n
 n3:h.ki.length<=n
 s1:∀x∈h.jT,x.st=t
 s2:∀x∈h.ku,x.st=t
 s3:∀x∈h.ki,x.qx=t/\x.seen.length<=5000/\x.pts.length<=1000
def EsN(n:Nat)(es:List Zou):Prop:=∀e∈es,Zlw n e.hrd e.key
theorem ZlB{n:Int}{h:Hrd}:∀{es:List Zou},znB n es=some h->∃e∈es,e.key=n/\e.hrd=h
 |[],hf=>nomatch hf
 |e::r,hf=>by
  unfold znB at hf;split at hf
  ·grind
  ·obtain⟨e',h1,h2⟩:=ZlB hf
   grind
theorem EsN.nil(n:Nat):EsN n []:=fun e h=>nomatch h
theorem EsN.at{n:Nat}{es:List Zou}(h:EsN n es)(t:Int):Zlw n (Ziq es t) t:=by
 unfold Ziq;cases hf:znB t es with
 |none=>exact⟨jr _,jr _,jr _,fun x hx=>absurd hx (by simp),fun x hx=>absurd hx (by simp),fun x hx=>absurd hx (by simp)⟩
 |some y =>
  obtain⟨e,h1,rfl,rfl⟩:=ZlB hf;exact h e h1
theorem EsN.ok{n:Nat}(hn:n<=1000){es:List Zou}(h:EsN n es):Zk8 es:=fun t y hy=>by
 obtain⟨e,h1,rfl,rfl⟩:=ZlB hy;obtain⟨a,b,c,d,e,f⟩:=h e h1;exact⟨jO a hn,jO b hn,jO c hn,fun x hx=>(f x hx).1,fun x hx=>(f x hx).2.1,fun x hx=>(f x hx).2.2⟩
theorem EsN.he{n:Nat}(hn:n<=1000){es:List Zou}(h:EsN n es):Zlq 1000 es:=fun t=>by
 obtain⟨a,b,c,_⟩:=h.at t;omega
theorem EsN.mono{n k:Nat}(hn:n<=k){es:List Zou}(h:EsN n es):EsN k es:=fun t ht=>by
 obtain⟨a,b,c,d,e,f⟩:=h t ht;exact⟨by omega,by omega,by omega,d,e,f⟩
theorem ZjI{α:Type}{f:α->α}{x:α}:∀{l:List α} {i:Nat},x∈l.modify i f->x∈l\/∃y∈l,x=f y
 |[],i,h=>by grind
 |a::l,0,h=>by
  grind
 |a::l,i+1,h=>by
  rcases jM.1 h with rfl|h
  ·grind
  ·rcases ZjI h with h |⟨y,hy,e⟩
   ·grind
   grind
theorem EsN.put{n:Nat}{q:Int×List Zou}(h:EsN n q.2)(t:Int){y:Hrd}(hy:Zlw (n+1) y t):EsN (n+1) (ZiZ t y q).2:=by
 intro e he;unfold ZiZ at he;split at he
 ·rcases ZjI he with he |⟨z,_,rfl⟩
  ·exact h.mono (kH n) e he
  grind
 ·rcases jK.1 he with he|he
  ·exact h.mono (kH n) e he
  grind
theorem EsN.del{n:Nat}{es:List Zou}(h:EsN n es)(t:Int):EsN n (ZjP t es):=by
 intro e he;unfold ZjP at he;split at he
 ·exact h e (List.mem_of_mem_eraseIdx he)
 ·exact h e he
theorem EsN.fgt{n:Nat}(t:Int):∀(ks:List Int) {es:List Zou},EsN n es->EsN n (Zh0 t ks es)
 |[],es,h=>h
 |k::ks,es,h=>by
  show EsN n (Zh0 t ks (if k<t then ZjP k es else es));refine EsN.fgt t ks ?_;split
  ·exact h.del k
  grind
theorem ZjH{α:Type}{l:List α}{a x:α}(h:x∈l++[a]):x∈l\/x=a:=by grind
theorem EsN.he1{n:Nat}{d:NdV}{q:Int×List Zou}(h:EsN n q.2)(y:Mrk):EsN (n+1) (he1 d q y).2:=by
 unfold Go.TrRun.he1;split
 ·obtain⟨a,b,c,d,e,f⟩:=h.at y.st;exact h.put _ ⟨by grind,ub b,ub c,fun x hx=>by
   grind,e,f⟩
 ·exact h.mono (kH n)
theorem EsN.he2{n:Nat}{d:NdV}{q:Int×List Zou}(h:EsN n q.2)(y:Mrk):EsN (n+1) (he2 d q y).2:=by
 unfold Go.TrRun.he2;split
 ·obtain⟨a,b,c,d,e,f⟩:=h.at y.st;exact h.put _ ⟨ub a,by grind,ub c,d,fun x hx=>by
   grind,f⟩
 ·exact h.mono (kH n)
theorem EsN.he3{n:Nat}{d:NdV}{q:Int×List Zou}(h:EsN n q.2){y:zZP}(hy:y.seen.length<=5000/\y.pts.length<=1000):EsN (n+1) (he3 d q y).2:=by
 unfold Go.TrRun.he3;split
 ·obtain⟨a,b,c,d,e,f⟩:=h.at y.qx;exact h.put _ ⟨ub a,ub b,by grind,d,e,fun x hx=>by
   grind⟩
 ·exact h.mono (kH n)
structure Zjo where
 tick:Int
 ki:List zZP
 jT:List Mrk
 ku:List Mrk
abbrev inC(x:Zjo):List Cl:=[I x.tick,.jb (ZlG x.ki),.jb (zb x.jT),.jb (zb x.ku)]
structure Zlc(x:Zjo):Prop where
 n1:x.ki.length<=100
 n2:x.jT.length<=100
 n3:x.ku.length<=100
 sc:∀y∈x.ki,y.seen.length<=5000/\y.pts.length<=1000
theorem Zj5{S:StV}(d:NdV)(g:RgV)(v w:Nat)(hn:0<=d.now/\d.now<=1099511627776)(x:Zjo)(l:List Mrk)(hl:l.length<=100):∀(r:List Mrk) (i:Nat) (q:Int×List Zou) (u n:Nat),l.drop i=r->i<=l.length->EsN n q.2->n+r.length<=1000 ->
  ∃u',(u<=u'/\(u'=u->r.foldl (he1 d) q=q))/\EsN (n+r.length) (r.foldl (he1 d) q).2/\Y L Cs zn2 (some [16,15,3,14,0]) 4 (ZkL l i) (heM S d g q v w u (inC x))=some (.exit 0,(17,.w (Bo false))::ZkL l l.length,heM S d g (r.foldl (he1 d) q) v w u' (inC x))
 |[],i,q,u,n,hd,hi,hq,hk=>by
  have e:i=l.length:=by
   grind
  subst e;refine⟨u,⟨jm _,fun _=>rfl⟩,hq,?_⟩;obtain⟨s0,s1,s2,s3,s4,n,ini,p⟩:=g;rw[ZfM zn2.eq_1];cases ini<;>simp[Zly]
 |a::r,i,q,u,n,hd,hi,hq,hk=>by
  have h1:i<l.length:=by
   grind
  have h2:l[i]=a:=by grind [List.drop_eq_getElem_cons,List.cons.inj]
  have h3:l.drop (i+1)=r:=by grind [List.drop_eq_getElem_cons,List.cons.inj]
  simp only[jk]at hk;obtain⟨u1,m1,e⟩:=ZkK (S:=S) d g q v w u hn (x.tick,x.ki,x.jT,x.ku) l (by omega) i h1 (hq.he (by omega));obtain⟨u2,m2,c1,ih⟩:=Zj5 (S:=S) d g v w hn x l hl r (i+1) (he1 d q a) u1 (n+1) h3 (by omega) (hq.he1 a) (by omega);rw[h2]at e m1;exact⟨u2,⟨jO m1.1 m2.1,fun q'=>by
   rw[jX,m2.2 (by omega)];exact m1.2 (by omega)⟩,by rw[jk,<-kR,yY];exact c1,e.trans ih⟩
theorem Zj4{S:StV}(d:NdV)(g:RgV)(v w:Nat)(hn:0<=d.now/\d.now<=1099511627776)(x:Zjo)(l:List Mrk)(hl:l.length<=100):∀(r:List Mrk) (i:Nat) (q:Int×List Zou) (u n:Nat),l.drop i=r->i<=l.length->EsN n q.2->n+r.length<=1000 ->
  ∃u',(u<=u'/\(u'=u->r.foldl (he2 d) q=q))/\EsN (n+r.length) (r.foldl (he2 d) q).2/\Y L Cs znM (some [49,48,3,47,0]) 4 (ZkJ l i) (heM S d g q v w u (inC x))=some (.exit 2,(50,.w (Bo false))::ZkJ l l.length,heM S d g (r.foldl (he2 d) q) v w u' (inC x))
 |[],i,q,u,n,hd,hi,hq,hk=>by
  have e:i=l.length:=by
   grind
  subst e;refine⟨u,⟨jm _,fun _=>rfl⟩,hq,?_⟩;obtain⟨s0,s1,s2,s3,s4,n,ini,p⟩:=g;rw[ZfM znM.eq_1];cases ini<;>simp[Zly]
 |a::r,i,q,u,n,hd,hi,hq,hk=>by
  have h1:i<l.length:=by
   grind
  have h2:l[i]=a:=by grind [List.drop_eq_getElem_cons,List.cons.inj]
  have h3:l.drop (i+1)=r:=by grind [List.drop_eq_getElem_cons,List.cons.inj]
  simp only[jk]at hk;obtain⟨u1,m1,e⟩:=ZkI (S:=S) d g q v w u hn (x.tick,x.ki,x.jT,x.ku) l (by omega) i h1 (hq.he (by omega));obtain⟨u2,m2,c1,ih⟩:=Zj4 (S:=S) d g v w hn x l hl r (i+1) (he2 d q a) u1 (n+1) h3 (by omega) (hq.he2 a) (by omega);rw[h2]at e m1;exact⟨u2,⟨jO m1.1 m2.1,fun q'=>by
   rw[jX,m2.2 (by omega)];exact m1.2 (by omega)⟩,by rw[jk,<-kR,yY];exact c1,e.trans ih⟩
theorem Zkp(d:NdV)(y:zZP):(heD d y).now=d.now:=by grind [heD]
def heS:List zZP->NdV×(Int×List Zou)->NdV×(Int×List Zou)
 |[],x=>x
 |y::r,x=>heS r (heD x.1 y,he3 x.1 x.2 y)
theorem Zj3{S:StV}(g:RgV)(w:Nat)(x:Zjo)(l:List zZP)(hl:l.length<=100)(hsc:∀y∈l,y.seen.length<=5000/\y.pts.length<=1000):∀(r:List zZP) (i:Nat) (d:NdV) (q:Int×List Zou) (u v n:Nat),0<=d.now/\d.now<=1099511627776->l.drop i=r->i<=l.length->EsN n q.2->n+r.length<=1000 ->
  ∃u' v',((u<=u'/\(u'=u->(heS r (d,q)).2=q))/\(v<=v'/\(v'=v->(heS r (d,q)).1=d)))/\EsN (n+r.length) (heS r (d,q)).2.2/\Y L Cs znK (some [82,81,80,0]) 4 (ZkH l i) (heM S d g q v w u (inC x))=some (.exit 4,(83,.w (Bo false))::ZkH l l.length,heM S (heS r (d,q)).1 g (heS r (d,q)).2 v' w u' (inC x))
 |[],i,d,q,u,v,n,hn,hd,hi,hq,hk=>by
  have e:i=l.length:=by
   grind
  refine⟨u,v,⟨⟨jm _,fun _=>rfl⟩,⟨jm _,fun _=>rfl⟩⟩,hq,?_⟩
  simp_all [ZfM,znK.eq_1,Zly,heS]
 |a::r,i,d,q,u,v,n,hn,hd,hi,hq,hk=>by
  have h1:i<l.length:=by
   have:=congrArg List.length hd;simp at this;omega
  have h2:l[i]=a:=by rw[jv h1]at hd;exact(jY hd).1
  have h3:l.drop (i+1)=r:=by rw[jv h1]at hd;exact(jY hd).2
  have ha:a∈l:=by rw[<-h2];exact jf h1
  simp only[jk]at hk;obtain⟨u1,v1,⟨m1,m2⟩,e⟩:=ZkG (S:=S) d g q v w u hn (x.tick,x.ki,x.jT,x.ku) l (by omega) (fun y hy=>(hsc y hy).1) (fun y hy=>(hsc y hy).2) i h1 (hq.he (by omega));rw[h2]at e m1 m2;obtain⟨u2,v2,⟨m3,m4⟩,c1,ih⟩:=Zj3 (S:=S) g w x l hl hsc r (i+1) (heD d a) (he3 d q a) u1 v1 (n+1) (by rw[Zkp];exact hn) h3 (by omega) (hq.he3 (hsc a ha)) (by omega);exact⟨u2,v2,⟨⟨jO m1.1 m3.1,fun q'=>by
   show(heS r (heD d a,he3 d q a)).2=q;rw[m3.2 (by omega)];exact m1.2 (by omega)⟩,⟨jO m2.1 m4.1,fun q'=>by
   show(heS r (heD d a,he3 d q a)).1=d;rw[m4.2 (by omega)];exact m2.2 (by omega)⟩⟩,by rw[jk,<-kR,yY];exact c1,e.trans ih⟩
def ZiQ(d:NdV)(q:Int×List Zou)(x:Zjo):NdV×(Int×List Zou):=heS x.ki (d,x.ku.foldl (he2 d) (x.jT.foldl (he1 d) q))
theorem ZkR{S:StV}(d:NdV)(g:RgV)(q:Int×List Zou)(v w u n:Nat)(hn:0<=d.now/\d.now<=1099511627776)(x:Zjo)(hx:Zlc x)(hq:EsN n q.2)(hk:n+300<=1000) :
  ∃v' u',((u<=u'/\(u'=u->(ZiQ d q x).2=q))/\(v<=v'/\(v'=v->(ZiQ d q x).1=d)))/\EsN (n+300) (ZiQ d q x).2.2/\R L Cs Zh4 [Pt 0,.a (inC x)] (ndM S d g q.1 q.2 v w u)=some (.t [],ndM S (ZiQ d q x).1 g (ZiQ d q x).2.1 (ZiQ d q x).2.2 v' w u'):=by
 obtain⟨x1,x2,x3,x4⟩:=hx;obtain⟨u1,m1,a1,h1⟩:=Zj5 (S:=S) d g v w hn x x.jT x2 x.jT 0 q u n rfl (jr _) hq (by omega);obtain⟨u2,m2,a2,h2⟩:=Zj4 (S:=S) d g v w hn x x.ku x3 x.ku 0 (x.jT.foldl (he1 d) q) u1 _ rfl (jr _) a1 (by omega);obtain⟨u3,v3,⟨m3,m4⟩,a3,h3⟩:=Zj3 (S:=S) g w x x.ki x1 x4 x.ki 0 d (x.ku.foldl (he2 d) (x.jT.foldl (he1 d) q)) u2 v _ hn rfl (jr _) a2 (by omega);refine⟨v3,u3,⟨⟨jO m1.1 (jO m2.1 m3.1),fun e=>?_⟩,m4⟩,a3.mono (by omega),?_⟩
 ·grind [ZiQ]
 unfold ZiQ;obtain⟨s0,s1,s2,s3,s4,na,ini,p⟩:=g;simp only[ZkL,ZkJ,ZkH,heM,ndM,ji,je,jg]at h1 h2 h3;rw[zUa Zjh rfl];cases ini<;>simp[ZhF,h1,h2,h3,Zly]
abbrev fnN(f:Nat):Cl:=.fn f [.ptr 0 0 0 0] []
theorem ZjB(S:StV)(d d':NdV)(g:RgV)(c:Int)(es:List Zou)(v v' w u f f':Nat)(x:Zjo)(hv:¬v'=v)(hR:R L Cs f [Pt 0] (ndM S d g c es v w u)=some (.w (.c (fnN f')),ndM S d' g c es v' w u)) :
  Y L Cs zj (some [6,0]) 4 [(6,.w (.c (fnN f))),(0,.w (Pt 0))] (ndM S d g c es v w u++[bx 4 (inC x)])=Y L Cs zj (some [6,0]) 4 [(6,.w (.c (fnN f'))),(0,.w (Pt 0))] (ndM S d' g c es v' w u++[bx 4 (inC x)]):=by
 obtain⟨s0,s1,s2,s3,s4,na,ini,p⟩:=g;rw[ZfM zj.eq_1];cases ini<;>simp[ndM,ndC,rgC,mpB,bxv]at hR<;>simp[hR,hv,Zly,zr]
theorem ZkV(S:StV)(d d':NdV)(g g':RgV)(c:Int)(es:List Zou)(v v' w w' u f:Nat)(x:Zjo)(hv:¬v'=v)(hw:¬w'=w)(hR:R L Cs f [Pt 0] (ndM S d g c es v w u)=some (.w (.c .qY),ndM S d' g' c es v' w' u)) :
  Y L Cs zj (some [6,0]) 4 [(6,.w (.c (fnN f))),(0,.w (Pt 0))] (ndM S d g c es v w u++[bx 4 (inC x)])=some (.exit 1,[(43,.w (Bo false)),(6,.w (.c .qY)),(0,.w (Pt 0))],ndM S d' g' c es v' w' u++[bx 4 (inC x)]):=by
 obtain⟨s0,s1,s2,s3,s4,na,ini,p⟩:=g;obtain⟨r0,r1,r2,r3,r4,ma,jni,p'⟩:=g';rw[ZfM zj.eq_1];cases ini<;>cases jni<;>simp[ndM,ndC,rgC,mpB,bxv]at hR<;>simp[hR,hv,hw,Zly,zr]<;>rw[ZfM zj.eq_1]<;>simp[Zly]
structure Zk7(S:StV)(d:NdV)(g:RgV)(es:List Zou)(n:Nat):Prop where
 rg:ZjQ g
 jN:∀a∈g.jN,zk0 a
 kc:KB S.m g.kc
 now:d.now=g.kc.tick+g.na
 few:d.now<=90000
 ents:EsN n es
 last:0<=d.last/\d.last<=1099511627776
 kX:d.kX.length<=900
def goN(S:StV)(zs:List Zon)(ss:List Sgn)(d:NdV)(k:zci):NdV :=
 if(ZiF S { d with ui:=k }).mode=1 then ZiG S zs ss (ZiF S { d with ui:=k }) else ZiF S { d with ui:=k }
def hrN(S:StV)(zs:List Zon)(ss:List Sgn)(d:NdV)(g:RgV)(c:Int)(es:List Zou)(ks:List Int)(x:Zjo):NdV×(Int×List Zou):=ZiQ d (c,Zh0 (Zhl S zs ss es g).kc.tick ks es) x
theorem Zla:∀(l:List zZP) (d:NdV) (q:Int×List Zou),(heS l (d,q)).1.now=d.now/\(heS l (d,q)).1.kX=d.kX/\(heS l (d,q)).1.first=d.first/\(heS l (d,q)).1.mode=d.mode/\(heS l (d,q)).1.qP=d.qP/\(heS l (d,q)).1.told=d.told/\(heS l (d,q)).1.ui=d.ui
 |[],d,q=>⟨rfl,rfl,rfl,rfl,rfl,rfl,rfl⟩
 |y::l,d,q=>by
  have h:=Zla l (heD d y) (he3 d q y);have e:(heD d y).now=d.now/\(heD d y).kX=d.kX/\(heD d y).first=d.first/\(heD d y).mode=d.mode/\(heD d y).qP=d.qP/\(heD d y).told=d.told/\(heD d y).ui=d.ui:=by
   unfold heD;split<;>exact⟨rfl,rfl,rfl,rfl,rfl,rfl,rfl⟩
  obtain⟨a1,a2,a3,a4,a5,a6,a7⟩:=h;obtain⟨b1,b2,b3,b4,b5,b6,b7⟩:=e;exact⟨a1.trans b1,a2.trans b2,a3.trans b3,a4.trans b4,a5.trans b5,a6.trans b6,a7.trans b7⟩
theorem Zj2:∀(l:List zZP) (d:NdV) (q:Int×List Zou),0<=d.last/\d.last<=1099511627776->0<=d.now/\d.now<=1099511627776->0<=(heS l (d,q)).1.last/\(heS l (d,q)).1.last<=1099511627776
 |[],d,q,h,_=>h
 |y::l,d,q,h,hn=>by
  refine Zj2 l (heD d y) (he3 d q y) ?_ (by rw[Zkp];exact hn);unfold heD Zjv;split
  ·rename_i hc;simp only[jl,decide_eq_true_eq]at hc;simp only;omega
  ·exact h
theorem Zko{S:StV}{d d':NdV}{g g':RgV}{c c':Int}{es es':List Zou}{v v' w w' u u' f:Nat}{xs:List Cl}{X:List Cl}(hxs:xs=[]\/∃x:Zjo,xs=inC x)(hX:∃x:Zjo,X=inC x)(hv:v'=v->d'=d)(hw:w'=w->g'=g)(hu:u'=u->c'=c/\es'=es)
  (hR:R L Cs f (Pt 0::if xs=[] then [] else [.a xs]) (ndM S d g c es v w u)=some (.t [],ndM S d' g' c' es' v' w' u')) :
  ∃fp,zx (R L Cs) ⟨true⟩ (.c (.fn f [] [])) (Pt 0::if xs=[] then [] else [.a xs]) (ndM S d g c es v w u++[bx 4 X])=some (.t [],ndM S d' g' c' es' v' w' u'++[bx 4 X],fp):=by
 obtain⟨x0,rfl⟩:=hX;obtain⟨s0,s1,s2,s3,s4,na,ini,p⟩:=g;obtain⟨r0,r1,r2,r3,r4,ma,jni,p'⟩:=g';by_cases a1:v'=v
 ·have:=hv a1;subst this;subst a1;by_cases a2:w'=w
  ·have:=hw a2;cases this;subst a2;by_cases a3:u'=u
   ·obtain⟨rfl,rfl⟩:=hu a3;subst a3;refine⟨.no,?_⟩;rcases hxs with rfl |⟨x,rfl⟩<;>cases ini<;>simp[ndM,ndC,rgC,mpB,bxv]at hR<;>simp[hR,Zly]
   ·refine⟨.wr [(2,0,whole)],?_⟩;rcases hxs with rfl |⟨x,rfl⟩<;>cases ini<;>simp[ndM,ndC,rgC,mpB,bxv]at hR<;>simp[hR,Zly,a3]
  ·by_cases a3:u'=u
   ·obtain⟨rfl,rfl⟩:=hu a3;subst a3;refine⟨.wr [(1,0,whole)],?_⟩;rcases hxs with rfl |⟨x,rfl⟩<;>cases ini<;>cases jni<;>simp[ndM,ndC,rgC,mpB,bxv]at hR<;>simp[hR,Zly,a2]
   ·refine⟨.wr [(1,0,whole),(2,0,whole)],?_⟩;rcases hxs with rfl |⟨x,rfl⟩<;>cases ini<;>cases jni<;>simp[ndM,ndC,rgC,mpB,bxv]at hR<;>simp[hR,Zly,a2,a3]
 ·by_cases a2:w'=w
  ·have:=hw a2;cases this;subst a2;by_cases a3:u'=u
   ·obtain⟨rfl,rfl⟩:=hu a3;subst a3;refine⟨.wr [(0,0,whole)],?_⟩;rcases hxs with rfl |⟨x,rfl⟩<;>cases ini<;>simp[ndM,ndC,rgC,mpB,bxv]at hR<;>simp[hR,Zly,a1]
   ·refine⟨.wr [(0,0,whole),(2,0,whole)],?_⟩;rcases hxs with rfl |⟨x,rfl⟩<;>cases ini<;>simp[ndM,ndC,rgC,mpB,bxv]at hR<;>simp[hR,Zly,a1,a3]
  ·by_cases a3:u'=u
   ·obtain⟨rfl,rfl⟩:=hu a3;subst a3;refine⟨.wr [(0,0,whole),(1,0,whole)],?_⟩;rcases hxs with rfl |⟨x,rfl⟩<;>cases ini<;>cases jni<;>simp[ndM,ndC,rgC,mpB,bxv]at hR<;>simp[hR,Zly,a1,a2]
   ·refine⟨.wr [(0,0,whole),(1,0,whole),(2,0,whole)],?_⟩;rcases hxs with rfl |⟨x,rfl⟩<;>cases ini<;>cases jni<;>simp[ndM,ndC,rgC,mpB,bxv]at hR<;>simp[hR,Zly,a1,a2,a3]
theorem ZkX{S:StV}{zs:List Zon}{ss:List Sgn}(hS:z6u S zs ss){d:NdV}{g:RgV}{es:List Zou}{n:Nat}(h:Zk7 S d g es n):ZjQ (Zhl S zs ss es g)/\(Zhl S zs ss es g).na<=4/\(∀a∈(Zhl S zs ss es g).jN,zk0 a)/\KB S.m (Zhl S zs ss es g).kc/\(Zhl S zs ss es g).kc.tick+(Zhl S zs ss es g).na=d.now:=by
 obtain⟨hg,ha,hk,hn,hf,_⟩:=h;have h5:=hg.few;have h0:=hk.nd.t;unfold Zhl;by_cases c:g.na=5
 ·rw[if_pos c];have hi:g.ini=false:=by
   cases hi:g.ini with
   |false=>rfl
   |true=>have:=hg.ini hi;omega
  obtain⟨b1,b2,b3,b4,b5,b6⟩:=Zj0 (zs:=zs) (ss:=ss) hS h5 (by omega) hi hk (by omega) es;exact⟨b1,by omega,fun a q=>ha a (List.mem_of_mem_tail (by rw[<-b3];exact q)),b5,by rw[b6];omega⟩
 ·rw[if_neg c];exact⟨hg,by omega,ha,hk,by omega⟩
def Zlu(S:StV)(d:NdV):Int:=Pl.qe d.told S.car.kS
theorem ZkA{S:StV}{zs:List Zon}{ss:List Sgn}(hS:z6u S zs ss)(q:List Int)(last:Int)(k:zci)(f:Int):(zMT (zLj S.car q last k) f).length<=900:=by
 have h:=zNa hS.car q last (max 0 (min k.ego.vhi 2000)) (by omega);unfold zMT;split
 ·exact jr _
 ·by_cases c:f.toNat<(zLj S.car q last k).length
  ·have:=h _ (jf c);simp only[js,jp c,qQ];omega
  ·simp only[js,qi (Nat.le_of_not_lt c),yy,jo];omega
theorem Zkv{S:StV}{zs:List Zon}{ss:List Sgn}(hS:z6u S zs ss){d:NdV}(h:d.kX.length<=900):(ZiG S zs ss d).kX.length<=900:=by
 unfold ZiG;simp only;split
 ·exact ZkA hS _ _ _ _
 ·exact h
theorem ZkM{S:StV}{zs:List Zon}{ss:List Sgn}(hS:z6u S zs ss){d:NdV}(h:d.kX.length<=900)(K:zci):(goN S zs ss d K).kX.length<=900/\(goN S zs ss d K).now=d.now/\(goN S zs ss d K).last=d.last/\(goN S zs ss d K).ui=K/\(goN S zs ss d K).mode=(if S.yc<d.now-d.last then 2 else d.mode):=by
 unfold goN;split
 ·exact⟨Zkv hS h,rfl,rfl,rfl,rfl⟩
 ·exact⟨h,rfl,rfl,rfl,rfl⟩
theorem Zlp{S:StV}{zs:List Zon}{ss:List Sgn}(hS:z6u S zs ss){d:NdV}{g:RgV}{es:List Zou}{n:Nat}(h:Zk7 S d g es n)(hn:n+300<=1000)(c:Int)(v w u:Nat)(ks:List Int)(hK:ZjC c es ks)(hks:ks.length<=1000){x:Zjo}(hx:Zlc x)(hx8:x.ki.length<=8/\x.jT.length<=8/\x.ku.length<=8)(ht:x.tick=d.now)
  {d2:NdV} {c2:Int} {es2:List Zou} (e2:hrN S zs ss d g c es ks x=(d2,(c2,es2))) {K:zci} (eK:Zkz S zs ss (Zhl S zs ss es g) es2=(K,true)) :
  ∃v' w' u',(v<v'/\w<w'/\(u<=u'/\(u'=u->c2=c/\es2=es)))/\EsN (n+300) es2 /\
   R L Cs Zh5 [Pt 0,.a (inC x)] (ndM S d g c es v w u)=some (.t [W (Zlu S (ZjL (goN S zs ss d2 K))),W 0],ndM S (ZjL (goN S zs ss d2 K)) (ZhJ (Zhl S zs ss es g) (Pl.qe (goN S zs ss d2 K).kX 0)) c2 es2 v' w' u'):=by
 have hh:=h;obtain⟨hg,ha,hk,Bz,hfew,BF,yH,hplan⟩:=h;have hk0:=hk.nd.t;obtain⟨g1,g2,g3,g4,g5⟩:=ZkX (zs:=zs) (ss:=ss) hS hh;have h0:=ZkQ S d g c es v w u;obtain⟨w1,u1,m1,m2,h1⟩:=Zkk hS d hg ha hk Bz (by omega) c es (BF.ok (by omega)) v w u ks hK hks;have BD:=BF.fgt (Zhl S zs ss es g).kc.tick ks;obtain⟨v2,u2,⟨m3,m4⟩,Ah,h2⟩:=ZkR (S:=S) d (Zhl S zs ss es g) (c,Zh0 (Zhl S zs ss es g).kc.tick ks es) v w1 u1 n (by omega) x hx BD hn;rw[show ZiQ d (c,Zh0 (Zhl S zs ss es g).kc.tick ks es) x=(d2,(c2,es2)) from e2]at h2 Ah m3 m4;simp only at h2 Ah m3 m4;have hd:=Zla x.ki d (x.ku.foldl (he2 d) (x.jT.foldl (he1 d) (c,Zh0 (Zhl S zs ss es g).kc.tick ks es)));have hl2:=Zj2 x.ki d (x.ku.foldl (he2 d) (x.jT.foldl (he1 d) (c,Zh0 (Zhl S zs ss es g).kc.tick ks es))) yH (by omega);rw[show heS x.ki (d,x.ku.foldl (he2 d) (x.jT.foldl (he1 d) (c,Zh0 (Zhl S zs ss es g).kc.tick ks es)))=(d2,(c2,es2)) from e2]at hd hl2;simp only at hd hl2;obtain⟨yB,Ai,-⟩:=hd;have h3:=Zkj hS d2 g1 g3 g4 (by omega) c2 es2 (Ah.ok (by omega)) v2 w1 u2;have Bf:=ZkP hS es2 (Zhl S zs ss es g).jN (znE S (znB (Zhl S zs ss es g).kc.tick es2) (Zhl S zs ss es g).kc).1 (znE S (znB (Zhl S zs ss es g).kc.tick es2) (Zhl S zs ss es g).kc).2 (g4.BS _).1 (by
  rw[(g4.BS _).2];have:(Zhl S zs ss es g).jN.length<=5:=by simp[RgV.jN];omega
  omega)
 have hKB:KB S.m K:=by
  have:=Bf.1;have e:chN S zs ss es2 (Zhl S zs ss es g).jN (znE S (znB (Zhl S zs ss es g).kc.tick es2) (Zhl S zs ss es g).kc)=(K,true):=eK;rw[show((znE S (znB (Zhl S zs ss es g).kc.tick es2) (Zhl S zs ss es g).kc).1,(znE S (znB (Zhl S zs ss es g).kc.tick es2) (Zhl S zs ss es g).kc).2)=znE S (znB (Zhl S zs ss es g).kc.tick es2) (Zhl S zs ss es g).kc from rfl,e]at this;exact this
 rw[eK]at h3;simp only[if_true]at h3;clear Bf eK;obtain⟨v4,m5,h4⟩:=ZjV S { d2 with ui:=K } (Zhl S zs ss es g) c2 es2 (v2+1) w1 u2 (by simp only[yB];omega) hl2;have hgo:∃v5,v2<v5/\∀T,Y L Cs zj (some [6,0]) 4 [(6,.w (.c (fnN Zhq))),(0,.w (Pt 0))] (ndM S (goN S zs ss d2 K) (Zhl S zs ss es g) c2 es2 v5 w1 u2++[bx 4 (inC x)])=T->Y L Cs zj (some [6,0]) 4 [(6,.w (.c (fnN ZhW))),(0,.w (Pt 0))] (ndM S d2 (Zhl S zs ss es g) c2 es2 v2 w1 u2++[bx 4 (inC x)])=T:=by
  have s1:=ZjB S d2 _ (Zhl S zs ss es g) c2 es2 v2 (v2+1) w1 u2 _ _ x (by omega) h3;unfold goN;by_cases hm:(ZiF S { d2 with ui:=K }).mode=1
  ·rw[if_pos hm]at h4 ⊢;have s2:=ZjB S _ _ (Zhl S zs ss es g) c2 es2 (v2+1) v4 w1 u2 _ _ x (by omega) h4;obtain⟨v5,m6,h5⟩:=ZjR hS (ZiF S { d2 with ui:=K }) (Zhl S zs ss es g) c2 es2 v4 w1 u2 (show d2.kX.length<=1000 by rw[Ai];omega) (show K.j8.length<=100000000000 by have:=hKB.nd.len hS;omega);have s3:=ZjB S _ _ (Zhl S zs ss es g) c2 es2 v4 v5 w1 u2 _ _ x (by omega) h5;exact⟨v5,by omega,fun T hT=>s1.trans (s2.trans (s3.trans hT))⟩
  ·rw[if_neg hm]at h4 ⊢;have s2:=ZjB S _ _ (Zhl S zs ss es g) c2 es2 (v2+1) v4 w1 u2 _ _ x (by omega) h4;exact⟨v4,by omega,fun T hT=>s1.trans (s2.trans hT)⟩
 obtain⟨v5,m6,hgo⟩:=hgo;have hpl:(goN S zs ss d2 K).kX.length<=1000/\(goN S zs ss d2 K).now=d.now:=by
  obtain⟨q1,q2,_⟩:=ZkM (zs:=zs) (ss:=ss) hS (d:=d2) (by rw[Ai];exact hplan) K;exact⟨jO q1 (by decide),q2.trans yB⟩
 generalize goN S zs ss d2 K=d5 at *;have h6:=Zkl S d5 g1 g2 c2 es2 v5 w1 u2 (by omega) hpl.1;have hlp:=hgo _ (ZkV S d5 (ZjL d5) (Zhl S zs ss es g) _ c2 es2 v5 (v5+4) w1 (w1+2) u2 _ x (by omega) (by omega) h6);have hA:=Pl.C5 (ZjL d5).told (show d5.kX.length<=1000 from hpl.1) S.car.kS;refine⟨v5+4,w1+2,u2,⟨by omega,by omega,by omega,fun e=>?_⟩,Ah,?_⟩
 ·have e1:=m3.2 (by omega);have e2':=m2.2 (by omega);rw[e2']at e1;exact⟨congrArg Prod.fst e1,congrArg Prod.snd e1⟩
 have c1:¬8<max (x.ki.length:Int) (max x.jT.length x.ku.length):=by omega
 have c2':¬(1099511626776:Int)<=d.now:=by omega
 obtain⟨fp1,hc1⟩:=Zko (f:=Zhz) (xs:=[]) (X:=inC x) (.inl rfl) ⟨x,rfl⟩ (fun _=>rfl) m1.2 (fun q=>⟨rfl,m2.2 q⟩) (by simpa using h1);obtain⟨fp2,hc2⟩:=Zko (f:=Zh4) (xs:=inC x) (X:=inC x) (.inr ⟨x,rfl⟩) ⟨x,rfl⟩ m4.2 (fun _=>rfl) (fun q=>by
  have:=m3.2 q;exact⟨congrArg Prod.fst this,congrArg Prod.snd this⟩) (by simpa using h2)
 have hc0:zx (R L Cs) ⟨true⟩ (.c (.fn Zh3 [] [])) [Pt 0] (ndM S d g c es v w u++[bx 4 (inC x)])=some (.w (Bo false),ndM S d g c es v w u++[bx 4 (inC x)],.no):=by
  obtain⟨s0,s1,s2,s3,s4,na,ini,p⟩:=g;cases ini<;>simp[ndM,ndC,rgC,mpB,bxv]at h0<;>simp[h0,Zly]
 have hcA:∀M,zx (R L Cs) ⟨true⟩ (.c (.fn zGR [] [])) [.a [.jb (zu (ZjL d5).told)],W S.car.kS] M=some (.w (W (Pl.qe (ZjL d5).told S.car.kS)),M,.no):=fun M=>by
  simp[hA]
 unfold Zlu;generalize Pl.qe (ZjL d5).told S.car.kS=cc at *;generalize ZhJ (Zhl S zs ss es g) (Pl.qe d5.kX 0)=g9 at *;generalize Zh0 (Zhl S zs ss es g).kc.tick ks es=es1 at *;generalize Zhl S zs ss es g=g' at *;generalize ZjL d5=d6 at *;clear hg ha hk Bz BF BD Ah g1 g2 g3 g4 g5 h0 h1 h2 h3 h4 h6 hgo hKB hh e2 hK hA m1 m2 m3 m4 m5 m6 hl2 hpl;obtain⟨xt,xsc,xsp,xfx⟩:=x;simp only at ht c1;subst ht;simp only[inC,List.cons_ne_nil,reduceCtorEq,if_false,if_true,ndM,ji,je]at hc0 hc1 hc2 hlp;rw[zUa Zji rfl];simp[-zx,ZhG,hc0,hc1,hc2,hlp,hcA,c1,c2',Zly,zr];cases g9.ini<;>simp
theorem Znq(l:List Pss)(hl:l.length<=100000000000)(fnv:Cl)(f:Pss->Bool)(M:Mem)(hc:∀p∈l,zx (R L Cs) ⟨true⟩ (.c fnv) [.a (zKF p)] M=some (.w (Bo (f p)),M,.no))(ha:l.any f=true) :
  ∃k:Nat,k<l.length/\R L Cs zLd [.c (.jb (zKd l)),.c fnv] M=some (.w (W k),M):=by
 have htk:∀p:Pss,List.take (zKF p).length (zKF p)=zKF p:=fun p=>kE
 have h:=zxf (L:=L) (Cs:=Cs) (b:=zHw) (live:=some [7,1,0,8]) (n0:=M.length) l (fun i=>[(7,.w (W l.length)),(1,.w (.c fnv)),(0,.w (.c (.jb (zKd l)))),(8,.w (W i))]) M f (fun i=>(.ret,[(4,.w (W i))],M)) (.exit 0,[(9,.w (Bo false)),(0,.w (.c (.jb (zKd l)))),(1,.w (.c fnv)),(7,.w (W l.length)),(8,.w (W l.length))],M) ?_ ?_ ?_
 ·cases hq:l.findIdx? f with
  |none =>
   rw[kj]at hq;have:l.any f=false:=by simpa using hq
   rw[this]at ha;cases ha
  |some k =>
   rw[hq]at h;obtain⟨h1,_⟩:=jR.1 hq;refine⟨k,h1,?_⟩;simp only[jg]at h;rw[zUa zKB rfl];simp[zHI,h]
 ·intro i hi hp;have hw:=zB (i:=i) (by omega);have hcc:=hc l[i] (jf hi);have ht:=htk l[i];simp only[zNu]at ht;rw[hp]at hcc;rw[ZfM zHw.eq_1];simp[hi,hw,hcc,ht,-zx]
 ·intro i hi hp;have hcc:=hc l[i] (jf hi);have ht:=htk l[i];simp only[zNu]at ht;rw[hp]at hcc;rw[ZfM zHw.eq_1];simp[hi,hcc,ht,-zx]
 ·rw[ZfM zHw.eq_1];simp
def onZ(z:Int)(p:Pss):Bool:=decide (p.qd=z)
theorem Zme(z:Int)(p:Pss):R L Cs ZlT [.a (zKF p),Pt 0] [bxv 1 1 [I z]]=some (.w (Bo (onZ z p)),[bxv 1 1 [I z]]):=by
 rw[zUa Zmy rfl];unfold onZ;by_cases c:p.qd=z
 ·simp[Zjl,zKF,c,zg,zH]
 ·have b1:(p.qd==z)=false:=by simp[c]
  simp[Zjl,zKF,c,b1,zg,zH]
abbrev zFn(k:Nat):Cl:=.fn ZlT [] [.ptr k 0 0 0]
theorem ZmU(z:Int)(ps:List Pss)(hs:ps.length<=1000):R L Cs zKY [.c (.jb (zKd ps)),.c (zFn 0)] [bxv 1 1 [I z]]=some (.w (Bo (ps.any (onZ z))),[bxv 1 1 [I z]]):=by
 obtain⟨k,h1,h2⟩:=zO6 ps (by omega) (zFn 0) (onZ z) [bxv 1 1 [I z]] (fun p _=>by
  have h:=Zme z p;simp only[zKF]at h;simp[h,zKF])
 rw[zUa zK2 rfl];simp[zHz,h1,h2]
theorem Znu(z:Int)(ps:List Pss)(hs:ps.length<=1000)(ha:ps.any (onZ z)=true):∃k:Nat,k<ps.length/\R L Cs zLd [.c (.jb (zKd ps)),.c (zFn 0)] [bxv 1 1 [I z]]=some (.w (W k),[bxv 1 1 [I z]]) :=
 Znq ps (by omega) (zFn 0) (onZ z) [bxv 1 1 [I z]] (fun p _=>by
  have h:=Zme z p;simp only[zKF]at h;simp[h,zKF]) ha
abbrev pkE(ps:List Pss)(n i z:Nat)(zn:Nat):Env:=[(83,.w (W i)),(82,.w (W n)),(66,.w (W z)),(65,.w (W zn)),(3,.w (Pt 1)),(1,.w (Pt 0)),(4,.w (.c (.jb (zKd ps)))),(7,.w (Pt 3)),(81,.w (.c (.jb (zKd ps)))),(6,.w (.c (zFn 2))),(8,.w (Pt 4))]
theorem ZmI(S:StV)(e:Ego)(z zn:Nat)(ps:List Pss)(hs:ps.length<=1000)(f:Pss):∀(r:List Pss) (i v:Nat) (l:Pss),ps.drop i=r->i<=ps.length ->
  ∃v' l',Y L Cs Zja (some [83,82,66,65,3,1,4,7,81,6,8]) 5 (pkE ps ps.length i z zn) [bx 19 (ZlR S),bxv 1 4 (zch e),bxv 1 1 [I z],bxv 1 4 (zKF f),bxv v 4 (zKF l)] =
   some (.exit 2,(84,.w (Bo false))::[(83,.w (W ps.length)),(82,.w (W ps.length)),(66,.w (W z)),(65,.w (W zn)),(3,.w (Pt 1)),(1,.w (Pt 0)),(4,.w (.c (.jb (zKd ps)))),(7,.w (Pt 3)),(81,.w (.c (.jb (zKd ps)))),(6,.w (.c (zFn 2))),(8,.w (Pt 4))],[bx 19 (ZlR S),bxv 1 4 (zch e),bxv 1 1 [I z],bxv 1 4 (zKF f),bxv v' 4 (zKF l')])
 |[],i,v,l,hd,hi=>by
  have ee:i=ps.length:=by
   have:=congrArg List.length hd;simp at this;omega
  subst ee;refine⟨v,l,?_⟩;rw[ZfM Zja.eq_1];simp
 |p::r,i,v,l,hd,hi=>by
  have g1:i<ps.length:=by
   have:=congrArg List.length hd;simp at this;omega
  have g2:ps[i]=p:=by rw[jv g1]at hd;exact(jY hd).1
  have g3:ps.drop (i+1)=r:=by rw[jv g1]at hd;exact(jY hd).2
  have hw:=zB (i:=i) (by omega);have hci:(i:Int)<ps.length:=by omega
  have hP:=Zme z p;cases hz:onZ z p with
  |true =>
   rw[hz]at hP;obtain⟨v',l',ih⟩:=ZmI S e z zn ps hs f r (i+1) (v+1) p g3 (by omega);refine⟨v',l',?_⟩;rw[<-ih];simp only[zKF]at hP;rw[ZfM Zja.eq_1];simp[hci,g1,g2,hw,hP,zKF,zr,-Int.natCast_add]
  |false =>
   rw[hz]at hP;obtain⟨v',l',ih⟩:=ZmI S e z zn ps hs f r (i+1) v l g3 (by omega);refine⟨v',l',?_⟩;rw[<-ih];simp only[zKF]at hP;rw[ZfM Zja.eq_1];simp[hci,g1,g2,hw,hP,zKF,zr,-Int.natCast_add]
theorem Zm0(S:StV)(e:Ego)(zn:Nat)(hzn:zn<=1000)(ps:List Pss)(hs:ps.length<=1000)(hp:∀p∈ps,e.shi<p.lo):∀(f z:Nat),z+f=zn ->
  Y L Cs Zi9 (some [66,65,3,1,4]) 2 [(66,.w (W z)),(65,.w (W zn)),(3,.w (Pt 1)),(1,.w (Pt 0)),(4,.w (.c (.jb (zKd ps))))] [bx 19 (ZlR S),bxv 1 4 (zch e)] =
    some (.exit 0,[(67,.w (Bo false)),(66,.w (W zn)),(65,.w (W zn)),(3,.w (Pt 1)),(1,.w (Pt 0)),(4,.w (.c (.jb (zKd ps))))],[bx 19 (ZlR S),bxv 1 4 (zch e)])
 |0,z,h=>by
  obtain rfl:z=zn:=by omega
  rw[ZfM Zi9.eq_1];simp
 |f+1,z,h=>by
  have ih:=Zm0 S e zn hzn ps hs hp f (z+1) (by omega);have hw:=zB (i:=z) (by omega);have hci:(z:Int)<zn:=by omega
  have hC:=ZmU z ps hs;rw[<-ih];cases ha:ps.any (onZ z)with
  |false =>
   rw[ha]at hC;rw[ZfM Zi9.eq_1];simp[hci,hw,hC,zr,-Int.natCast_add]
  |true =>
   rw[ha]at hC;obtain⟨k,hk,hI⟩:=Znu z ps hs ha;obtain⟨v',l',hL⟩:=ZmI S e z zn ps hs ps[k] ps 0 1 ps[k] rfl (jr _);have hlo:¬ps[k].lo<=e.shi:=by have:=hp _ (jf hk);omega
   simp only[pkE,zKF,jg]at hL;rw[ZfM Zi9.eq_1];simp[hci,hw,hC,hI,hk,hL,hlo,zKF,zr,-Int.natCast_add]
structure Zlr(S:StV)(zs:List Zon):Prop where
 v:S.e0.vlo=0/\S.e0.vhi=0
 s:S.e0.slo<=S.e0.shi/\S.car.len<S.e0.slo/\S.e0.shi-S.e0.slo<S.car.len
 far:S.e0.shi<=zmd S.m 0 S.r
 big:S.e0.shi<=1000000000
 pas:∀p∈zKh S.m zs 0 S.r,S.e0.shi<p.lo
 kind:zaK S.m (S.r.headD 0)=1
 t:0<=S.t0/\S.t0<=50000
theorem ZnI{S:StV}{zs:List Zon}{ss:List Sgn}(hS:z6u S zs ss)(hB:Zlr S zs):R L Cs ZmL [.a (ZlR S)] []=some (.w (Bo true),[]):=by
 have hf:=hS.full.full;obtain⟨v1,v2⟩:=hB.v;obtain⟨s1,s2,s3⟩:=hB.s;obtain⟨q1,q2,_⟩:=hS.car;have hE:=zsq hf.qW hS.yd;have hP:=zPm hf hS.yd (hS.full.srt _ hS.yd) (hS.full.few _ hS.yd);have hfew:=hS.full.few _ hS.yd;have hz:S.m.qU.length=zs.length:=by have:=hf.zd.z;rw[this];simp[zk8]
 have hL:=Zm0 S S.e0 S.m.qU.length (by have:=hS.full.two;omega) (zKh S.m zs 0 S.r) (by omega) hB.pas S.m.qU.length 0 (by omega);have hpe:(ZlR S).length=19:=rfl;have hfar:=hB.far;have CN:=hB.big;have w1:IntKind.i64.wrap (S.e0.shi-S.e0.slo)=S.e0.shi-S.e0.slo:=zTd _ (by omega) (by omega);have d1:¬S.e0.shi<S.e0.slo:=by omega
 have d2:¬S.e0.slo<=S.car.len:=by omega
 have d3:¬S.car.len<=S.e0.shi-S.e0.slo:=by omega
 have d4:¬zmd S.m 0 S.r<S.e0.shi:=by omega
 generalize zKh S.m zs 0 S.r=ps at *;simp only[zf,zch,v1,v2,jg]at hE hP hL;rw[zUa ZmM rfl];simp[ZjK,v1,v2,d1,d2,d3,d4,w1,hE,hP,hL]
theorem Zl1{f esz bytes:Nat}(hN:L.lookup f=none)(hL:Cs.lookup f=some (esz,bytes,false))(h0:0<esz){rows:List (List Cl)}(hr:rows.length*bytes<=140737488355328)(h:∀x∈rows,x.length=esz):R L Cs f [.c (.jb rows)] []=some (.w (.c (sl 0 esz rows)),[some (own esz rows)]):=by
 have h1:¬esz=0:=by omega
 rw[zrP hN];simp[uy,hL,zuh,hr,h1,h0];exact h
theorem Zmx(l:List Int)(hl:l.length<=100000):R L Cs Zmb [.c (.jb (zu l))] []=some (.w (.c (sl 0 1 (zu l))),[some (own 1 (zu l))]) :=
 Zl1 (esz:=1) (bytes:=8) rfl (by kernel_rfl) (by decide) (by rw[zfq];omega) (fun x hx=>by obtain⟨y,_,rfl⟩:=jW.1 hx;rfl)
theorem Zna(l:List Prt)(hl:l.length<=100000):R L Cs Zl4 [.c (.jb (zkl l))] []=some (.w (.c (sl 0 4 (zkl l))),[some (own 4 (zkl l))]) :=
 Zl1 (esz:=4) (bytes:=32) rfl (by kernel_rfl) (by decide) (by rw[zCq];omega) (fun x hx=>by obtain⟨y,_,rfl⟩:=jW.1 hx;rfl)
theorem Zm2(l:List Phs)(hl:l.length<=100000):R L Cs ZlY [.c (.jb (zje l))] []=some (.w (.c (sl 0 2 (zje l))),[some (own 2 (zje l))]) :=
 Zl1 (esz:=2) (bytes:=32) rfl (by kernel_rfl) (by decide) (by rw[zCr];omega) (fun x hx=>by obtain⟨y,_,rfl⟩:=jW.1 hx;rfl)
abbrev Zma(l:List (Int×Int)):List (List Cl):=l.map fun p=>[I p.1,I p.2]
theorem Zm9(l:List (Int×Int))(hl:l.length<=100000):R L Cs Zl3 [.c (.jb (Zma l))] []=some (.w (.c (sl 0 2 (Zma l))),[some (own 2 (Zma l))]) :=
 Zl1 (esz:=2) (bytes:=16) rfl (by kernel_rfl) (by decide) (by rw[kl];omega) (fun x hx=>by obtain⟨y,_,rfl⟩:=jW.1 hx;rfl)
theorem Zny(l:List (Int×Int))(hl:l.length<=100000):R L Cs ZmS [.a [.jb (Zma l)]] []=some (.w (.a [.jb (Zma l)]),[]):=by
 have h:=Zm9 l hl;have hh:R L Cs ZmC [.c (.jb (Zma l))] []=some (.w (.a [.jb (Zma l)]),[]):=by
  rw[zUa ZmH rfl];simp[ZjA,h,zX];exact jw (by simp)
 rw[zUa ZmZ rfl];simp[ZjU,hh,zX]
theorem Znx(l:zfn)(h1:l.pts.length<=100000)(h2:l.next.length<=100000):R L Cs ZlO [.a (zo l)] []=some (.w (.a (zo l)),[]):=by
 have g1:=Zny l.pts h1;have g2:=Zmx l.next h2;rw[zUa ZmF rfl];simp[Zjy,zo,g1,g2,zX]
theorem Znv(z:Zon)(h:z.parts.length<=100000):R L Cs ZlM [.a (zdP z)] []=some (.w (.a (zdP z)),[]):=by
 have g:=Zna z.parts h;have ht:(zkl z.parts).take z.parts.length=zkl z.parts:=jw (by simp);rw[zUa ZmD rfl];simp[Zjw,zdP,g,ht,zX]
theorem Znw(w:zCP):R L Cs ZlN [.a (zaL w)] []=some (.w (.a (zaL w)),[]):=by
 rw[zUa ZmE rfl];simp[Zjx,zaL]
theorem Znh(s:Sgn)(u0:Nat)(hl:s.jZ.length<=1000)(hg:∀p∈s.jZ,p.green.length<=100000):∀(f i v:Nat),i+f=s.jZ.length ->
  ∃v',Y L Cs Ziy (some [11,10,2,1]) 3 [(11,.w (W i)),(10,.w (W s.jZ.length)),(2,.w (Pt 1)),(1,.w (Pt 0))] [bxv u0 2 [I s.offset,.slice 2 s.jZ.length 2 0 s.jZ.length none],bx 2 [I 0,.jc],some { box:=false,esz:=2,rows:=zje s.jZ,gen:=s.jZ.length,fz:=false,ver:=v }] =
   some (.exit 0,[(12,.w (Bo false)),(11,.w (W s.jZ.length)),(10,.w (W s.jZ.length)),(2,.w (Pt 1)),(1,.w (Pt 0))],[bxv u0 2 [I s.offset,.slice 2 s.jZ.length 2 0 s.jZ.length none],bx 2 [I 0,.jc],some { box:=false,esz:=2,rows:=zje s.jZ,gen:=s.jZ.length,fz:=false,ver:=v' }])
 |0,i,v,h=>by
  obtain rfl:i=s.jZ.length:=by omega
  refine⟨v,?_⟩;rw[ZfM Ziy.eq_1];simp
 |f+1,i,v,h=>by
  have h1:i<s.jZ.length:=by omega
  have hw:=zB (i:=i) (by omega);have hci:(i:Int)<s.jZ.length:=by omega
  obtain⟨v',ih⟩:=Znh s u0 hl hg f (i+1) (v+1) (by omega);refine⟨v',?_⟩;rw[<-ih];have hK:=Zmx s.jZ[i].green (hg _ (jf h1));have kU:(zje s.jZ)[i]?=some [I s.jZ[i].vC,.jb (zu s.jZ[i].green)]:=by simp[zje,h1,zr6]
  have AU:(zje s.jZ).set i [I s.jZ[i].vC,.jb (zu s.jZ[i].green)]=zje s.jZ:=by
   apply ue;intro k;by_cases hk:i=k
   ·subst hk;rw[jS (by simpa using h1),kU]
   ·rw[jz hk]
  have ht:(zu s.jZ[i].green).take s.jZ[i].green.length=zu s.jZ[i].green:=jw (by simp);rw[ZfM Ziy.eq_1];simp[hci,h1,hw,kU,AU,hK,ht,zr6,zX,-Int.natCast_add]
theorem Zm4(s:Sgn)(hl:s.jZ.length<=1000)(hg:∀p∈s.jZ,p.green.length<=100000):R L Cs ZlK [.a (zeq s)] []=some (.w (.a (zeq s)),[]):=by
 have hK:=Zm2 s.jZ (by omega);obtain⟨v',hL⟩:=Znh s 1 hl hg s.jZ.length 0 s.jZ.length (by omega);have ht:(zje s.jZ).take s.jZ.length=zje s.jZ:=jw (by simp);simp only[jg]at hL;rw[zUa Zmo rfl];simp[Zi5,zeq,hK,hL,ht,zX]
theorem Zl9(l:List zfn)(hl:l.length<=1000)(h:∀x∈l,(x.pts.length<=100000/\x.next.length<=100000)):∀(r:List zfn) (i:Nat),l.drop i=r->i<=l.length ->
  Y L Cs ZiB (some [5,10,9,8,1]) 2 [(5,.w (.c (sl 1 5 ((l.take i).map zo)))),(10,.w (W i)),(9,.w (W l.length)),(8,.w (.c (.jb (l.map zo)))),(1,.w (.c (.fn ZlO [] [])))] [gb 5,some (own 5 ((l.take i).map zo))] =
    some (.exit 0,[(11,.w (Bo false)),(5,.w (.c (sl 1 5 (l.map zo)))),(10,.w (W l.length)),(9,.w (W l.length)),(8,.w (.c (.jb (l.map zo)))),(1,.w (.c (.fn ZlO [] [])))],[gb 5,some (own 5 (l.map zo))])
 |[],i,hd,hi=>by
  have e:i=l.length:=by
   have:=congrArg List.length hd;simp at this;omega
  subst e;rw[kE,ZfM ZiB.eq_1];simp
 |x::r,i,hd,hi=>by
  have g1:i<l.length:=by
   have:=congrArg List.length hd;simp at this;omega
  have g2:l[i]=x:=by rw[jv g1]at hd;exact(jY hd).1
  have g3:l.drop (i+1)=r:=by rw[jv g1]at hd;exact(jY hd).2
  have hx:x∈l:=by rw[<-g2];exact jf g1
  have hw:=zB (i:=i) (by omega);have hci:(i:Int)<l.length:=by omega
  have hO:=Znx x (h x hx).1 (h x hx).2;have ih:=Zl9 l hl h r (i+1) g3 (by omega);have et:(l.take (i+1)).map zo=(l.take i).map zo++[zo x]:=by rw[ux,jp g1,g2];simp
  have kU:(l.map zo)[i]?=some (zo x):=by simp[g1,g2]
  have hlen:((l.take i).map zo).length=i:=by simp;omega
  rw[<-ih,et];have hr:(i+1)*72<=140737488355328:=by omega
  generalize (l.take i).map zo=q at *;subst hlen;simp only[zo]at hO kU;rw[ZfM ZiB.eq_1];simp[hci,g1,g2,hw,kU,hO,hr,zo,-Int.natCast_add]
theorem Znf(l:List zfn)(hl:l.length<=1000)(h:∀x∈l,(x.pts.length<=100000/\x.next.length<=100000)):R L Cs Zmk [.c (.jb (l.map zo)),.c (.fn ZlO [] [])] []=some (.w (.c (.jb (l.map zo))),[]):=by
 have hL:=Zl9 l hl h l 0 rfl (jr _);have ht:(l.map zo).take l.length=l.map zo:=jw (by simp);simp only[vj,qj,sl,own,jo,kl,jg]at hL;rw[zUa Zmr rfl];simp[Zi8,hL,ht,zr]
theorem Zl7(l:List Zon)(hl:l.length<=1000)(h:∀x∈l,(x.parts.length<=100000)):∀(r:List Zon) (i:Nat),l.drop i=r->i<=l.length ->
  Y L Cs Ziz (some [5,10,9,8,1]) 2 [(5,.w (.c (sl 1 2 ((l.take i).map zdP)))),(10,.w (W i)),(9,.w (W l.length)),(8,.w (.c (.jb (l.map zdP)))),(1,.w (.c (.fn ZlM [] [])))] [gb 2,some (own 2 ((l.take i).map zdP))] =
    some (.exit 0,[(11,.w (Bo false)),(5,.w (.c (sl 1 2 (l.map zdP)))),(10,.w (W l.length)),(9,.w (W l.length)),(8,.w (.c (.jb (l.map zdP)))),(1,.w (.c (.fn ZlM [] [])))],[gb 2,some (own 2 (l.map zdP))])
 |[],i,hd,hi=>by
  have e:i=l.length:=by
   have:=congrArg List.length hd;simp at this;omega
  subst e;rw[kE,ZfM Ziz.eq_1];simp
 |x::r,i,hd,hi=>by
  have g1:i<l.length:=by
   have:=congrArg List.length hd;simp at this;omega
  have g2:l[i]=x:=by rw[jv g1]at hd;exact(jY hd).1
  have g3:l.drop (i+1)=r:=by rw[jv g1]at hd;exact(jY hd).2
  have hx:x∈l:=by rw[<-g2];exact jf g1
  have hw:=zB (i:=i) (by omega);have hci:(i:Int)<l.length:=by omega
  have hO:=Znv x (h x hx);have ih:=Zl7 l hl h r (i+1) g3 (by omega);have et:(l.take (i+1)).map zdP=(l.take i).map zdP++[zdP x]:=by rw[ux,jp g1,g2];simp
  have kU:(l.map zdP)[i]?=some (zdP x):=by simp[g1,g2]
  have hlen:((l.take i).map zdP).length=i:=by simp;omega
  rw[<-ih,et];have hr:(i+1)*32<=140737488355328:=by omega
  generalize (l.take i).map zdP=q at *;subst hlen;simp only[zdP]at hO kU;rw[ZfM Ziz.eq_1];simp[hci,g1,g2,hw,kU,hO,hr,zdP,-Int.natCast_add]
theorem Znd(l:List Zon)(hl:l.length<=1000)(h:∀x∈l,(x.parts.length<=100000)):R L Cs Zmi [.c (.jb (l.map zdP)),.c (.fn ZlM [] [])] []=some (.w (.c (.jb (l.map zdP))),[]):=by
 have hL:=Zl7 l hl h l 0 rfl (jr _);have ht:(l.map zdP).take l.length=l.map zdP:=jw (by simp);simp only[vj,qj,sl,own,jo,kl,jg]at hL;rw[zUa Zmp rfl];simp[Zi6,hL,ht,zr]
theorem ZlX(l:List Sgn)(hl:l.length<=1000)(h:∀x∈l,(x.jZ.length<=1000/\∀p∈x.jZ,p.green.length<=100000)):∀(r:List Sgn) (i:Nat),l.drop i=r->i<=l.length ->
  Y L Cs Zik (some [5,10,9,8,1]) 2 [(5,.w (.c (sl 1 2 ((l.take i).map zeq)))),(10,.w (W i)),(9,.w (W l.length)),(8,.w (.c (.jb (l.map zeq)))),(1,.w (.c (.fn ZlK [] [])))] [gb 2,some (own 2 ((l.take i).map zeq))] =
    some (.exit 0,[(11,.w (Bo false)),(5,.w (.c (sl 1 2 (l.map zeq)))),(10,.w (W l.length)),(9,.w (W l.length)),(8,.w (.c (.jb (l.map zeq)))),(1,.w (.c (.fn ZlK [] [])))],[gb 2,some (own 2 (l.map zeq))])
 |[],i,hd,hi=>by
  have e:i=l.length:=by
   have:=congrArg List.length hd;simp at this;omega
  subst e;rw[kE,ZfM Zik.eq_1];simp
 |x::r,i,hd,hi=>by
  have g1:i<l.length:=by
   have:=congrArg List.length hd;simp at this;omega
  have g2:l[i]=x:=by rw[jv g1]at hd;exact(jY hd).1
  have g3:l.drop (i+1)=r:=by rw[jv g1]at hd;exact(jY hd).2
  have hx:x∈l:=by rw[<-g2];exact jf g1
  have hw:=zB (i:=i) (by omega);have hci:(i:Int)<l.length:=by omega
  have hO:=Zm4 x (h x hx).1 (h x hx).2;have ih:=ZlX l hl h r (i+1) g3 (by omega);have et:(l.take (i+1)).map zeq=(l.take i).map zeq++[zeq x]:=by rw[ux,jp g1,g2];simp
  have kU:(l.map zeq)[i]?=some (zeq x):=by simp[g1,g2]
  have hlen:((l.take i).map zeq).length=i:=by simp;omega
  rw[<-ih,et];have hr:(i+1)*32<=140737488355328:=by omega
  generalize (l.take i).map zeq=q at *;subst hlen;simp only[zeq]at hO kU;rw[ZfM Zik.eq_1];simp[hci,g1,g2,hw,kU,hO,hr,zeq,-Int.natCast_add]
theorem ZmW(l:List Sgn)(hl:l.length<=1000)(h:∀x∈l,(x.jZ.length<=1000/\∀p∈x.jZ,p.green.length<=100000)):R L Cs Zl5 [.c (.jb (l.map zeq)),.c (.fn ZlK [] [])] []=some (.w (.c (.jb (l.map zeq))),[]):=by
 have hL:=ZlX l hl h l 0 rfl (jr _);have ht:(l.map zeq).take l.length=l.map zeq:=jw (by simp);simp only[vj,qj,sl,own,jo,kl,jg]at hL;rw[zUa Zl6 rfl];simp[ZiK,hL,ht,zr]
theorem Zl8(l:List zCP)(hl:l.length<=1000)(h:∀x∈l,True):∀(r:List zCP) (i:Nat),l.drop i=r->i<=l.length ->
  Y L Cs ZiA (some [5,10,9,8,1]) 2 [(5,.w (.c (sl 1 6 ((l.take i).map zaL)))),(10,.w (W i)),(9,.w (W l.length)),(8,.w (.c (.jb (l.map zaL)))),(1,.w (.c (.fn ZlN [] [])))] [gb 6,some (own 6 ((l.take i).map zaL))] =
    some (.exit 0,[(11,.w (Bo false)),(5,.w (.c (sl 1 6 (l.map zaL)))),(10,.w (W l.length)),(9,.w (W l.length)),(8,.w (.c (.jb (l.map zaL)))),(1,.w (.c (.fn ZlN [] [])))],[gb 6,some (own 6 (l.map zaL))])
 |[],i,hd,hi=>by
  have e:i=l.length:=by
   have:=congrArg List.length hd;simp at this;omega
  subst e;rw[kE,ZfM ZiA.eq_1];simp
 |x::r,i,hd,hi=>by
  have g1:i<l.length:=by
   have:=congrArg List.length hd;simp at this;omega
  have g2:l[i]=x:=by rw[jv g1]at hd;exact(jY hd).1
  have g3:l.drop (i+1)=r:=by rw[jv g1]at hd;exact(jY hd).2
  have hw:=zB (i:=i) (by omega);have hci:(i:Int)<l.length:=by omega
  have hO:=Znw x;have ih:=Zl8 l hl h r (i+1) g3 (by omega);have et:(l.take (i+1)).map zaL=(l.take i).map zaL++[zaL x]:=by rw[ux,jp g1,g2];simp
  have kU:(l.map zaL)[i]?=some (zaL x):=by simp[g1,g2]
  have hlen:((l.take i).map zaL).length=i:=by simp;omega
  rw[<-ih,et];have hr:(i+1)*48<=140737488355328:=by omega
  generalize (l.take i).map zaL=q at *;subst hlen;simp only[zaL]at hO kU;rw[ZfM ZiA.eq_1];simp[hci,g1,g2,hw,kU,hO,hr,zaL,-Int.natCast_add]
theorem Zne(l:List zCP)(hl:l.length<=1000)(h:∀x∈l,True):R L Cs Zmj [.c (.jb (l.map zaL)),.c (.fn ZlN [] [])] []=some (.w (.c (.jb (l.map zaL))),[]):=by
 have hL:=Zl8 l hl h l 0 rfl (jr _);have ht:(l.map zaL).take l.length=l.map zaL:=jw (by simp);simp only[vj,qj,sl,own,jo,kl,jg]at hL;rw[zUa Zmq rfl];simp[Zi7,hL,ht,zr]
theorem ZnH{m:zD}{zs:List Zon}{ss:List Sgn}(hF:zKj m zs ss):R L Cs ZmR [.a (zf m)] []=some (.w (.a (zf m)),[]):=by
 have hf:=hF.full;have hz:=hf.zd.z;have hs:=hf.zd.s;have h1:=Znf m.jd (by have:=hf.yA.few;omega) (fun l hl=>by
  obtain⟨x0,y0,x1,y1,e,_⟩:=hf.one.one l hl;refine⟨by rw[e];simp,?_⟩;have:=hf.qW.small.next l hl;omega)
 have h2:=Znd zs (by have:=hF.two;omega) (fun z hq=>by have:=hf.zd.pfew z hq;omega);have h3:=ZmW ss (by have:=hf.zd.sfew;omega) (fun s hq=>by
  have:=hf.zd.ph s hq;exact⟨by have:=this.few;omega,fun p hp=>by have:=this.green p hp;omega⟩)
 have h4:=Zne m.kQ hF.kQ (fun _ _=>trivial);rw[zUa ZmY rfl];simp only[zk8,zjd]at hz hs;simp[ZjT,zf,hz,hs,h1,h2,h3,h4]
theorem ZmV{S:StV}{zs:List Zon}{ss:List Sgn}(hS:z6u S zs ss):R L Cs Zmv [.a (ZlR S)] []=some (.w (.a (ZlR S)),[]):=by
 have h1:=ZnH hS.full;have hr2:=zlP hS.full.full.yA hS.yd;have h2:=Zmx S.r (by omega);simp only[zf]at h1;rw[zUa Zmz rfl];simp[Zjm,h1,h2,zX]
theorem ZmX{S:StV}{zs:List Zon}{ss:List Sgn}(hS:z6u S zs ss)(hB:Zlr S zs):R L Cs Zmd [.a (ZlR S)] []=some (.w (W 0),[]):=by
 have hf:=hS.full.full;have hr2:=zlP hf.yA hS.yd;obtain⟨hon,hne,hl8⟩:=zg1 hf.qW hS.yd;have h1:=hf.qW.chk;have h2:=zQC hf.qW hS.full.fit.1;have h3:=zos S.m hf.qW.small h1 S.r (by omega);rw[hS.yd]at h3;have h4:=Pl.yx hS.car;have h5:=ZnI hS hB;have hk:=hB.kind;have hb:=hS.bud;have hs:=hS.sil;have ht:=hB.t;obtain⟨x,r,hr⟩:∃x r,S.r=x::r:=by cases h:S.r with|nil=>exact absurd h hne|cons x r=>exact⟨x,r,rfl⟩
 have hx:=hon x (by rw[hr];exact jx);obtain⟨j,rfl⟩:=jB hx.1;have hj:j<S.m.jd.length:=by omega
 rw[hr]at hk;have hk2:S.m.jd[j].kind=1:=by
  simpa [zaK,hj]using hk
 have d1:¬S.t0<0:=by omega
 have d2:¬(1099510627776:Int)<S.t0:=by omega
 have d3:¬S.kM<0:=by omega
 have d4:¬(8:Int)<S.kM:=by omega
 have d5:¬S.yc<0:=by omega
 have d6:¬(1000:Int)<S.yc:=by omega
 have vE:(zu S.r)[0]?=some [I (j:Int)]:=by rw[hr];rfl
 have hlen:0<S.r.length:=by rw[hr];simp
 have hg0:∀h:0<S.r.length,S.r[0]=(j:Int):=fun h=>by simp[hr]
 simp only[zf,Pl.kJ]at h1 h2 h3 h4;rw[zUa Zmg rfl];simp[ZiX,h1,h2,h3,h4,h5,d1,d2,d3,d4,d5,d6,hlen,hg0,hj,zo,hk2]
def nd0(S:StV):NdV:=⟨S.t0,S.t0,S.t0,1,[0],0,[0],Zhv S ⟨S.t0,zTA 0 S.m.jd,S.e0⟩,0⟩
def rg0(S:StV):RgV:=⟨0,0,0,0,0,0,true,Zhv S ⟨S.t0,zTA 0 S.m.jd,S.e0⟩⟩
set_option maxRecDepth 100000
open Go Go.Eng Go.PlanLaw
def zT7:List Pss->Bool
 |[]=>true
 |[_]=>true
 |[p,q]=>decide (p.lo<=q.lo)&&decide (p.hi<=q.hi)&&decide (q.lo<=p.hi+300)
 |_=>false
def zTY(ps:List Pss)(z:Int):Bool:=zT7 (ps.filter fun p=>decide (p.qd=z))
theorem zT6(k:Nat)(hk:k<7)(lim r o1 o2 o3 v:Int)(ws:List zCP):zTx (zq k lim r o1 o2 o3 v ws) (fun l=>(List.range (zsP k r).length).all fun z=>zTY (zKh (zq k lim r o1 o2 o3 v ws) (zsP k r) 0 l) z)=true:=match k,hk with
 |0,_=>by kernel_rfl
 |1,_=>by kernel_rfl
 |2,_=>by kernel_rfl
 |3,_=>by kernel_rfl
 |4,_=>by kernel_rfl
 |5,_=>by kernel_rfl
 |6,_=>by kernel_rfl
theorem zT3(k:Nat)(hk:k<7)(lim r o1 o2 o3 v:Int)(ws:List zCP):zaK (zq k lim r o1 o2 o3 v ws) ((zDT (zq k lim r o1 o2 o3 v ws) 0).headD 0)=1:=match k,hk with
 |0,_=>by kernel_rfl
 |1,_=>by kernel_rfl
 |2,_=>by kernel_rfl
 |3,_=>by kernel_rfl
 |4,_=>by kernel_rfl
 |5,_=>by kernel_rfl
 |6,_=>by kernel_rfl
set_option maxRecDepth 10000
open Go Go.Eng Go.PlanLaw
theorem zTQ{m:zD}(h:zcp m):∀(r:List zfn) (i:Nat),m.jd.drop i=r->∀b∈zTA i r,VB m b/\(i:Int)<=b.lane
 |[],i,_,b,hb=>by cases hb
 |l::r,i,hd,b,hb=>by
  obtain⟨hi,hx,hd'⟩:=zL hd;unfold zTA at hb;rcases jM.1 hb with rfl|hb
  ·have hlen:z8 m (i:Int)=l.len:=by simp[z8,hi,hx]
   have hl1:=h.Cq l (by rw[<-hx];exact jf hi);have htop:0<=zeR l.kind:=by unfold zeR;(repeat' split)<;>omega
   have hkd:zaK m (i:Int)=l.kind:=by simp[zaK,hi,hx]
   refine⟨⟨⟨by simp[zTF],by simp[zTF];omega⟩,by simp[zTF],by simp[zTF];omega,by simp[zTF,hlen],by simp[zTF],by simpa [zTF]using htop,by simp[zTF,hkd],by simp[zTF,hlen];omega⟩,by simp[zTF]⟩
  ·have:=zTQ h r (i+1) hd' b hb;exact⟨this.1,by omega⟩
theorem zTX{m:zD}(h:zcp m):∀(r:List zfn) (i:Nat),m.jd.drop i=r->(zTA i r).Pairwise Apt
 |[],i,_=>List.Pairwise.nil
 |l::r,i,hd=>by
  obtain⟨hi,hx,hd'⟩:=zL hd;unfold zTA;refine km.2 ⟨fun b hb=>.inl ?_,zTX h r (i+1) hd'⟩;have:=(zTQ h r (i+1) hd' b hb).2;show(i:Int)<b.lane;omega
open Go Go.Eng
theorem KNd.zero{S:StV}{zs:List Zon}{ss:List Sgn}(hS:z6u S zs ss)(hB:Zlr S zs):KNd S.m ⟨S.t0,zTA 0 S.m.jd,S.e0⟩:=by
 have hg:=hS.full.full.qW;obtain⟨v1,v2⟩:=hB.v;obtain⟨s1,s2,s3⟩:=hB.s;obtain⟨q1,q2,_⟩:=hS.car;have hb:=hB.big;have ht:=hB.t;refine⟨⟨fun b hb=>(zTQ hg S.m.jd 0 rfl b hb).1,zTX hg S.m.jd 0 rfl,⟨⟨by simp only;omega,by simp only;omega,by simp only;omega⟩,⟨by simp only;omega,by simp only;omega,by simp only;omega⟩⟩⟩,by simp only;omega⟩
theorem KB.zero{S:StV}{zs:List Zon}{ss:List Sgn}(hS:z6u S zs ss)(hB:Zlr S zs):KB S.m (Zhv S ⟨S.t0,zTA 0 S.m.jd,S.e0⟩):=by
 have hb:=hB.big;have ht:=hB.t;exact⟨(KNd.zero hS hB).own,by simp only[Zhv];omega,by simp only[Zhv];omega⟩
abbrev Zn3(S:StV):List Cl:=[I S.m.version,.jb (S.m.jd.map zo),.jb S.m.qU,.jb S.m.signals,.jb (S.m.kQ.map zaL),.jb (zu S.r),I S.car.len,I S.car.kV,I S.car.kC,I S.car.uM,I S.car.kS,I S.e0.slo,I S.e0.shi,I S.e0.vlo,I S.e0.vhi,I S.t0,I S.kM,I S.yc,.bool S.sig,
 I S.m.version,.jb (S.m.jd.map zo),.jb S.m.qU,.jb S.m.signals,.jb (S.m.kQ.map zaL),.jb (zu S.r),.jb (zu (zW S.m 0 S.r)),I (zmd S.m 0 S.r),I S.car.len,.jb (zu (S.m.jd.map zfn.len)),.jb (zgU (srcs S)),
 I S.t0,I S.t0,I S.t0,I 1,.jb [[I 0]],.kT,.map 1 true,I 0,.jc,I 0,.jc,I 0,I 0,I 0,I 0,I 0]
theorem ZnJ{S:StV}{zs:List Zon}{ss:List Sgn}(hS:z6u S zs ss)(v:Nat){k:zci}(hk:k.j8.length<=300000000)(he:znd k.ego):R L Cs Zjk [Pt 0,.a (zG k)] [bxv v 46 (Zn3 S),mpB 0 [] 0]=some (.w (.a (zG (Zhv S k))),[bxv v 46 (Zn3 S),mpB 0 [] 0]):=by
 have hG:=hS.full.full.qW;obtain⟨hon,hne,hl8⟩:=zg1 hG hS.yd;have hr2:=zlP hS.full.full.yA hS.yd;have hc:=hS.car;have hlen:0<=S.car.len/\S.car.len<=20000:=by obtain⟨q1,q2,_⟩:=hc;omega
 have hes:=he.s;have h1:=zor hG S.r (by omega) hon S.car.len k.ego (by omega) hlen k.j8 (by
  have:2 ^ S.r.length<=2 ^ 8:=vh (by decide) (by omega)
  calc k.j8.length*2 ^ S.r.length<=300000000*2 ^ 8:=yi hk this
   _<=100000000000:=by decide)
 have h2:=zvv k.j8 (by omega);simp only[zh,zi,zch]at h1;rw[zUa Zjq rfl];simp[ZhN,zG,Zhv,h1,h2,zX,Zly]
theorem Znz{S:StV}{zs:List Zon}{ss:List Sgn}(hS:z6u S zs ss)(hB:Zlr S zs):R L Cs ZlW [.a (ZlR S)] []=some (.t [Pt 0,W 0],ndM S (nd0 S) (rg0 S) 0 [] 4 0 0):=by
 have hf:=hS.full.full;have hk:=KNd.zero hS hB;have h1:=ZmX hS hB;have h2:=ZmV hS;have h3:=zB9 hf.qW hS.yd S.car.len;have h4:=Zn6 hf.qW S.t0 S.e0;have h5:=ZnJ hS 1 (k:=⟨S.t0,zTA 0 S.m.jd,S.e0⟩) (by have:=hk.len hS;omega) hk.j.ego;have e0:(Zhv S ⟨S.t0,zTA 0 S.m.jd,S.e0⟩).tick=S.t0/\(Zhv S ⟨S.t0,zTA 0 S.m.jd,S.e0⟩).ego=S.e0:=⟨rfl,rfl⟩;unfold nd0 rg0;generalize Zhv S ⟨S.t0,zTA 0 S.m.jd,S.e0⟩=K at *;obtain⟨kt,kb,ke⟩:=K;simp only at e0;obtain⟨rfl,rfl⟩:=e0;generalize zTA 0 S.m.jd=A at *;simp only[zf,zh,zi,zG,zch,mpB,qj]at h3 h4 h5;rw[zUa ZmG rfl];simp[Zjz,h1,h2,h3,h4,h5,zr]
set_option maxRecDepth 100000
open Go Go.Eng Go.PlanLaw
def Zn5(m:zD)(zs:List Zon)(l:List Int):Bool:=!(decide (l.headD 0∈zbK m 0 m.jd)&&decide (zaK m (l.headD 0)=1))||((zKh m zs 0 l).all (fun p=>decide (10250<p.lo))&&decide (10250<=zmd m 0 l))
theorem Zn4(k:Nat)(hk:k<7)(lim r o1 o2 o3 v:Int)(ws:List zCP):zTx (zq k lim r o1 o2 o3 v ws) (Zn5 (zq k lim r o1 o2 o3 v ws) (zsP k r))=true:=match k,hk with
 |0,_=>by kernel_rfl
 |1,_=>by kernel_rfl
 |2,_=>by kernel_rfl
 |3,_=>by kernel_rfl
 |4,_=>by kernel_rfl
 |5,_=>by kernel_rfl
 |6,_=>by kernel_rfl
structure ZnL(m:zD)(zs:List Zon)(ss:List Sgn):Prop where
 full:zKj m zs ss
 con:∀l,zdA m l=0->∀z:Nat,z<zs.length->zTY (zKh m zs 0 l) z=true
 k0:zaK m ((zDT m 0).headD 0)=1
 wl:∀w∈m.kQ,0<=w.ye
 beg:∀k,zaK m ((zDT m k).headD 0)=1->(∀p∈zKh m zs 0 (zDT m k),10250<p.lo)/\10250<=zmd m 0 (zDT m k)
theorem ZnA(n:Int):∃m zs ss,ZnL m zs ss/\R L Cs zY [W n] []=some (.w (.a (zf m)),[]):=by
 obtain⟨k,lim,r,o1,o2,o3,v,ws,hk,nu,hR⟩:=zA5 n;have hF:=zTs k hk nu;refine⟨_,_,_,⟨hF,fun l hr z hz=>?_,zT3 k hk lim r o1 o2 o3 v ws,fun x hx=>?_,fun j hj=>?_⟩,hR⟩
 ·exact jy.1 (zTp hF.full.yA (zT6 k hk lim r o1 o2 o3 v ws) hr) z (uG.2 hz)
 ·obtain⟨j,hj,_,_,_,_,_,_,_,h7,_⟩:=nu.wv x hx;exact h7
 ·have hr:=zE5 hF.full hF.pos j;have hb:=zTp hF.full.yA (Zn4 k hk lim r o1 o2 o3 v ws) hr;have hne:=zFr hF.full.yA hF.pos;have hin:(zDT (zq k lim r o1 o2 o3 v ws) j).headD 0∈zbK (zq k lim r o1 o2 o3 v ws) 0 (zq k lim r o1 o2 o3 v ws).jd:=by
   have hlen:0<(zbK (zq k lim r o1 o2 o3 v ws) 0 (zq k lim r o1 o2 o3 v ws).jd).length:=kK.2 hne;unfold zDT;rw[if_neg hne,Ax];have hi:=uh (j % 1048576).toNat hlen;rw[js,jp hi];exact jf hi
  unfold Zn5 at hb;simp only[hin,hj,decide_true,Bool.and_self,Bool.not_true,uA,jl,decide_eq_true_eq,jy]at hb;exact hb
def Zns(m:zD)(k bu si dl s sp ln ac br ra:Int)(sg:Bool):StV :=
 ⟨m,zDT m k,⟨300+ln % 4700,1+ac % 30,50+br % 41,20+ra % 101,dl % 6⟩,⟨300+ln % 4700+1+s % 5000,300+ln % 4700+1+s % 5000+sp % 250,0,0⟩,0,bu % 9,si % 12,sg⟩
theorem ZnR{m:zD}{zs:List Zon}{ss:List Sgn}(hM:ZnL m zs ss){k:Int}(hk:k=0\/zaK m ((zDT m k).headD 0)=1)(bu si dl s sp ln ac br ra:Int)(sg:Bool) :
  z6u (Zns m k bu si dl s sp ln ac br ra sg) zs ss/\Zlr (Zns m k bu si dl s sp ln ac br ra sg) zs:=by
 have hkd:zaK m ((zDT m k).headD 0)=1:=by
  rcases hk with rfl|h
  ·exact hM.k0
  ·exact h
 obtain⟨b1,b2⟩:=hM.beg k hkd;have hro:=zE5 hM.full.full hM.full.pos k;unfold Zns;refine⟨⟨hM.full,hro,?_,?_,?_⟩,⟨⟨rfl,rfl⟩,?_,?_,?_,?_,hkd,?_⟩⟩
 ·unfold Car.ok;simp only;omega
 all_goals simp only
 all_goals first |omega |skip
 intro p hp;have:=b1 p hp;omega
theorem ZnS(n r dl bu si s sp ln ac br ra:Int)(sg:Bool):∃m zs ss k,ZnL m zs ss/\(k=0\/zaK m ((zDT m k).headD 0)=1) /\
  R L Cs ZlI [.a [I n,I r,I dl,I bu,I si,I s,I sp,I ln,I ac,I br,I ra,.bool sg]] []=some (.w (.a (ZlR (Zns m k bu si dl s sp ln ac br ra sg))),[]):=by
 obtain⟨m,zs,ss,hM,hR⟩:=ZnA n;obtain⟨k,hk,hRt⟩:=zT8 hM.full.full.qW r;refine⟨m,zs,ss,k,hM,hk,?_⟩;have e1:=zEW bu 9 (by omega) (by omega);have e2:=zEW si 12 (by omega) (by omega);have e3:=zEW dl 6 (by omega) (by omega);have e4:=zD0 ln 4700 (by omega) (by omega);have e5:=zD0 ac 30 (by omega) (by omega);have e6:=zD0 br 41 (by omega) (by omega);have e7:=zD0 ra 101 (by omega) (by omega);have e8:=zD0 s 5000 (by omega) (by omega);have e9:=zD0 sp 250 (by omega) (by omega);have w1:=zTd (300+ln % 4700) (by omega) (by omega);have w2:=zTd (1+ac % 30) (by omega) (by omega);have w3:=zTd (50+br % 41) (by omega) (by omega);have w4:=zTd (20+ra % 101) (by omega) (by omega);have w5:=zTd (300+ln % 4700+1) (by omega) (by omega);have w6:=zTd (300+ln % 4700+1+s % 5000) (by omega) (by omega);have w7:=zTd (300+ln % 4700+1+s % 5000+sp % 250) (by omega) (by omega);rw[zUa ZlV rfl];simp only[zf]at hR hRt;unfold Zns;simp[Zil,hR,hRt,e1,e2,e3,e4,e5,e6,e7,e8,e9,w1,w2,w3,w4,w5,w6,w7]
set_option maxRecDepth 10000
open Go Go.Eng Go.PlanLaw
theorem zUm(m:zD)(zs:List Zon)(ss:List Sgn)(r:List Int)(c:zK8)(k:zci)(p:List Int)(signals:Bool):(zOk m zs ss r c k p signals).1=true <->
  zKW m r c k=true/\uP c p=0/\(zKr m zs ss r c.len (zKh m zs 0 r) (pvV m zs r) signals p 0 k).1=none/\fbF m r p k.tick k.ego=none/\zLQ c.len (pvV m zs r) (zKr m zs ss r c.len (zKh m zs 0 r) (pvV m zs r) signals p 0 k).2=true:=by
 unfold zOk;by_cases h:zKW m r c k=true/\uP c p=0
 ·rw[if_pos h];unfold zNw zLH;generalize zKr m zs ss r c.len (zKh m zs 0 r) (pvV m zs r) signals p 0 k=V;obtain⟨v1,v2⟩:=V;cases v1 with
  |none =>
   by_cases hs:zLQ c.len (pvV m zs r) v2=true
   ·rw[if_pos hs];cases fbF m r p k.tick k.ego with
    |none=>grind [zKX]
    |some b=>simp[zKX]
   ·rw[if_neg hs];cases fbF m r p k.tick k.ego with
    |none=>grind [zKX]
    |some b=>simp[zKX]
  |some x =>
   cases fbF m r p k.tick k.ego with
   |none=>simp[zKX]
   |some b =>
    grind [zKX]
 grind
def Zjt(S:StV)(zs:List Zon)(ss:List Sgn)(k:zci)(p:List Int):Bool:=(zOk S.m zs ss S.r S.car k p S.sig).1
structure ZkT(S:StV)(zs:List Zon)(ss:List Sgn):Prop where
 ok:z6u S zs ss
 be:Zlr S zs
 con:∀z:Nat,z<zs.length->zTY (zKh S.m zs 0 S.r) z=true
 wl:∀w∈S.m.kQ,0<=w.ye
theorem Zkn(kM:Int)(ok:List Int->Bool):∀(t:List (List Int)) (i:Nat),0<=(zK5 kM ok t i).1->∃j,j<t.length/\(zK5 kM ok t i).1=((i+j:Nat):Int)/\ok (t.getD j [])=true
 |[],i,h=>by simp[zK5]at h
 |p::t,i,h=>by
  unfold zK5 at h ⊢;split
  ·rename_i c;rw[if_pos c]at h;simp at h
  ·rename_i c;rw[if_neg c]at h;split
   ·rename_i c2;exact⟨0,by simp,by simp,by simpa using c2⟩
   ·rename_i c2;rw[if_neg c2]at h;obtain⟨j,h1,h2,h3⟩:=Zkn kM ok t (i+1) h;exact⟨j+1,by simp;omega,by rw[h2];omega,by simpa using h3⟩
theorem ZkW{S:StV}{zs:List Zon}{ss:List Sgn}(hc:S.car.ok)(d:NdV)(h:0<=(Zkd S zs ss d).1):Zjt S zs ss d.ui (ZiG S zs ss d).kX=true/\(ZiG S zs ss d).kX.length<=125:=by
 unfold ZiG;simp only[if_pos h];unfold Zkd zOU at h ⊢;obtain⟨j,h1,h2,h3⟩:=Zkn _ _ _ 0 h;unfold zMT;rw[h2,if_neg (by omega),show(((0+j:Nat):Int)).toNat=j by omega];constructor
 ·unfold okC at h3;simp only[jl,decide_eq_true_eq]at h3;obtain⟨⟨h4,h5⟩,h6⟩:=h3;unfold Zjt zOk;rw[if_pos ⟨h4,h5⟩];exact h6
 ·have hl:=fun up hold=>zOt hc (Zh2 d S.car.kS.toNat) d.qP (max 0 (min d.ui.ego.vhi 2000)) up hold (by omega)
  have hm:(zLj S.car (Zh2 d S.car.kS.toNat) d.qP d.ui).getD j []∈zLj S.car (Zh2 d S.car.kS.toNat) d.qP d.ui:=by
   rw[js,jp h1];exact jf h1
  generalize (zLj S.car (Zh2 d S.car.kS.toNat) d.qP d.ui).getD j []=p at *;simp only[zLj,Pl.yp,jM,qg,or_false]at hm;rcases hm with rfl|rfl|rfl|rfl|rfl|rfl|rfl|rfl
  ·have:=hl 6 4;omega
  ·have:=hl 6 0;omega
  ·have:=hl 3 4;omega
  ·have:=hl 3 0;omega
  ·have:=hl 1 4;omega
  ·have:=hl 1 0;omega
  ·have:=hl 0 4;omega
  ·have:=hl 0 0;omega
set_option maxRecDepth 100000
open Go Go.Eng
structure Zoz(n:Nat)(c:Int)(es:List Zou):Prop where
 few:es.length<=n
 lt:∀b∈es.map (·.born),b<c
 nb:(es.map (·.born)).Nodup
 nk:(es.map (·.key)).Nodup
 Da:∀k∈es.map (·.key),zk0 k
theorem Zoz.nil(c:Int):Zoz 0 c []:=⟨jm _,by simp,by simp,by simp,by simp⟩
theorem Zoz.mono{n m:Nat}{c:Int}{es:List Zou}(h:Zoz n c es)(hm:n<=m):Zoz m c es:=⟨jO h.few hm,h.lt,h.nb,h.nk,h.Da⟩
theorem Zpg{t:Int}:∀{es:List Zou} {i:Nat},ZiR t es i=none->t∉es.map (·.key)
 |[],i,_=>by simp
 |e::es,i,h=>by
  unfold ZiR at h;split at h
  ·cases h
  ·rename_i hc;simp only[kh,jM,not_or];exact⟨hc,Zpg h⟩
theorem Zpf{t:Int}{y:Hrd}:∀{es:List Zou} {i j:Nat},ZiR t es i=some (j,y)->∃k,j=i+k/\(es.map (·.key))[k]?=some t
 |[],i,j,h=>by simp[ZiR]at h
 |e::es,i,j,h=>by
  unfold ZiR at h;split at h
  ·rename_i hc;cases h;exact⟨0,rfl,by simp[hc]⟩
  ·obtain⟨k,h1,h2⟩:=Zpf h;exact⟨k+1,by omega,by simpa using h2⟩
theorem ZoN{α β:Type}{f:α->α}{g:α->β}:∀(l:List α) (i:Nat),(∀a,l[i]?=some a->g (f a)=g a)->(l.modify i f).map g=l.map g
 |[],i,_=>by simp
 |a::l,0,h=>by simp[h a rfl]
 |a::l,i+1,h=>by simp[ZoN l i (fun b hb=>h b (by simpa using hb))]
theorem Zoz.put{n:Nat}{q:Int×List Zou}(h:Zoz n q.1 q.2){t:Int}(ht:zk0 t)(y:Hrd):Zoz (n+1) (ZiZ t y q).1 (ZiZ t y q).2:=by
 obtain⟨c,es⟩:=q;obtain⟨h1,h2,h3,h4,h5⟩:=h;simp only at h1 h2 h3 h4 h5;unfold ZiZ;simp only;cases hf:ZiR t es 0 with
 |none =>
  simp only;have hn:=Zpg hf;refine⟨by simp;omega,fun b hb=>?_,?_,?_,fun k hk=>?_⟩
  ·simp only[qs,kh,qj,jK,jH]at hb;rcases hb with hb|rfl
   ·have:=h2 b hb;omega
   ·omega
  ·simp only[qs,kh,qj];refine List.nodup_append.2 ⟨h3,by simp,fun a ha b hb=>?_⟩;rw[jH.1 hb];have:=h2 a ha;omega
  ·simp only[qs,kh,qj];refine List.nodup_append.2 ⟨h4,by simp,fun a ha b hb=>?_⟩;rw[jH.1 hb];exact fun e=>hn (e ▸ ha)
  ·simp only[qs,kh,qj,jK,jH]at hk;rcases hk with hk|rfl
   ·exact h5 k hk
   ·exact ht
 |some r =>
  obtain⟨j,y'⟩:=r;simp only;obtain⟨k,hj,hk⟩:=Zpf hf;obtain rfl:j=k:=by omega
  have eb:(es.modify j fun e=>(⟨e.born,t,y⟩:Zou)).map (·.born)=es.map (·.born):=ZoN _ _ (fun a _=>rfl);have ek:(es.modify j fun e=>(⟨e.born,t,y⟩:Zou)).map (·.key)=es.map (·.key):=ZoN _ _ (fun a ha=>by
   rw[kD,ha]at hk;simpa using hk.symm)
  exact⟨by simp;omega,by simp only[eb];exact h2,by simp only[eb];exact h3,by simp only[ek];exact h4,by simp only[ek];exact h5⟩
theorem Zoz.del{n:Nat}{c:Int}{es:List Zou}(h:Zoz n c es)(t:Int):Zoz n c (ZjP t es):=by
 unfold ZjP;split
 ·rename_i i _ _;have hs:=List.eraseIdx_sublist es i;have hb:=hs.map (fun e:Zou=>e.born);have hk:=hs.map (fun e:Zou=>e.key);exact⟨jO hs.length_le h.few,fun b m=>h.lt b (hb.subset m),h.nb.sublist hb,h.nk.sublist hk,fun k m=>h.Da k (hk.subset m)⟩
 ·exact h
theorem Zoz.fgt{n:Nat}{c:Int}(t:Int):∀(ks:List Int) {es:List Zou},Zoz n c es->Zoz n c (Zh0 t ks es)
 |[],es,h=>h
 |k::ks,es,h=>by
  show Zoz n c (Zh0 t ks (if k<t then ZjP k es else es));split
  ·exact Zoz.fgt t ks (h.del k)
  ·exact Zoz.fgt t ks h
theorem ZpF{d:NdV}(hn:0<=d.now/\d.now<=100000){st:Int}(h:Zjv d st=true):zk0 st:=by
 unfold Zjv at h;simp only[jl,decide_eq_true_eq]at h;unfold zk0;omega
theorem Zoz.he1{n:Nat}{d:NdV}(hn:0<=d.now/\d.now<=100000){q:Int×List Zou}(h:Zoz n q.1 q.2)(y:Mrk):Zoz (n+1) (he1 d q y).1 (he1 d q y).2:=by
 unfold Go.TrRun.he1;split
 ·rename_i c;exact h.put (ZpF hn c) _
 ·exact h.mono (kH n)
theorem Zoz.he2{n:Nat}{d:NdV}(hn:0<=d.now/\d.now<=100000){q:Int×List Zou}(h:Zoz n q.1 q.2)(y:Mrk):Zoz (n+1) (he2 d q y).1 (he2 d q y).2:=by
 unfold Go.TrRun.he2;split
 ·rename_i c;exact h.put (ZpF hn c) _
 ·exact h.mono (kH n)
theorem Zoz.he3{n:Nat}{d:NdV}(hn:0<=d.now/\d.now<=100000){q:Int×List Zou}(h:Zoz n q.1 q.2)(y:zZP):Zoz (n+1) (he3 d q y).1 (he3 d q y).2:=by
 unfold Go.TrRun.he3;split
 ·rename_i c;exact h.put (ZpF hn c) _
 ·exact h.mono (kH n)
theorem Zoz.fold{α:Type}{F:Int×List Zou->α->Int×List Zou}(hF:∀n q y,Zoz n q.1 q.2->Zoz (n+1) (F q y).1 (F q y).2):∀(l:List α) {n:Nat} {q:Int×List Zou},Zoz n q.1 q.2->Zoz (n+l.length) (l.foldl F q).1 (l.foldl F q).2
 |[],n,q,h=>h
 |y::l,n,q,h=>(Zoz.fold hF l (hF n q y h)).mono (by simp;omega)
theorem Zoz.heS:∀(l:List zZP) {n:Nat} {d:NdV} (hn:0<=d.now/\d.now<=100000) {q:Int×List Zou},Zoz n q.1 q.2->Zoz (n+l.length) (heS l (d,q)).2.1 (heS l (d,q)).2.2
 |[],n,d,hn,q,h=>h
 |y::l,n,d,hn,q,h=>(Zoz.heS l (d:=heD d y) (by rw[Zkp];exact hn) (h.he3 hn y)).mono (by simp;omega)
theorem Zoz.hear{n:Nat}{d:NdV}(hn:0<=d.now/\d.now<=100000){q:Int×List Zou}(h:Zoz n q.1 q.2)(x:Zjo):Zoz (n+(x.jT.length+x.ku.length+x.ki.length)) (ZiQ d q x).2.1 (ZiQ d q x).2.2:=by
 have h1:=Zoz.fold (F:=Go.TrRun.he1 d) (fun n q y h=>h.he1 hn y) x.jT h;have h2:=Zoz.fold (F:=Go.TrRun.he2 d) (fun n q y h=>h.he2 hn y) x.ku h1;exact(Zoz.heS x.ki hn h2).mono (by omega)
def ksE(es:List Zou):List Int:=zfI (es.map (·.key))
theorem Zpe:∀es:List Zou,Zo0 (es.map Zly)=some (es.map fun e=>(e.born,e.key))
 |[]=>rfl
 |e::es=>by simp[Zo0,Zly,Zpe es]
theorem Zpz{n:Nat}{c:Int}{es:List Zou}(h:Zoz n c es)(hn:n<=1000):ZjC c es (ksE es):=fun u=>by
 have e1:(es.map fun e=>(e.born,e.key)).map (·.1)=es.map (·.born):=by simp
 have e2:(es.map fun e=>(e.born,e.key)).map (·.2)=es.map (·.key):=by simp
 have vg:((es.map fun e=>(e.born,e.key)).all fun p=>decide (p.1<c/\-9223372036854775808<=p.2/\p.2<9223372036854775808))=true:=by
  rw[jy];intro p hp;obtain⟨e,he,rfl⟩:=jW.1 hp;have:=h.Da e.key (qK he);exact decide_eq_true ⟨h.lt e.born (qK he),by unfold zk0 at this;omega⟩
 have hl:(es.map fun e=>(e.born,e.key)).length<=1000000:=by have:=h.few;simp;omega
 have hm:=Zia (M:=[bx 1 [.map 1 true],mpB c es u]) (id:=1) rfl;rw[zrP (by kernel_rfl)];have hcs:Cs.lookup Zit=some (0,64*Zhd+1,false):=by kernel_rfl
 unfold uy;rw[hcs];have hk:ZpA Zhd (.fn Zhd [] [.ptr 0 0 0 0]) [bx 1 [.map 1 true],mpB c es u]=some (.w (.c (.jb (zu (ksE es)))),[bx 1 [.map 1 true],mpB c es u]):=by
  unfold ZpA;simp only[show Eng.look [bx 1 [.map 1 true],mpB c es u] 0 0=some { box:=true,esz:=1,rows:=[[.map 1 true]],gen:=0,fz:=false,ver:=0 } from rfl,hm,Zpe];rw[e1,e2,if_pos ⟨trivial,trivial,hl,vg,h.nb,h.nk⟩];rfl
 exact hk
theorem ZpB(x:Int):∀l:List Int,(zwP x l).length=l.length+1
 |[]=>rfl
 |y::l=>by
  unfold zwP;split
  ·rfl
  ·simp[ZpB x l]
theorem Zo1:∀l:List Int,(zfI l).length=l.length
 |[]=>rfl
 |x::l=>by simp[zfI,ZpB,Zo1 l]
theorem Zqi{n:Nat}{c:Int}{es:List Zou}(h:Zoz n c es):(ksE es).length<=n:=by
 unfold ksE;rw[Zo1,kl];exact h.few
set_option maxRecDepth 10000
open Go Go.Eng
abbrev ndX(S:StV)(d:NdV)(a b:Nat):List Cl:=[I S.m.version,.jb (S.m.jd.map zo),.jb S.m.qU,.jb S.m.signals,.jb (S.m.kQ.map zaL),.jb (zu S.r),I S.car.len,I S.car.kV,I S.car.kC,I S.car.uM,I S.car.kS,I S.e0.slo,I S.e0.shi,I S.e0.vlo,I S.e0.vhi,I S.t0,I S.kM,I S.yc,.bool S.sig,
 I S.m.version,.jb (S.m.jd.map zo),.jb S.m.qU,.jb S.m.signals,.jb (S.m.kQ.map zaL),.jb (zu S.r),.jb (zu (zW S.m 0 S.r)),I (zmd S.m 0 S.r),I S.car.len,.jb (zu (S.m.jd.map zfn.len)),.jb (zgU (srcs S)),
 I d.now,I d.first,I d.last,I d.mode,.jb (zu d.kX),.ptr a 0 0 0,.map b true,I d.qP,.jb (zu d.told),I d.ui.tick,.jb (zI d.ui.j8),I d.ui.ego.slo,I d.ui.ego.shi,I d.ui.ego.vlo,I d.ui.ego.vhi,I d.looked]
theorem rg3:List.range 3=[0,1,2]:=rfl
def ZoW(S:StV)(zs:List Zon)(ss:List Sgn)(l:List Int)(k:zci):zci:=l.foldl (ZhP S zs ss) k
theorem Zpn{S:StV}{zs:List Zon}{ss:List Sgn}(hS:z6u S zs ss):∀(l:List Int) (k:zci),KB S.m k->k.tick+l.length<=100000->KB S.m (ZoW S zs ss l k)/\(ZoW S zs ss l k).tick=k.tick+l.length
 |[],k,h,ht=>⟨h,by simp[ZoW]⟩
 |a::l,k,h,ht=>by
  simp only[jk]at ht;obtain⟨h1,h2⟩:=h.step hS (by omega) a;obtain⟨h5,h6⟩:=Zpn hS l _ h1 (by rw[h2];omega);refine⟨h5,h6.trans ?_⟩;rw[h2,jk];omega
abbrev loE(i na:Nat)(A:Cl):Env:=[(21,.w (W i)),(20,.w (W na)),(19,.w (.c A)),(0,.w (Pt 0)),(3,.w (Pt 3))]
theorem Zqr(M:Mem):Y L Cs Zio (some [21,20,19,0,3]) 4 [(21,.w (W 0)),(20,.w (W 0)),(19,.w (.c .jc)),(0,.w (Pt 0)),(3,.w (Pt 3))] M=some (.exit 0,[(22,.w (Bo false)),(21,.w (W 0)),(20,.w (W 0)),(19,.w (.c .jc)),(0,.w (Pt 0)),(3,.w (Pt 3))],M):=by
 rw[ZfM Zio.eq_1];simp
theorem ZpK{S:StV}{zs:List Zon}{ss:List Sgn}(hS:z6u S zs ss)(d:NdV){g:RgV}(hg:g.na<=5)(hi0:g.ini=false)(ha:∀a∈g.jN,zk0 a)(c:Int)(es:List Zou)(v w u:Nat):∀(f i:Nat) (k:zci) (vk:Nat),i+f=g.na->KB S.m k->k.tick+f<=100000 ->
  ∃vk',Y L Cs Zio (some [21,20,19,0,3]) 4 (loE i g.na (.bsl 1 0 0 0 1 g.na 5)) (ndM S d g c es v w u++[bxv vk 6 (zG k)]) =
   some (.exit 0,(22,.w (Bo false))::loE g.na g.na (.bsl 1 0 0 0 1 g.na 5),ndM S d g c es v w u++[bxv vk' 6 (zG (ZoW S zs ss (g.jN.drop i) k))])
 |0,i,k,vk,hf,hk,ht=>by
  obtain rfl:i=g.na:=by omega
  have e:g.jN.drop g.na=[]:=qJ (by simp[RgV.jN];omega);rw[e];refine⟨vk,?_⟩;obtain⟨s0,s1,s2,s3,s4,n,ini,p⟩:=g;simp only at hi0;subst hi0;rw[ZfM Zio.eq_1];simp[ZoW,Zly]
 |f+1,i,k,vk,hf,hk,ht=>by
  have hin:i<g.na:=by omega
  have e:=ZkB hg hin;have ha0:zk0 (Zir g i):=ha _ (qn (by rw[e];exact jx));obtain⟨k1,k2⟩:=hk.step hS (by omega) (Zir g i);have h1:=Zkc hS d g c es v w u hk.nd (Zir g i) ha0;obtain⟨vk',ih⟩:=ZpK hS d hg hi0 ha c es v w u f (i+1) (ZhP S zs ss k (Zir g i)) (vk+1) (by omega) k1 (by rw[k2];omega);refine⟨vk',?_⟩;have ec:ZoW S zs ss (g.jN.drop i) k=ZoW S zs ss (g.jN.drop (i+1)) (ZhP S zs ss k (Zir g i)):=by rw[e];rfl
  rw[ec,<-ih];have hw:=zB (i:=i) (by omega);have hci:(i:Int)<g.na:=by omega
  clear ih ec k1 k2;generalize ZhP S zs ss k (Zir g i)=ks at *;obtain⟨s0,s1,s2,s3,s4,n,ini,p⟩:=g;simp only at hi0 hg hin hci;subst hi0;simp only[zG]at h1;rw[ZfM Zio.eq_1];simp[ndM,ndC,rgC,mpB,bxv]at h1;have e1:(1:Int)<n<->1<n:=by omega
  have e2:(2:Int)<n<->2<n:=by omega
  have e3:(3:Int)<n<->3<n:=by omega
  have e4:(4:Int)<n<->4<n:=by omega
  rcases i with _|_|_|_|_|i
  case succ.succ.succ.succ.succ=>omega
  all_goals simp only[Zir]at h1
  all_goals have hin':=hin
  all_goals simp (config:={ failIfUnchanged:=false }) only[jF,Nat.reduceAdd]at hin'
  all_goals simp[loE,hin',e1,e2,e3,e4,h1,wk1,wk2,wk3,wk4,wk5,zG,Zly,-Int.natCast_add]
def ZoJ(S:StV)(zs:List Zon)(ss:List Sgn)(d:NdV)(g:RgV):zci:=Zhv S ⟨d.now,zTA 0 S.m.jd,(ZoW S zs ss g.jN g.kc).ego⟩
def ZoO(S:StV)(zs:List Zon)(ss:List Sgn)(d:NdV)(g:RgV):NdV:={ d with ui:=ZoJ S zs ss d g,first:=d.now,mode:=2 }
def ZoH(k:zci):RgV:=⟨0,0,0,0,0,0,true,k⟩
abbrev Zqg(S:StV)(zs:List Zon)(ss:List Sgn)(d:NdV)(g:RgV)(c:Int)(es:List Zou)(v w u a b:Nat):Mem:=[bxv v 46 (ndX S (ZoO S zs ss d g) a b),bxv w 12 (rgC 1 g),mpB c es u]
theorem ZpJ{S:StV}{zs:List Zon}{ss:List Sgn}(hS:z6u S zs ss)(d:NdV){g:RgV}(hg:ZjQ g)(ha:∀a∈g.jN,zk0 a)(hk:KB S.m g.kc)(ht:g.kc.tick+g.na<=100000)(hn:d.now=g.kc.tick+g.na)(c:Int)(es:List Zou)(v w u:Nat) :
  R L Cs ZiI [Pt 0] (ndM S d g c es v w u)=some (.w (.c (fnN ZhK)),Zqg S zs ss d g c es (v+5) w u 3 4++[bxv 0 12 (rgC 3 (ZoH (ZoJ S zs ss d g))),mpB 0 [] 0]):=by
 have hacts:g.jN.length<=g.na:=by simp[RgV.jN];omega
 obtain⟨k1,k2⟩:=Zpn (zs:=zs) (ss:=ss) hS g.jN g.kc hk (by omega);have hA:=Zn6 hS.full.full.qW d.now (ZoW S zs ss g.jN g.kc).ego;have h0:=hk.nd.t;have hkn:KNd S.m ⟨d.now,zTA 0 S.m.jd,(ZoW S zs ss g.jN g.kc).ego⟩:=⟨⟨fun b hb=>(zTQ hS.full.full.qW S.m.jd 0 rfl b hb).1,zTX hS.full.full.qW S.m.jd 0 rfl,k1.nd.j.ego⟩,by simp only;omega⟩;have hO:=ZjW hS d g c es v w u (k:=⟨d.now,zTA 0 S.m.jd,(ZoW S zs ss g.jN g.kc).ego⟩) (by have:=hkn.len hS;omega) hkn.j.ego;have eK:(ZoJ S zs ss d g).tick=d.now:=rfl;have B5:∃vk',(g.ini=true/\g.jN=[]/\vk'=0)\/(g.ini=false/\Y L Cs Zio (some [21,20,19,0,3]) 4 (loE 0 g.na (.bsl 1 0 0 0 1 g.na 5)) (ndM S d g c es v w u++[bxv 1 6 (zG g.kc)]) =
   some (.exit 0,(22,.w (Bo false))::loE g.na g.na (.bsl 1 0 0 0 1 g.na 5),ndM S d g c es v w u++[bxv vk' 6 (zG (ZoW S zs ss g.jN g.kc))])):=by
  cases hi:g.ini with
  |true=>exact⟨0,.inl ⟨rfl,by simp[RgV.jN,hg.ini hi],rfl⟩⟩
  |false =>
   obtain⟨vk',h⟩:=ZpK hS d hg.few hi ha c es v w u g.na 0 g.kc 1 (by omega) hk ht;exact⟨vk',.inr ⟨rfl,h⟩⟩
 clear hkn k1 k2;unfold Zqg ZoO;change R L Cs _ _ _=some (_,[bxv _ _ (ndX S { d with ui:=ZoJ S zs ss d g,first:=d.now,mode:=2 } 3 4),_,_]++_);have hO':R L Cs Zjk [Pt 0,.a (zG ⟨d.now,zTA 0 S.m.jd,(ZoW S zs ss g.jN g.kc).ego⟩)] (ndM S d g c es v w u)=some (.w (.a (zG (ZoJ S zs ss d g))),ndM S d g c es v w u):=hO;clear hO;obtain⟨vk',B5⟩:=B5;generalize ZoJ S zs ss d g=K at *;generalize zTA 0 S.m.jd=AL at *;obtain⟨kt,kb,ke⟩:=K;rcases B5 with⟨hi,he,-⟩ |⟨hi,hL⟩
 ·rw[he]at hA hO';have h00:=hg.ini hi;have es0:ZoW S zs ss [] g.kc=g.kc:=rfl;rw[es0]at hA hO';obtain⟨s0,s1,s2,s3,s4,n,ini,p⟩:=g;simp only at hi h00;subst hi;subst h00;simp only[zf,zG,zch]at hA hO';rw[zUa ZoK rfl];simp[ndM,ndC,rgC,mpB,bxv]at hO';simp[ZiL,Zqr,hA,hO',zG,zch,Zly,zr,ZoH,rg3]
 ·generalize ZoW S zs ss g.jN g.kc=P at *;obtain⟨pt,pb,pe⟩:=P;obtain⟨s0,s1,s2,s3,s4,n,ini,p⟩:=g;simp only at hi;subst hi;simp only[zf,zG,zch,loE,ndM,ji,je,jg]at hA hO' hL;rw[zUa ZoK rfl];simp[ndC,rgC,mpB,bxv]at hO';simp (config:={ maxSteps:=400000 }) [ZiL,hL,hA,hO',zG,zch,Zly,zr,ZoH,rg3]
abbrev tlM(S:StV)(d:NdV)(g':RgV)(v w':Nat)(g:RgV)(c:Int)(es:List Zou)(w u:Nat)(X:List Cl):Mem:=[bxv v 46 (ndX S d 4 5),bxv w 12 (rgC 1 g),mpB c es u,bx 4 X,bxv w' 12 (rgC 4 g'),mpB 0 [] 0]
theorem Zqd{S:StV}{zs:List Zon}{ss:List Sgn}{d:NdV}{g:RgV}{c:Int}{es:List Zou}{v w u:Nat}(x:Zjo)
  (hR:R L Cs ZiI [Pt 0] (ndM S d g c es v w u)=some (.w (.c (fnN ZhK)),Zqg S zs ss d g c es (v+5) w u 3 4++[bxv 0 12 (rgC 3 (ZoH (ZoJ S zs ss d g))),mpB 0 [] 0])) :
  Y L Cs zj (some [6,0]) 4 [(6,.w (.c (fnN ZiI))),(0,.w (Pt 0))] (ndM S d g c es v w u++[bx 4 (inC x)])=Y L Cs zj (some [6,0]) 4 [(6,.w (.c (fnN ZhK))),(0,.w (Pt 0))] (tlM S (ZoO S zs ss d g) (ZoH (ZoJ S zs ss d g)) (v+5) 0 g c es w u (inC x)):=by
 unfold Zqg at hR;generalize ZoO S zs ss d g=d' at *;generalize ZoJ S zs ss d g=K at *;obtain⟨s0,s1,s2,s3,s4,na,ini,p⟩:=g;rw[ZfM zj.eq_1];cases ini<;>simp[ndM,ndC,rgC,mpB,bxv,ZoH]at hR<;>simp[hR,Zly,zr,ZoH]<;>rfl
theorem Zqc{S:StV}{d d':NdV}{k:zci}{g:RgV}{c:Int}{es:List Zou}{v v' w u f f':Nat}(x:Zjo)(hv:¬v'=v)(hR:R L Cs f [Pt 0] (ndM S d (ZoH k) 0 [] v 0 0)=some (.w (.c (fnN f')),ndM S d' (ZoH k) 0 [] v' 0 0)) :
  Y L Cs zj (some [6,0]) 4 [(6,.w (.c (fnN f))),(0,.w (Pt 0))] (tlM S d (ZoH k) v 0 g c es w u (inC x))=Y L Cs zj (some [6,0]) 4 [(6,.w (.c (fnN f'))),(0,.w (Pt 0))] (tlM S d' (ZoH k) v' 0 g c es w u (inC x)):=by
 obtain⟨s0,s1,s2,s3,s4,na,ini,p⟩:=g;rw[ZfM zj.eq_1];simp[ndM,ndC,rgC,mpB,bxv,ZoH]at hR;cases ini<;>simp[hR,hv,Zly,zr,ZoH]<;>rfl
theorem Zqe{S:StV}{d d':NdV}{k:zci}{g g':RgV}{c:Int}{es:List Zou}{v v' w w' u f:Nat}(x:Zjo)(hv:¬v'=v)(hw:¬w'=0)(hi:g'.ini=false)(hR:R L Cs f [Pt 0] (ndM S d (ZoH k) 0 [] v 0 0)=some (.w (.c .qY),ndM S d' g' 0 [] v' w' 0)) :
  Y L Cs zj (some [6,0]) 4 [(6,.w (.c (fnN f))),(0,.w (Pt 0))] (tlM S d (ZoH k) v 0 g c es w u (inC x))=some (.exit 1,[(43,.w (Bo false)),(6,.w (.c .qY)),(0,.w (Pt 0))],tlM S d' g' v' w' g c es w u (inC x)):=by
 obtain⟨s0,s1,s2,s3,s4,na,ini,p⟩:=g;obtain⟨r0,r1,r2,r3,r4,ma,jni,p'⟩:=g';simp only at hi;subst hi;rw[ZfM zj.eq_1];simp[ndM,ndC,rgC,mpB,bxv,ZoH]at hR;cases ini<;>simp[hR,hv,hw,Zly,zr,ZoH]<;>rw[ZfM zj.eq_1]<;>simp[Zly]
structure LM(k:Nat)(S:StV)(d:NdV)(g:RgV)(c:Int)(es:List Zou)(v w u p q:Nat)(M:Mem):Prop where
 nd:M[k]?=some (bxv v 46 (ndX S d p q))
 rg:M[p]?=some (bxv w 12 (rgC p g))
 mp:M[q]?=some (mpB c es u)
 kp:k≠p
 kq:k≠q
 pq:p≠q
variable{k:Nat}{S:StV}{d d':NdV}{g g':RgV}{c c':Int}{es es':List Zou}{v v' w w' u u' p q:Nat}{M:Mem}
theorem LM.len(h:LM k S d g c es v w u p q M):k<M.length/\p<M.length/\q<M.length:=⟨(jQ.1 h.nd).1,(jQ.1 h.rg).1,(jQ.1 h.mp).1⟩
theorem LM.drop(h:LM k S d g c es v w u p q M){n:Nat}(hn:k<n)(E:Env):LM k S d g c es v w u p q (kL n E M):=by
 unfold kL;split
 ·exact h
 ·split
  ·rename_i hb;simp only[jl]at hb;have hb:=hb.2;have h1:(M.take n)[k]?=some (bxv v 46 (ndX S d p q)):=by rw[kN hn];exact h.nd
   have h2:([ndX S d p q]:List (List Cl)).all (fun r=>r.all (Eng.below n))=true:=jy.1 hb _ (kA h1);have h3:=jy.1 h2 _ (jx ..);have h4:Eng.below n (.ptr p 0 0 0)=true:=jy.1 h3 _ (by simp);have h5:Eng.below n (.map q true)=true:=jy.1 h3 _ (by simp);have h4:p+1<=n:=of_decide_eq_true h4;have h5:q+1<=n:=of_decide_eq_true h5;exact⟨h1,by rw[kN (by omega)];exact h.rg,by rw[kN (by omega)];exact h.mp,h.kp,h.kq,h.pq⟩
  ·exact h
theorem ZqU{n i:Nat}(hi:i<n)(E:Env):(kL n E M)[i]?=M[i]?:=by
 unfold kL;split
 ·rfl
 ·split
  ·exact kN hi
  ·rfl
theorem Zo5{ρ:Nat->Option Nat}{id:Nat}{ids:List Nat}{b b' b0:Blk}{Ms M M1:Mem}{ch:List Nat}(h0:M[id]?=some (some b0))(hr:zhj ρ b=some b')(he:b.ver=b0.ver->b'=b0)(hb:back ρ ids Ms M=some (M1,ch))(h1:M1[id]?=some (some b0)) :
  ∃ch',back ρ (id::ids) (some b::Ms) M=some (M1.set id (some b'),ch'):=by
 unfold back;simp only[h0];by_cases c:b.ver=b0.ver
 ·rw[if_pos c,hb,he c];refine⟨ch,?_⟩;obtain⟨hl,e⟩:=jQ.1 h1;rw[<-e,List.set_getElem_self]
 ·rw[if_neg c,hr,hb];exact⟨_,rfl⟩
theorem LM.on(h:LM k S d g c es v w u p q M){f:Nat}{xs:List Cl}(hxs:xs=[]\/∃x:Zjo,xs=inC x){r:AV}{Ms:Mem}(hR:R L Cs f (Pt 0::if xs=[] then [] else [.a xs]) (ndM S d g c es v w u)=some (r,Ms)) :
  zx (R L Cs) ⟨true⟩ (.c (.fn f [] [])) (Pt k::if xs=[] then [] else [.a xs]) M=uU [k,p,q] M r Ms:=by
 obtain⟨h1,h2,h3,n1,n2,n3⟩:=h;have hc:collect M zfj [k] []=[k,p,q]:=by
  cases hi:g.ini<;>simp[collect,zpw,h1,h2,h3,Blk.ids,CI,hi,n1,n2,n3,n1.symm,n2.symm,n3.symm]
 have ht:zck M (zd3 [k,p,q]) [k,p,q]=some (ndM S d g c es v w u):=by
  cases hi:g.ini<;>simp[zck,h1,h2,h3,zhj,zd3,n1,n2,n3,hi,Zly]
 have hnd:zku [k,p,q]=true:=by simp[zku,n1,n2,n3]
 have qG:zcG (R L Cs) f (Pt k::if xs=[] then [] else [.a xs]) M=uU [k,p,q] M r Ms:=by
  unfold zcG;have e1:(Pt k::if xs=[] then [] else [WV.a xs]).flatMap WV.ids=[k]:=by
   rcases hxs with rfl |⟨x,rfl⟩<;>simp[WV.ids]
  have e2:ziU (zd3 [k,p,q]) (Pt k::if xs=[] then [] else [WV.a xs])=some (Pt 0::if xs=[] then [] else [WV.a xs]):=by
   rcases hxs with rfl |⟨x,rfl⟩<;>simp[zd3]
  rw[e1,hc];simp only[hnd,if_true,e2,ht,hR]
 have hfz:zla M (Pt k::if xs=[] then [] else [WV.a xs])=some (Pt k::if xs=[] then [] else [WV.a xs]):=by
  rcases hxs with rfl |⟨x,rfl⟩<;>simp
 have hsl:(Pt k::if xs=[] then [] else [WV.a xs]).flatMap WV.sls=[]:=by
  rcases hxs with rfl |⟨x,rfl⟩<;>simp
 have hhd:zl2 f (Pt k::if xs=[] then [] else [WV.a xs])=true:=rfl;unfold zx;simp only[callee,qj,je,qf,if_true,hfz,hsl,hhd,Bool.or_true,List.isEmpty_nil];rw[qG]
abbrev ZpO(k p q:Nat)(X:List Cl)(v:Nat)(g:RgV)(c:Int)(es:List Zou)(w u:Nat)(M:Mem):Mem:=((M.set q (mpB c es u)).set p (some { box:=true,esz:=12,rows:=[rgC p g],gen:=0,fz:=false,ver:=w })).set k (some { box:=true,esz:=46,rows:=[X],gen:=0,fz:=false,ver:=v })
theorem LM.back(h:LM k S d g c es v w u p q M){ρ:Nat->Option Nat}(r0:ρ 0=some k)(r1:ρ 1=some p)(r2:ρ 2=some q){a b:Nat}{Ms:Mem}{X:List Cl}(hX:zez ρ [ndX S d' a b]=some [X])(hv:v'=v->X=ndX S d p q)(hw:w'=w->g'=g)(hu:u'=u->c'=c/\es'=es) :
  ∃ch,Eng.back ρ [k,p,q] (some { box:=true,esz:=46,rows:=[ndX S d' a b],gen:=0,fz:=false,ver:=v' }::bxv w' 12 (rgC 1 g')::mpB c' es' u'::Ms) M=some (ZpO k p q X v' g' c' es' w' u' M,ch):=by
 obtain⟨h1,h2,h3,n1,n2,n3⟩:=h;have b3:Eng.back ρ [] Ms M=some (M,[]):=by unfold Eng.back;rfl
 obtain⟨ch2,b2⟩:=Zo5 (ρ:=ρ) (b:={ box:=true,esz:=1,rows:=[I c']::es'.map Zly,gen:=0,fz:=false,ver:=u' }) (b':={ box:=true,esz:=1,rows:=[I c']::es'.map Zly,gen:=0,fz:=false,ver:=u' }) h3 (by simp[zhj,Zly]) (fun e=>by obtain⟨rfl,rfl⟩:=hu e;have:u'=u:=e;subst this;rfl) b3 h3;obtain⟨ch1,b1⟩:=Zo5 (ρ:=ρ) (b:={ box:=true,esz:=12,rows:=[rgC 1 g'],gen:=0,fz:=false,ver:=w' }) (b':={ box:=true,esz:=12,rows:=[rgC p g'],gen:=0,fz:=false,ver:=w' }) h2 (by cases hi:g'.ini<;>simp[zhj,r1,hi]) (fun e=>by have e:w'=w:=e;have:=hw e;subst e this;rfl) b2 (by rw[jz n3.symm];exact h2);obtain⟨ch0,b0⟩:=Zo5 (ρ:=ρ) (b:={ box:=true,esz:=46,rows:=[ndX S d' a b],gen:=0,fz:=false,ver:=v' }) (b':={ box:=true,esz:=46,rows:=[X],gen:=0,fz:=false,ver:=v' }) h1 (by unfold zhj;simp only[if_true];rw[hX];rfl) (fun e=>by have e:v'=v:=e;rw[hv e,e]) b1 (by rw[jz n1.symm,jz n2.symm];exact h1);exact⟨ch0,b0⟩
def Fr(k p q p' q':Nat)(M M':Mem):Prop:=∀i,i<M.length->i≠k->i≠p->i≠q->M'[i]?=M[i]?/\i≠p'/\i≠q'
theorem Zq4{X:List Cl}:(ZpO k p q X v g c es w u M).length=M.length/\∀i,i≠k->i≠p->i≠q->(ZpO k p q X v g c es w u M)[i]?=M[i]? :=
 ⟨by simp,fun i a b c=>by rw[jz (qH a),jz (qH b),jz (qH c)]⟩
theorem LM.set(h:LM k S d g c es v w u p q M):(ZpO k p q (ndX S d' p q) v' g' c' es' w' u' M).length=M.length/\LM k S d' g' c' es' v' w' u' p q (ZpO k p q (ndX S d' p q) v' g' c' es' w' u' M):=by
 obtain⟨l1,l2,l3⟩:=h.len;obtain⟨h1,h2,h3,n1,n2,n3⟩:=h;refine⟨by simp,?_,?_,?_,n1,n2,n3⟩
 ·exact jS (by simpa using l1)
 ·rw[jz n1];exact jS (by simpa using l2)
 ·rw[jz n2,jz n3];exact jS (by simpa using l3)
theorem Zo2{k p q:Nat}{M M' Ms new:Mem}{r r':AV}{ch:List Nat}{ρ:Nat->Option Nat}(hρ:∀j,ρ j=match ([k,p,q]:List Nat)[j]? with |some id=>some id |none=>some (M.length+(j-3)))(hb:Eng.back ρ [k,p,q] Ms M=some (M',ch))(hn:zgx ρ (Ms.drop 3)=some new)(hr:znn ρ r=some r'):uU [k,p,q] M r Ms=some (r',M'++new,if ch.isEmpty then .no else .wr (ch.map fun id=>(id,0,whole))):=by
 have e:ρ=(fun j=>match ([k,p,q]:List Nat)[j]? with |some id=>some id |none=>some (M.length+(j-3))):=funext hρ;have e2:uU [k,p,q] M r Ms=(match Eng.back ρ [k,p,q] Ms M,zgx ρ (Ms.drop 3),znn ρ r with
  |some (M',ch),some new,some r=>some (r,M'++new,if ch.isEmpty then .no else .wr (ch.map fun id=>(id,0,whole)))
  |_,_,_=>none):=by rw[e];rfl
 rw[e2,hb,hn,hr]
theorem LM.call(h:LM k S d g c es v w u p q M){f:Nat}{xs:List Cl}(hxs:xs=[]\/∃x:Zjo,xs=inC x){r:AV}(hr:(∃a b,r=.t [W a,W b])\/(∃n,r=.w (W n))\/(∃k,r=.w (.a (zG k)))\/(∃y,r=.w (.a (zJ4 y)))\/(∃l,r=.w (.a [.jb (zu l)])))
  (hv:v'=v->d'=d) (hw:w'=w->g'=g) (hu:u'=u->c'=c/\es'=es)
  (hR:R L Cs f (Pt 0::if xs=[] then [] else [.a xs]) (ndM S d g c es v w u)=some (r,ndM S d' g' c' es' v' w' u')) :
  ∃M' fp,zx (R L Cs) ⟨true⟩ (.c (.fn f [] [])) (Pt k::if xs=[] then [] else [.a xs]) M=some (r,M',fp)/\LM k S d' g' c' es' v' w' u' p q M'/\M'.length=M.length/\Fr k p q p q M M':=by
 obtain⟨ρ,hρ⟩:∃ρ:Nat->Option Nat,∀j,ρ j=match ([k,p,q]:List Nat)[j]? with|some id=>some id|none=>some (M.length+(j-3)):=⟨_,fun _=>rfl⟩
 have r1:ρ 1=some p:=hρ 1;have r2:ρ 2=some q:=hρ 2;obtain⟨ch,hb⟩:=h.back (d':=d') (v':=v') (hρ 0) r1 r2 (a:=1) (b:=2) (Ms:=[]) (X:=ndX S d' p q) (by simp[r1,r2]) (fun e=>by rw[hv e]) hw hu;have hrA:znn ρ r=some r:=by
  rcases hr with⟨a,b,rfl⟩ |⟨n,rfl⟩ |⟨y,rfl⟩ |⟨⟨y1,y2,y3⟩,rfl⟩ |⟨l,rfl⟩<;>simp[zG,zJ4,zJY]
 have hl:=Zo2 hρ hb (new:=[]) rfl hrA;rw[qf]at hl;obtain⟨s1,s2⟩:=h.set (d':=d') (g':=g') (c':=c') (es':=es') (v':=v') (w':=w') (u':=u');exact⟨_,_,(h.on hxs hR).trans hl,s2,s1,fun i _ a b c=>⟨Zq4.2 i a b c,b,c⟩⟩
theorem LM.lose(h:LM k S d g c es v w u p q M){x:Zjo}{r:Int}{g1:RgV}{c1:Int}{es1:List Zou}{w1 u1:Nat}(hv:v<v')(hw:w1=w->g1=g)(hu:u1=u->c1=c/\es1=es)(hi:g'.ini=false)
  (hR:R L Cs Zh5 [Pt 0,.a (inC x)] (ndM S d g c es v w u)=some (.t [W r,W 0],[bxv v' 46 (ndX S d' 3 4),bxv w1 12 (rgC 1 g1),mpB c1 es1 u1,bxv 2 12 (rgC 3 g'),mpB 0 [] 0])) :
  ∃M' fp,zx (R L Cs) ⟨true⟩ (.c (.fn Zh5 [] [])) [Pt k,.a (inC x)] M=some (.t [W r,W 0],M',fp)/\LM k S d' g' 0 [] v' 2 0 M.length (M.length+1) M'/\M.length<=M'.length/\Fr k p q M.length (M.length+1) M M':=by
 obtain⟨ρ,hρ⟩:∃ρ:Nat->Option Nat,∀j,ρ j=match ([k,p,q]:List Nat)[j]? with|some id=>some id|none=>some (M.length+(j-3)):=⟨_,fun _=>rfl⟩
 have r1:ρ 1=some p:=hρ 1;have r2:ρ 2=some q:=hρ 2;have r3:ρ 3=some M.length:=hρ 3;have r4:ρ 4=some (M.length+1):=hρ 4;obtain⟨ch,hb⟩:=h.back (d':=d') (v':=v') (hρ 0) r1 r2 (a:=3) (b:=4) (Ms:=[bxv 2 12 (rgC 3 g'),mpB 0 [] 0]) (X:=ndX S d' M.length (M.length+1)) (by simp[r3,r4]) (fun e=>by omega) hw hu;obtain⟨l1,l2,l3⟩:=h.len;have hl:=Zo2 hρ hb (new:=[bxv 2 12 (rgC M.length g'),mpB 0 [] 0]) (by simp[zgx,zhj,hi,r3]) (r:=.t [W r,W 0]) (r':=.t [W r,W 0]) (by simp);have hlen:(ZpO k p q (ndX S d' M.length (M.length+1)) v' g1 c1 es1 w1 u1 M).length=M.length:=by simp
 have hk0:(ZpO k p q (ndX S d' M.length (M.length+1)) v' g1 c1 es1 w1 u1 M)[k]?=some (bxv v' 46 (ndX S d' M.length (M.length+1))):=jS (by simpa using l1);have hfr:=(Zq4 (k:=k) (p:=p) (q:=q) (X:=ndX S d' M.length (M.length+1)) (v:=v') (g:=g1) (c:=c1) (es:=es1) (w:=w1) (u:=u1) (M:=M)).2;generalize ZpO k p q (ndX S d' M.length (M.length+1)) v' g1 c1 es1 w1 u1 M=M1 at *;exact⟨_,_,(h.on (.inr ⟨x,rfl⟩) hR).trans hl,⟨by rw[jq (by omega)];exact hk0,by rw[j6 (by omega),hlen];simp,by rw[j6 (by omega),hlen];simp,by omega,by omega,by omega⟩,by simp;omega,fun i hi a b c=>⟨by rw[jq (by omega)];exact hfr i a b c,by omega,by omega⟩⟩
end Go.TrRun
namespace Go.TrRun
open Go Go.Eng
def Zpr(S:StV)(zs:List Zon)(ss:List Sgn)(d2:NdV)(g1:RgV):NdV:=ZjL (ZiF S (ZoO S zs ss d2 g1))
def Zp7(S:StV)(zs:List Zon)(ss:List Sgn)(d2:NdV)(g1:RgV):RgV:=ZhJ (ZoH (ZoJ S zs ss d2 g1)) (Pl.qe d2.kX 0)
abbrev Zqz(S:StV)(d:NdV)(g':RgV)(v w':Nat)(g:RgV)(c:Int)(es:List Zou)(w u:Nat):Mem:=[bxv v 46 (ndX S d 3 4),bxv w 12 (rgC 1 g),mpB c es u,bxv w' 12 (rgC 3 g'),mpB 0 [] 0]
theorem Zqo{S:StV}{zs:List Zon}{ss:List Sgn}(hS:z6u S zs ss){d:NdV}{g:RgV}{es:List Zou}{n:Nat}(h:Zk7 S d g es n)(hn:n+300<=1000)(c:Int)(v w u:Nat)(ks:List Int)(hK:ZjC c es ks)(hks:ks.length<=1000){x:Zjo}(hx:Zlc x)(hx8:x.ki.length<=8/\x.jT.length<=8/\x.ku.length<=8)(ht:x.tick=d.now)
  {d2:NdV} {c2:Int} {es2:List Zou} (e2:hrN S zs ss d g c es ks x=(d2,(c2,es2))) (eK:(Zkz S zs ss (Zhl S zs ss es g) es2).2=false) :
  ∃v' w1 u1,(v<v'/\(w<=w1/\(w1=w->Zhl S zs ss es g=g))/\(u<=u1/\(u1=u->c2=c/\es2=es))) /\
   R L Cs Zh5 [Pt 0,.a (inC x)] (ndM S d g c es v w u)=some (.t [W (Zlu S (Zpr S zs ss d2 (Zhl S zs ss es g))),W 0],Zqz S (Zpr S zs ss d2 (Zhl S zs ss es g)) (Zp7 S zs ss d2 (Zhl S zs ss es g)) v' 2 (Zhl S zs ss es g) c2 es2 w1 u1):=by
 have hh:=h;obtain⟨hg,ha,hk,Bz,hfew,BF,yH,hplan⟩:=h;have hk0:=hk.nd.t;obtain⟨g1,g2,g3,g4,g5⟩:=ZkX (zs:=zs) (ss:=ss) hS hh;have h0:=ZkQ S d g c es v w u;obtain⟨w1,u1,m1,m2,h1⟩:=Zkk hS d hg ha hk Bz (by omega) c es (BF.ok (by omega)) v w u ks hK hks;have BD:=BF.fgt (Zhl S zs ss es g).kc.tick ks;obtain⟨v2,u2,⟨m3,m4⟩,Ah,h2⟩:=ZkR (S:=S) d (Zhl S zs ss es g) (c,Zh0 (Zhl S zs ss es g).kc.tick ks es) v w1 u1 n (by omega) x hx BD hn;rw[show ZiQ d (c,Zh0 (Zhl S zs ss es g).kc.tick ks es) x=(d2,(c2,es2)) from e2]at h2 Ah m3 m4;simp only at h2 Ah m3 m4;have hd:=Zla x.ki d (x.ku.foldl (he2 d) (x.jT.foldl (he1 d) (c,Zh0 (Zhl S zs ss es g).kc.tick ks es)));have hl2:=Zj2 x.ki d (x.ku.foldl (he2 d) (x.jT.foldl (he1 d) (c,Zh0 (Zhl S zs ss es g).kc.tick ks es))) yH (by omega);rw[show heS x.ki (d,x.ku.foldl (he2 d) (x.jT.foldl (he1 d) (c,Zh0 (Zhl S zs ss es g).kc.tick ks es)))=(d2,(c2,es2)) from e2]at hd hl2;simp only at hd hl2;obtain⟨yB,Ai,-⟩:=hd;have h3:=Zkj hS d2 g1 g3 g4 (by omega) c2 es2 (Ah.ok (by omega)) v2 w1 u2;rw[eK]at h3;simp only[jG,if_false]at h3;have s1:=ZjB S d2 _ (Zhl S zs ss es g) c2 es2 v2 (v2+1) w1 u2 _ _ x (by omega) h3;have h4:=ZpJ (zs:=zs) (ss:=ss) hS { d2 with ui:=(Zkz S zs ss (Zhl S zs ss es g) es2).1 } g1 g3 g4 (by omega) (by simp only[yB];omega) c2 es2 (v2+1) w1 u2;have s2:=Zqd x h4;have eL:ZoO S zs ss { d2 with ui:=(Zkz S zs ss (Zhl S zs ss es g) es2).1 } (Zhl S zs ss es g)=ZoO S zs ss d2 (Zhl S zs ss es g):=rfl;have eK2:ZoJ S zs ss { d2 with ui:=(Zkz S zs ss (Zhl S zs ss es g) es2).1 } (Zhl S zs ss es g)=ZoJ S zs ss d2 (Zhl S zs ss es g):=rfl;rw[eL,eK2]at s2;have hLnow:(ZoO S zs ss d2 (Zhl S zs ss es g)).now=d.now:=yB;have DH:(ZoO S zs ss d2 (Zhl S zs ss es g)).last=d2.last:=rfl;have hLplan:(ZoO S zs ss d2 (Zhl S zs ss es g)).kX=d.kX:=Ai;obtain⟨v5,m5,h5⟩:=ZjV S (ZoO S zs ss d2 (Zhl S zs ss es g)) (ZoH (ZoJ S zs ss d2 (Zhl S zs ss es g))) 0 [] (v2+1+5) 0 0 (by rw[hLnow];omega) (by rw[DH];exact hl2);have hmode:¬(ZiF S (ZoO S zs ss d2 (Zhl S zs ss es g))).mode=1:=by
  unfold ZiF ZoO;split<;>simp
 rw[if_neg hmode]at h5;have s3:=Zqc (g:=Zhl S zs ss es g) (c:=c2) (es:=es2) (w:=w1) (u:=u2) x (by omega) h5;have hWnow:(ZiF S (ZoO S zs ss d2 (Zhl S zs ss es g))).now=d.now:=yB;have CS:(ZiF S (ZoO S zs ss d2 (Zhl S zs ss es g))).kX=d.kX:=Ai;have h6:=Zkl S (ZiF S (ZoO S zs ss d2 (Zhl S zs ss es g))) (g:=ZoH (ZoJ S zs ss d2 (Zhl S zs ss es g))) ⟨show 0<=5 by decide,fun _=>rfl⟩ (show 0<=4 by decide) 0 [] v5 0 0 (by rw[hWnow];omega) (by rw[CS];omega);have s4:=Zqe (g:=Zhl S zs ss es g) (c:=c2) (es:=es2) (w:=w1) (u:=u2) x (by omega) (by omega) rfl h6;have hlp:=s1.trans (s2.trans (s3.trans s4));rw[show ZhJ (ZoH (ZoJ S zs ss d2 (Zhl S zs ss es g))) (Pl.qe (ZiF S (ZoO S zs ss d2 (Zhl S zs ss es g))).kX 0)=Zp7 S zs ss d2 (Zhl S zs ss es g) from rfl,show ZjL (ZiF S (ZoO S zs ss d2 (Zhl S zs ss es g)))=Zpr S zs ss d2 (Zhl S zs ss es g) from rfl]at hlp;have hA:=Pl.C5 (Zpr S zs ss d2 (Zhl S zs ss es g)).told (show(ZiF S (ZoO S zs ss d2 (Zhl S zs ss es g))).kX.length<=1000 by rw[CS];omega) S.car.kS;have hi9:(Zp7 S zs ss d2 (Zhl S zs ss es g)).ini=false:=rfl;refine⟨v5+4,w1,u2,⟨by omega,m1,by omega,fun e=>?_⟩,?_⟩
 ·have e1:=m3.2 (by omega);have e2':=m2.2 (by omega);rw[e2']at e1;exact⟨congrArg Prod.fst e1,congrArg Prod.snd e1⟩
 have c1:¬8<max (x.ki.length:Int) (max x.jT.length x.ku.length):=by omega
 have c2':¬(1099511626776:Int)<=d.now:=by omega
 obtain⟨fp1,hc1⟩:=Zko (f:=Zhz) (xs:=[]) (X:=inC x) (.inl rfl) ⟨x,rfl⟩ (fun _=>rfl) m1.2 (fun q=>⟨rfl,m2.2 q⟩) (by simpa using h1);obtain⟨fp2,hc2⟩:=Zko (f:=Zh4) (xs:=inC x) (X:=inC x) (.inr ⟨x,rfl⟩) ⟨x,rfl⟩ m4.2 (fun _=>rfl) (fun q=>by
  have:=m3.2 q;exact⟨congrArg Prod.fst this,congrArg Prod.snd this⟩) (by simpa using h2)
 have hc0:zx (R L Cs) ⟨true⟩ (.c (.fn Zh3 [] [])) [Pt 0] (ndM S d g c es v w u++[bx 4 (inC x)])=some (.w (Bo false),ndM S d g c es v w u++[bx 4 (inC x)],.no):=by
  obtain⟨s0,s1,s2,s3,s4,na,ini,p⟩:=g;cases ini<;>simp[ndM,ndC,rgC,mpB,bxv]at h0<;>simp[h0,Zly]
 have hcA:∀M,zx (R L Cs) ⟨true⟩ (.c (.fn zGR [] [])) [.a [.jb (zu (Zpr S zs ss d2 (Zhl S zs ss es g)).told)],W S.car.kS] M=some (.w (W (Pl.qe (Zpr S zs ss d2 (Zhl S zs ss es g)).told S.car.kS)),M,.no):=fun M=>by
  simp[hA]
 unfold Zlu;generalize Pl.qe (Zpr S zs ss d2 (Zhl S zs ss es g)).told S.car.kS=cc at *;generalize Zp7 S zs ss d2 (Zhl S zs ss es g)=g9 at *;generalize Zpr S zs ss d2 (Zhl S zs ss es g)=d6 at *;generalize Zh0 (Zhl S zs ss es g).kc.tick ks es=es1 at *;generalize Zhl S zs ss es g=g' at *;clear hg ha hk Bz BF BD Ah g1 g2 g3 g4 g5 h0 h1 h2 h3 h4 h5 h6 hK hh e2 hA m1 m2 m3 m4 m5 hl2 s1 s2 s3 s4 eL eK2 hLnow DH hLplan hmode hWnow CS eK;obtain⟨xt,xsc,xsp,xfx⟩:=x;simp only at ht c1;subst ht;obtain⟨r0,r1,r2,r3,r4,ma,jni,p'⟩:=g9;simp only at hi9;subst hi9;obtain⟨s0,s1,s2,s3,s4,na,ini,p⟩:=g';simp only[inC,List.cons_ne_nil,reduceCtorEq,if_false,if_true,ndM,ji,je]at hc0 hc1 hc2 hlp;rw[zUa Zji rfl];cases ini<;>simp[-zx,ZhG,hc0,hc1,hc2,hlp,hcA,c1,c2',Zly,zr,tlM,rg3]
open Go Go.Eng Go.PlanLaw
theorem EsN.fold{α:Type}{F:Int×List Zou->α->Int×List Zou}{P:α->Prop}(hF:∀n q y,P y->EsN n q.2->EsN (n+1) (F q y).2):∀(l:List α) {n:Nat} {q:Int×List Zou},(∀y∈l,P y)->EsN n q.2->EsN (n+l.length) (l.foldl F q).2
 |[],n,q,_,h=>h
 |y::l,n,q,hp,h=>(EsN.fold hF l (fun z hz=>hp z (jD _ hz)) (hF n q y (hp y (jx ..)) h)).mono (by simp;omega)
theorem EsN.heS:∀(l:List zZP) {n:Nat} {d:NdV} {q:Int×List Zou},(∀y∈l,y.seen.length<=5000/\y.pts.length<=1000)->EsN n q.2->EsN (n+l.length) (heS l (d,q)).2.2
 |[],n,d,q,_,h=>h
 |y::l,n,d,q,hp,h=>(EsN.heS l (d:=heD d y) (fun z hz=>hp z (jD _ hz)) (EsN.he3 (d:=d) h (hp y (jx ..)))).mono (by simp;omega)
theorem EsN.hear{n:Nat}{d:NdV}{q:Int×List Zou}(h:EsN n q.2){x:Zjo}(hx:Zlc x):EsN (n+(x.jT.length+x.ku.length+x.ki.length)) (ZiQ d q x).2.2:=by
 have h1:=EsN.fold (F:=Go.TrRun.he1 d) (P:=fun _=>True) (fun n q y _ h=>h.he1 y) x.jT (fun _ _=>trivial) h;have h2:=EsN.fold (F:=Go.TrRun.he2 d) (P:=fun _=>True) (fun n q y _ h=>h.he2 y) x.ku (fun _ _=>trivial) h1;exact(EsN.heS x.ki hx.sc h2).mono (by omega)
def Zju(h:Hrd):List Zou:=[⟨0,0,h⟩]
def Zlb(h:Hrd):Prop:=h.jT=[]/\h.ku=[]/\∀s∈h.ki,s.pts=[]
theorem ZjS{S:StV}:∀(l:List zZP) (k:zci),(∀s∈l,s.pts=[])->(ZiH S l (k,true)).2=true
 |[],k,_=>rfl
 |x::l,k,h=>by
  have e:ZiH S (x::l) (k,true)=ZiH S l (Zhv S (Zib S.m k x),true):=by
   show ZiH S l (Zhv S (Zib S.m k x),true&&ZiS S.m (Zhv S (Zib S.m k x)) x.pts)=_;rw[h x (jx ..)];rfl
  rw[e];exact ZjS l _ fun s hs=>h s (jD _ hs)
theorem Zkg{S:StV}{h:Hrd}(q:Zlb h)(k:zci):(znE S (some h) k).2=true:=by
 obtain⟨h1,h2,h3⟩:=q;unfold znE;simp only[h1,h2];exact ZjS h.ki (Zhv S k) h3
set_option maxRecDepth 100000
open Go Go.Eng Go.PlanLaw
theorem ZkF(c:Int):ZjC c [] []:=Zpz (Zoz.nil c) (by decide)
set_option maxRecDepth 10000
open Go Go.Eng Go.PlanLaw
theorem ZkU{S:StV}{zs:List Zon}{ss:List Sgn}{k:zci}{p:List Int}(h:Zjt S zs ss k p=true):uP S.car p=0:=by
 unfold Zjt at h;exact((zUm ..).1 h).2.1
structure ZoP(p:List Int):Prop where
 Da:∀a∈p,zk0 a
 len:p.length<=125
theorem ZoP.tail{p:List Int}(h:ZoP p):ZoP (Pl.vL p):=by
 unfold Pl.vL;split
 ·exact⟨fun a ha=>h.Da a (qn ha),by simp;have:=h.len;omega⟩
 ·exact h
theorem ZoP.act{p:List Int}(h:ZoP p)(i:Int):zk0 (Pl.qe p i):=by
 unfold Pl.qe;split
 ·unfold zk0;omega
 ·cases hq:p[(max 0 (min i (p.length-1))).toNat]? with
  |none=>unfold zk0;simp
  |some x=>exact h.Da x (kA hq)
structure Zrc(S:StV)(d:NdV)(g:RgV)(c:Int)(es:List Zou)(n:Nat):Prop where
 nd:Zk7 S d g es n
 ent:Zoz n c es
 kb:KB S.m d.ui
 kX:ZoP d.kX
 told:ZoP d.told
variable{S:StV}{zs:List Zon}{ss:List Sgn}
structure PlN(S:StV)(d d':NdV):Prop where
 lat:d'.qP=Pl.qe d'.told 0
 pln:d'.kX=Pl.vL d'.told
 told:d'.told=d.kX\/∃v up hold,(0<=v/\v<=2000)/\up<=20/\hold<=20/\d'.told=zJ2 S.car (Zh2 d S.car.kS.toNat) d.qP v up hold
theorem Zra(d:NdV)(K:zci):(goN S zs ss d K).kX=d.kX\/∃v up hold,(0<=v/\v<=2000)/\up<=20/\hold<=20/\(goN S zs ss d K).kX=zJ2 S.car (Zh2 d S.car.kS.toNat) d.qP v up hold:=by
 unfold goN;by_cases hm:(ZiF S { d with ui:=K }).mode=1
 ·rw[if_pos hm];by_cases h:0<=(Zkd S zs ss (ZiF S { d with ui:=K })).1
  ·right;unfold ZiG;simp only[if_pos h];unfold Zkd zOU at h ⊢;obtain⟨j,h1,h2,h3⟩:=Zkn _ _ _ 0 h;unfold zMT;rw[h2,if_neg (by omega),show(((0+j:Nat):Int)).toNat=j by omega];have yv:=jf h1;simp only[js,jp h1,qQ];generalize (zLj _ _ _ _)[j]=y at *;have yv:y∈Pl.yp S.car (Zh2 d S.car.kS.toNat) d.qP (max 0 (min K.ego.vhi 2000)):=yv;refine⟨max 0 (min K.ego.vhi 2000),?_⟩;simp only[Pl.yp,jM,qg,or_false]at yv;rcases yv with h|h|h|h|h|h|h|h<;>exact⟨_,_,by omega,by decide,by decide,h⟩
  ·left;unfold ZiG;simp only[if_neg h];rfl
 ·rw[if_neg hm];exact .inl rfl
theorem Zq8(d d2:NdV)(K:zci)(hp:d2.kX=d.kX)(hl:d2.qP=d.qP):PlN S d (ZjL (goN S zs ss d2 K)):=by
 refine⟨rfl,rfl,?_⟩;have h:=Zra (S:=S) (zs:=zs) (ss:=ss) d2 K;unfold Zh2 at h ⊢;rw[hp,hl]at h;exact h
theorem Zqh(hS:z6u S zs ss){d:NdV}{g:RgV}(hg:ZjQ g)(hk:KB S.m g.kc)(hn:d.now=g.kc.tick+g.na)(ht:d.now<=100000):KB S.m (ZoJ S zs ss d g)/\(ZoJ S zs ss d g).tick=d.now:=by
 have hacts:g.jN.length=g.na:=by simp[RgV.jN];have:=hg.few;omega
 obtain⟨k1,k2⟩:=Zpn (zs:=zs) (ss:=ss) hS g.jN g.kc hk (by omega);have h0:=hk.nd.t;have hkn:KNd S.m ⟨d.now,zTA 0 S.m.jd,(ZoW S zs ss g.jN g.kc).ego⟩:=⟨⟨fun b hb=>(zTQ hS.full.full.qW S.m.jd 0 rfl b hb).1,zTX hS.full.full.qW S.m.jd 0 rfl,k1.nd.j.ego⟩,by simp only;omega⟩;have hf:=k1.far;refine⟨⟨KNd.own hkn,?_,?_⟩,rfl⟩
 ·show(ZoW S zs ss g.jN g.kc).ego.shi<=1000000000+2000*d.now;rw[k2,hacts,<-hn]at hf;exact hf
 ·show d.now<=100000;exact ht
theorem Zrd(hS:z6u S zs ss){d:NdV}{K:zci}(hp:ZoP d.kX) :
  (goN S zs ss d K).now=d.now/\(goN S zs ss d K).ui=K/\(goN S zs ss d K).last=d.last/\ZoP (goN S zs ss d K).kX:=by
 unfold goN;by_cases hm:(ZiF S { d with ui:=K }).mode=1
 ·rw[if_pos hm];by_cases hf:0<=(Zkd S zs ss (ZiF S { d with ui:=K })).1
  ·obtain⟨v1,v2⟩:=ZkW hS.car (ZiF S { d with ui:=K }) hf;exact⟨rfl,rfl,rfl,(zNC (ZkU v1)).1,v2⟩
  ·have e:(ZiG S zs ss (ZiF S { d with ui:=K })).kX=d.kX:=by
    unfold ZiG;simp only[if_neg hf];rfl
   exact⟨rfl,rfl,rfl,by rw[e];exact hp⟩
 ·rw[if_neg hm];exact⟨rfl,rfl,rfl,hp⟩
def ZqB(S:StV)(d:NdV)(g:RgV)(c:Int)(es:List Zou)(v w u:Nat)(x:Zjo)(r:Int)(d':NdV)(g':RgV)(c':Int)(es':List Zou):Prop :=
 (∃v' w' u',(v<v'/\w<w'/\(u<=u'/\(u'=u->c'=c/\es'=es)))/\R L Cs Zh5 [Pt 0,.a (inC x)] (ndM S d g c es v w u)=some (.t [W r,W 0],ndM S d' g' c' es' v' w' u')) \/
 (c'=0/\es'=[]/\g'.ini=false/\∃g1 c1 es1 v' w1 u1,(v<v'/\(w<=w1/\(w1=w->g1=g))/\(u<=u1/\(u1=u->c1=c/\es1=es)))/\R L Cs Zh5 [Pt 0,.a (inC x)] (ndM S d g c es v w u)=some (.t [W r,W 0],Zqz S d' g' v' 2 g1 c1 es1 w1 u1))
def TkD(S:StV)(zs:List Zon)(ss:List Sgn)(d:NdV)(g:RgV)(c:Int)(es:List Zou)(x:Zjo)(d':NdV)(g':RgV)(c':Int)(es':List Zou):Prop :=
 (∃d2 K,hrN S zs ss d g c es (ksE es) x=(d2,c',es')/\Zkz S zs ss (Zhl S zs ss es g) es'=(K,true)/\K.tick=d.now/\KB S.m K/\d2.now=d.now/\d2.kX=d.kX/\d2.mode=d.mode/\d'=ZjL (goN S zs ss d2 K)/\g'=ZhJ (Zhl S zs ss es g) (Pl.qe (goN S zs ss d2 K).kX 0)) \/
 (∃d2 c2 es2,hrN S zs ss d g c es (ksE es) x=(d2,c2,es2)/\(Zkz S zs ss (Zhl S zs ss es g) es2).2=false/\KB S.m (ZoJ S zs ss d2 (Zhl S zs ss es g))/\(ZoJ S zs ss d2 (Zhl S zs ss es g)).tick=d.now/\d2.now=d.now/\d'=Zpr S zs ss d2 (Zhl S zs ss es g)/\g'=Zp7 S zs ss d2 (Zhl S zs ss es g)/\c'=0/\es'=[])
theorem Zrc.tick(hS:z6u S zs ss){d:NdV}{g:RgV}{c:Int}{es:List Zou}{n:Nat}(H:Zrc S d g c es n)(hn:n+300<=1000)(hd:d.now<=1000){x:Zjo}(hx:Zlc x)(hx8:x.ki.length<=8/\x.jT.length<=8/\x.ku.length<=8)(ht:x.tick=d.now)(v w u:Nat) :
  ∃d' g' c' es',Zrc S d' g' c' es' (n+24)/\d'.now=d.now+1/\PlN S d d'/\TkD S zs ss d g c es x d' g' c' es'/\ZqB S d g c es v w u x (Zlu S d') d' g' c' es':=by
 have hK:=Zpz H.ent (by omega);have hks:(ksE es).length<=1000:=jO (Zqi H.ent) (by omega);obtain⟨r1,r2,r3,r4,r5⟩:=ZkX (zs:=zs) (ss:=ss) hS H.nd;have hk0:=r4.nd.t;have hal:(Zhl S zs ss es g).jN.length=(Zhl S zs ss es g).na:=by simp[RgV.jN];omega
 have hd0:0<=d.now:=by omega
 have BE:=(H.ent.fgt (Zhl S zs ss es g).kc.tick (ksE es)).hear (d:=d) ⟨hd0,by omega⟩ (q:=(c,Zh0 (Zhl S zs ss es g).kc.tick (ksE es) es)) x;have C0:=EsN.hear (d:=d) (q:=(c,Zh0 (Zhl S zs ss es g).kc.tick (ksE es) es)) (H.nd.ents.fgt (Zhl S zs ss es g).kc.tick (ksE es)) hx;have hdd:=Zla x.ki d (x.ku.foldl (he2 d) (x.jT.foldl (he1 d) (c,Zh0 (Zhl S zs ss es g).kc.tick (ksE es) es)));have hll:=Zj2 x.ki d (x.ku.foldl (he2 d) (x.jT.foldl (he1 d) (c,Zh0 (Zhl S zs ss es g).kc.tick (ksE es) es))) H.nd.last (by omega);change _ at BE;have eh:ZiQ d (c,Zh0 (Zhl S zs ss es g).kc.tick (ksE es) es) x=hrN S zs ss d g c es (ksE es) x:=rfl;have eh':heS x.ki (d,x.ku.foldl (he2 d) (x.jT.foldl (he1 d) (c,Zh0 (Zhl S zs ss es g).kc.tick (ksE es) es)))=hrN S zs ss d g c es (ksE es) x:=rfl;rw[eh]at BE C0;rw[eh']at hdd hll;obtain⟨⟨d2,c2,es2⟩,e2⟩:∃y,hrN S zs ss d g c es (ksE es) x=y:=⟨_,rfl⟩;rw[e2]at BE C0 hdd hll;simp only at BE C0 hdd hll;obtain⟨yB,Ai,d_first,d_mode,DJ,d_told,d_know⟩:=hdd;have hent:Zoz (n+24) c2 es2:=BE.mono (by omega);have hesn:EsN (n+24) es2:=C0.mono (by omega);have Bx:ZoP d2.kX:=by rw[Ai];exact H.kX
 by_cases hok:(Zkz S zs ss (Zhl S zs ss es g) es2).2=true
 ·obtain⟨K,eK⟩:∃K,Zkz S zs ss (Zhl S zs ss es g) es2=(K,true):=⟨_,Prod.ext rfl hok⟩;obtain⟨v',w',u',hvw,_,hR⟩:=Zlp hS H.nd hn c v w u (ksE es) hK hks hx hx8 ht e2 eK;obtain⟨k1,k2⟩:=r4.BS (S:=S) (znB (Zhl S zs ss es g).kc.tick es2);have Bf:=ZkP (zs:=zs) (ss:=ss) hS es2 (Zhl S zs ss es g).jN (znE S (znB (Zhl S zs ss es g).kc.tick es2) (Zhl S zs ss es g).kc).1 (znE S (znB (Zhl S zs ss es g).kc.tick es2) (Zhl S zs ss es g).kc).2 k1 (by rw[k2];omega);have Bf:KB S.m (Zkz S zs ss (Zhl S zs ss es g) es2).1/\(Zkz S zs ss (Zhl S zs ss es g) es2).1.tick=(znE S (znB (Zhl S zs ss es g).kc.tick es2) (Zhl S zs ss es g).kc).1.tick+(Zhl S zs ss es g).jN.length:=Bf;rw[eK]at Bf;simp only at Bf;have hKt:K.tick=d.now:=by rw[Bf.2,k2];omega
  obtain⟨q1,q2,q3,q4⟩:=Zrd (zs:=zs) (ss:=ss) (K:=K) hS Bx;obtain⟨a1,a2,a3,a4,a5⟩:=ZjF (g:=Zhl S zs ss es g) (by omega) (Pl.qe (goN S zs ss d2 K).kX 0);refine⟨ZjL (goN S zs ss d2 K),ZhJ (Zhl S zs ss es g) (Pl.qe (goN S zs ss d2 K).kX 0),c2,es2,⟨⟨a4,fun a ha=>?_,by rw[a3];exact r4,?_,?_,hesn,?_,?_⟩,hent,?_,q4.tail,q4⟩,?_,Zq8 d d2 K Ai DJ,.inl ⟨d2,K,e2,eK,hKt,Bf.1,yB,Ai,d_mode,rfl,rfl⟩,.inl ⟨v',w',u',hvw,hR⟩⟩
  ·rw[a1]at ha;rcases jK.1 ha with ha|ha
   ·exact r3 a ha
   ·rw[jH.1 ha];exact q4.act 0
  ·show(goN S zs ss d2 K).now+1=_;rw[a3,a2,q1,yB];push_cast;omega
  ·show(goN S zs ss d2 K).now+1<=_;rw[q1,yB];omega
  ·show 0<=(goN S zs ss d2 K).last/\(goN S zs ss d2 K).last<=_;rw[q3];exact hll
  ·exact jO q4.tail.len (by decide)
  ·show KB S.m (goN S zs ss d2 K).ui;rw[q2];exact Bf.1
  ·show(goN S zs ss d2 K).now+1=_;rw[q1,yB]
 ·obtain⟨v',w1,u1,hvw,hR⟩:=Zqo (zs:=zs) (ss:=ss) hS H.nd hn c v w u (ksE es) hK hks hx hx8 ht e2 (by simpa using hok);obtain⟨l1,l2⟩:=Zqh (zs:=zs) (ss:=ss) hS (d:=d2) r1 r4 (by rw[yB];omega) (by rw[yB];omega);have e0:(ZoH (ZoJ S zs ss d2 (Zhl S zs ss es g))).jN=[]:=rfl;obtain⟨a1,a2,a3,a4,a5⟩:=ZjF (g:=ZoH (ZoJ S zs ss d2 (Zhl S zs ss es g))) (show 0<=4 by decide) (Pl.qe d2.kX 0);rw[e0]at a1;refine⟨Zpr S zs ss d2 (Zhl S zs ss es g),Zp7 S zs ss d2 (Zhl S zs ss es g),0,[],⟨⟨a4,fun a ha=>?_,?_,?_,?_,.nil _,hll,?_⟩,(Zoz.nil 0).mono (by omega),l1,Bx.tail,Bx⟩,?_,⟨rfl,rfl,.inl Ai⟩,.inr ⟨d2,c2,es2,e2,by simpa using hok,l1,l2.trans yB,yB,rfl,rfl,rfl,rfl⟩,.inr ⟨rfl,rfl,a5,_,_,_,v',w1,u1,hvw,hR⟩⟩
  ·have ha:a∈(ZhJ (ZoH (ZoJ S zs ss d2 (Zhl S zs ss es g))) (Pl.qe d2.kX 0)).jN:=ha;rw[a1]at ha;rw[jH.1 ha];exact Bx.act 0
  ·show KB S.m (ZhJ (ZoH (ZoJ S zs ss d2 (Zhl S zs ss es g))) (Pl.qe d2.kX 0)).kc;rw[a3];exact l1
  ·show d2.now+1=(ZhJ (ZoH (ZoJ S zs ss d2 (Zhl S zs ss es g))) (Pl.qe d2.kX 0)).kc.tick+(ZhJ (ZoH (ZoJ S zs ss d2 (Zhl S zs ss es g))) (Pl.qe d2.kX 0)).na;rw[a3,a2];show d2.now+1=(ZoJ S zs ss d2 (Zhl S zs ss es g)).tick+((0+1:Nat):Int);rw[l2];simp
  ·show d2.now+1<=_;rw[yB];omega
  ·exact jO Bx.tail.len (by decide)
  ·show d2.now+1=_;rw[yB]
end Go.TrRun
namespace Go.TrRun
open Go Go.Eng Go.PlanLaw
def ZqJ(p:List Int)(n:Nat):List Int:=(List.range n).map fun(i:Nat)=>Pl.qe p (i:Int)
theorem ZqL(x:Int)(l:List Int):Pl.qe (x::l) 0=x:=by
 unfold Pl.qe;rw[if_neg (by simp),show(max 0 (min (0:Int) (((x::l).length:Int)-1))).toNat=0 by omega];rfl
theorem ZqR(x:Int)(n:Nat):Pl.qe [x] n=x:=by
 unfold Pl.qe;rw[if_neg (by simp),show(max 0 (min (n:Int) ((([x]:List Int).length:Int)-1))).toNat=0 by simp only[jk,jo];omega];rfl
theorem ZqX(x y:Int)(l:List Int)(n:Nat):Pl.qe (x::y::l) ((n+1:Nat):Int)=Pl.qe (y::l) n:=by
 unfold Pl.qe;rw[if_neg (by simp),if_neg (by simp),show(max 0 (min ((n+1:Nat):Int) (((x::y::l).length:Int)-1))).toNat=(max 0 (min (n:Int) (((y::l).length:Int)-1))).toNat+1 by simp only[jk];omega,v9]
theorem Zq2{p:List Int}(hp:p≠[])(n:Nat):Pl.qe p ((n+1:Nat):Int)=Pl.qe (Pl.vL p) n:=by
 match p,hp with
 |[x],_=>rw[show Pl.vL [x]=[x] from rfl,ZqR,ZqR]
 |x::y::l,_=>rw[ZqX];rfl
theorem Zq6{p:List Int}{i:Nat}(h:i<p.length):Pl.qe p i=p[i]:=by
 unfold Pl.qe;rw[if_neg (by omega),show(max 0 (min (i:Int) ((p.length:Int)-1))).toNat=i by omega,jp h];rfl
theorem ZqS(p:List Int)(hp:p≠[])(n:Nat):ZqJ p (n+1)=Pl.qe p 0::ZqJ (Pl.vL p) n:=by
 unfold ZqJ;rw[List.range_succ_eq_map,kh,vu]
 congr 1
 apply List.map_congr_left;intro i _;exact Zq2 hp i
theorem Zq1(p:List Int)(n:Nat):ZqJ p (n+1)=ZqJ p n++[Pl.qe p n]:=by simp[ZqJ,List.range_succ]
theorem ZqP{c:Car}(hc:c.ok):∀(n:Nat) (a:Int) (p:List Int),p≠[]->chain c a p->chain c a (ZqJ p n)
 |0,a,p,_,_=>trivial
 |n+1,a,p,hp,h=>by
  rw[ZqS p hp];have h7:0<=c.uM:=by have:=hc.2.2.2.2.2.2.1;omega
  match p,hp with
  |[x],_ =>
   rw[ZqL];obtain⟨g1,g2,_⟩:=h;exact⟨g1,g2,ZqP hc n x [x] (by simp) ⟨g1,⟨by omega,by omega⟩,trivial⟩⟩
  |x::y::l,_ =>
   rw[ZqL];exact⟨h.1,h.2.1,ZqP hc n x (y::l) (by simp) h.2.2⟩
theorem ZqW{c:Car}(hc:c.ok){a:Int}{p:List Int}(hp:p≠[])(h:chain c a p):chain c (Pl.qe p 0) (Pl.vL p)/\Pl.vL p≠[]/\(-c.kC<=Pl.qe p 0/\Pl.qe p 0<=c.kV)/\(-c.uM<=Pl.qe p 0-a/\Pl.qe p 0-a<=c.uM):=by
 obtain⟨h1,h2,h3,h4,h5,h6,h7,h8,h9,h10⟩:=hc
 match p,hp with
 |[x],_ =>
  rw[ZqL];obtain⟨g1,g2,_⟩:=h;exact⟨⟨g1,⟨by omega,by omega⟩,trivial⟩,by simp[Pl.vL],g1,g2⟩
 |x::y::l,_ =>
  rw[ZqL];exact⟨h.2.2,by simp[Pl.vL],h.1,h.2.1⟩
def ZqN(c:Car)(q:List Int)(last cmd:Int):List Int×Int:=if c.kS<(q.length:Int)+1 then((q++[cmd]).drop 1,zFX c last ((q++[cmd]).headD 0)) else(q++[cmd],zFX c last 0)
structure QOk(S:StV)(d:NdV)(q:List Int)(last:Int):Prop where
 ch:chain S.car d.qP d.kX
 ne:d.kX≠[]
 lat:last=d.qP
 rng:-S.car.kC<=d.qP/\d.qP<=S.car.kV
 len:q.length<=S.car.kS.toNat
 que:List.replicate (S.car.kS.toNat-q.length) 0++q=ZqJ d.kX S.car.kS.toNat
variable{S:StV}{zs:List Zon}{ss:List Sgn}{d d':NdV}{q:List Int}{last:Int}
theorem QOk.told(hc:S.car.ok)(h:QOk S d q last)(hP:PlN S d d'):chain S.car d.qP d'.told/\d'.told≠[]/\ZqJ d.kX S.car.kS.toNat=ZqJ d'.told S.car.kS.toNat:=by
 rcases hP.told with e |⟨v,up,hold,hv,hu,hh,e⟩
 ·rw[e];exact⟨h.ch,h.ne,rfl⟩
 ·have hq:Zh2 d S.car.kS.toNat=ZqJ d.kX S.car.kS.toNat:=rfl;rw[hq]at e;have hl:(ZqJ d.kX S.car.kS.toNat).length=S.car.kS.toNat:=by simp[ZqJ]
  have hd:S.car.kS.toNat<=5:=by obtain⟨h1,h2,h3,h4,h5,h6,h7,h8,h9,h10⟩:=hc;omega
  obtain⟨g1,g2,g3,g4,g5,g6⟩:=zOW hc (up:=up) (hold:=hold) h.rng (ZqP hc S.car.kS.toNat _ _ h.ne h.ch) (by omega) hv hu hh;rw[<-e]at g1 g2 g5 g6;refine⟨g1,by intro e;rw[e]at g2;simp at g2,?_⟩;rw[hl]at g5 g6;apply vz
  ·simp[ZqJ]
  ·intro i i1 i2;rw[hl]at i1;have e1:(ZqJ d'.told S.car.kS.toNat)[i]=Pl.qe d'.told i:=by simp[ZqJ]
   rw[e1,Zq6 (by omega)];simp only[<-g5,List.getElem_take]
theorem QOk.next(hc:S.car.ok)(h:QOk S d q last)(hP:PlN S d d'):QOk S d' (ZqN S.car q last (Pl.qe d'.told S.car.kS)).1 (ZqN S.car q last (Pl.qe d'.told S.car.kS)).2/\(ZqN S.car q last (Pl.qe d'.told S.car.kS)).2=Pl.qe d'.told 0:=by
 obtain⟨t1,t2,t3⟩:=h.told hc hP;obtain⟨c1,c2,c3,c4⟩:=ZqW hc t2 t1;have hq:=h.que;rw[t3]at hq;obtain⟨D,hD⟩:∃D:Nat,S.car.kS=D:=jB (by obtain⟨h1,h2,h3,h4,h5,h6,h7,h8,h9,h10⟩:=hc;omega);have hDn:S.car.kS.toNat=D:=by omega
 have hlen:=h.len;rw[hDn]at hq hlen;have hz:List.replicate (D-q.length) 0++(q++[Pl.qe d'.told D])=Pl.qe d'.told 0::ZqJ d'.kX D:=by
  rw[<-jL,hq,<-Zq1,ZqS _ t2,hP.pln]
 have hr:zFX S.car last (Pl.qe d'.told 0)=Pl.qe d'.told 0:=by
  rw[h.lat];have:=h.rng;unfold zFX zVH;omega
 unfold ZqN;rw[hD];by_cases hl:(D:Int)<(q.length:Int)+1
 ·rw[if_pos hl];have e0:D-q.length=0:=by omega
  rw[e0]at hz;have hz:q++[Pl.qe d'.told D]=Pl.qe d'.told 0::ZqJ d'.kX D:=hz;rw[hz];simp only[Ax,List.drop_succ_cons,uH];have hlq:(ZqJ d'.kX D).length=D:=by simp[ZqJ]
  refine⟨⟨by rw[hP.lat,hP.pln];exact c1,by rw[hP.pln];exact c2,by rw[hr,hP.lat],by rw[hP.lat];exact c3,by rw[hDn,hlq];exact jm _,?_⟩,hr⟩;rw[hDn,hlq,Av];rfl
 ·rw[if_neg hl];obtain⟨j,hj⟩:∃j,D-q.length=j+1:=⟨D-q.length-1,by omega⟩;rw[hj,List.replicate_succ,ji,yG]at hz;rw[<-hz.1]at hr;refine⟨⟨by rw[hP.lat,hP.pln];exact c1,by rw[hP.pln];exact c2,hr.trans (hz.1.trans hP.lat.symm),by rw[hP.lat];exact c3,by rw[hDn];simp;omega,?_⟩,hr.trans hz.1⟩;rw[hDn,jA,List.length_singleton,show D-(q.length+1)=j by omega];exact hz.2
end Go.TrRun
namespace Go.TrRun
open Go Go.Eng
variable{k:Nat}{S:StV}{zs:List Zon}{ss:List Sgn}{d:NdV}{g:RgV}{c:Int}{es:List Zou}{v w u p q:Nat}{M:Mem}
theorem ZpX(S:StV)(d:NdV)(g:RgV)(c:Int)(es:List Zou)(v w u:Nat)(x:Zjo)(hn:0<=d.now/\d.now<=100000)(hx:x.tick=d.now->8<x.ki.length\/8<x.jT.length\/8<x.ku.length) :
  ∃e,(e=0->False)/\(x.tick=d.now->e=8)/\R L Cs Zh5 [Pt 0,.a (inC x)] (ndM S d g c es v w u)=some (.t [W 0,W e],ndM S d g c es v w u):=by
 have h0:=ZkQ S d g c es v w u;have hc0:zx (R L Cs) ⟨true⟩ (.c (.fn Zh3 [] [])) [Pt 0] (ndM S d g c es v w u++[bx 4 (inC x)])=some (.w (Bo false),ndM S d g c es v w u++[bx 4 (inC x)],.no):=by
  obtain⟨s0,s1,s2,s3,s4,na,ini,p⟩:=g;cases ini<;>simp[ndM,ndC,rgC,mpB,bxv]at h0<;>simp[h0,Zly]
 obtain⟨xt,xsc,xsp,xfx⟩:=x;simp only at hx;simp only[inC,ndM,ji,je]at hc0;by_cases ht:xt=d.now
 ·subst ht;have c1:8<max (xsc.length:Int) (max xsp.length xfx.length):=by have:=hx rfl;omega
  refine⟨8,by omega,fun _=>rfl,?_⟩;rw[zUa Zji rfl];obtain⟨s0,s1,s2,s3,s4,na,ini,p⟩:=g;cases ini<;>simp[-zx,ZhG,hc0,c1,Zly,zr]
 ·refine⟨11,by omega,fun e=>absurd e ht,?_⟩;rw[zUa Zji rfl];obtain⟨s0,s1,s2,s3,s4,na,ini,p⟩:=g;cases ini<;>simp[-zx,ZhG,hc0,ht,Zly,zr]
theorem LM.same(h:LM k S d g c es v w u p q M){f:Nat}{r:AV}(hr:(∃n,r=.w (W n))\/(∃k,r=.w (.a (zG k)))\/(∃y,r=.w (.a (zJ4 y)))\/(∃l,r=.w (.a [.jb (zu l)])))
  (hR:R L Cs f [Pt 0] (ndM S d g c es v w u)=some (r,ndM S d g c es v w u)) :
  zx (R L Cs) ⟨true⟩ (.c (.fn f [] [])) [Pt k] M=some (r,M,.no):=by
 refine(h.on (.inl rfl) hR).trans ?_;obtain⟨h1,h2,h3,n1,n2,n3⟩:=h;obtain⟨ρ,hρ⟩:∃ρ:Nat->Option Nat,∀j,ρ j=match ([k,p,q]:List Nat)[j]? with|some id=>some id|none=>some (M.length+(j-3)):=⟨_,fun _=>rfl⟩
 have hrA:znn ρ r=some r:=by
  rcases hr with⟨n,rfl⟩ |⟨y,rfl⟩ |⟨⟨y1,y2,y3⟩,rfl⟩ |⟨l,rfl⟩<;>simp[zG,zJ4,zJY]
 have hb:Eng.back ρ [k,p,q] (ndM S d g c es v w u) M=some (M,[]):=by simp[Eng.back,h1,h2,h3]
 have hl:=Zo2 hρ hb (new:=[]) rfl hrA
 rwa [qf]at hl
theorem ZpW(hS:z6u S zs ss){n:Nat}(H:Zrc S d g c es n)(hn:n+300<=1000)(hd:d.now<=1000){x:Zjo}(hx:Zlc x)(h:LM k S d g c es v w u p q M) :
  ∃r e d' g' c' es' v' w' u' p' q' M' fp,Zrc S d' g' c' es' (n+24)/\d'.now<=d.now+1/\LM k S d' g' c' es' v' w' u' p' q' M'/\M.length<=M'.length/\zx (R L Cs) ⟨true⟩ (.c (.fn Zh5 [] [])) [Pt k,.a (inC x)] M=some (.t [W r,W e],M',fp) /\
   ((e=0/\r=Zlu S d'/\d'.now=d.now+1/\PlN S d d'/\TkD S zs ss d g c es x d' g' c' es')\/(e≠0/\(x.tick=d.now->e=8)/\d'=d/\g'=g/\c'=c/\es'=es))/\Fr k p q p' q' M M':=by
 have Bz:0<=d.now/\d.now<=100000:=by
  have h1:=H.nd.now;have h2:=H.nd.kc.nd.t;omega
 by_cases hok:x.tick=d.now/\x.ki.length<=8/\x.jT.length<=8/\x.ku.length<=8
 ·obtain⟨ht,h8⟩:=hok;obtain⟨d',g',c',es',H',CX,hP,hD,hT⟩:=H.tick (zs:=zs) (ss:=ss) hS hn hd hx h8 ht v w u;rcases hT with⟨v',w',u',hvw,hR⟩ |⟨rfl,rfl,hi,g1,c1,es1,v',w1,u1,⟨hv,hw,hu⟩,hR⟩
  ·obtain⟨M',fp,hC,hM,hl,hF⟩:=h.call (v':=v') (w':=w') (u':=u') (f:=Zh5) (xs:=inC x) (.inr ⟨x,rfl⟩) (.inl ⟨_,_,rfl⟩) (fun e=>absurd e (by omega)) (fun e=>absurd e (by omega)) hvw.2.2.2 (by simpa using hR);exact⟨_,_,d',g',c',es',v',w',u',p,q,M',fp,H',by omega,hM,by omega,by simpa using hC,.inl ⟨rfl,rfl,CX,hP,hD⟩,hF⟩
  ·obtain⟨M',fp,hC,hM,hl,hF⟩:=h.lose hv hw.2 hu.2 hi hR;exact⟨_,_,d',g',0,[],_,_,_,_,_,M',fp,H',by omega,hM,hl,hC,.inl ⟨rfl,rfl,CX,hP,hD⟩,hF⟩
 ·obtain⟨e,he,he8,hR⟩:=ZpX S d g c es v w u x Bz (fun ht=>by
   by_cases a:8<x.ki.length
   ·exact .inl a
   ·by_cases b:8<x.jT.length
    ·exact .inr (.inl b)
    ·refine .inr (.inr ?_);have:¬(x.ki.length<=8/\x.jT.length<=8/\x.ku.length<=8):=fun q=>hok ⟨ht,q⟩
     omega)
  obtain⟨M',fp,hC,hM,hl,hF⟩:=h.call (v':=v) (w':=w) (u':=u) (f:=Zh5) (xs:=inC x) (.inr ⟨x,rfl⟩) (.inl ⟨_,_,rfl⟩) (fun _=>rfl) (fun _=>rfl) (fun _=>⟨rfl,rfl⟩) (by simpa using hR);exact⟨_,_,d,g,c,es,v,w,u,p,q,M',fp,⟨⟨H.nd.rg,H.nd.jN,H.nd.kc,H.nd.now,H.nd.few,H.nd.ents.mono (by omega),H.nd.last,H.nd.kX⟩,H.ent.mono (by omega),H.kb,H.kX,H.told⟩,by omega,hM,by omega,by simpa using hC,.inr ⟨he,he8,rfl,rfl,rfl,rfl⟩,hF⟩
end Go.TrRun
namespace Go.TrRun
open Go Go.Eng Go.PlanLaw
theorem Zrb{c:Car}(hc:c.ok)(last w:Int):R L Cs ZqT [.a (Pl.kJ c),W last,W w] []=some (.w (W (zFX c last w)),[]):=by
 have h:=Pl.yx hc;have hr:=Pl.DM hc ⟨last,0,[]⟩ w;simp[Pl.kG,Pl.uf,Pl.vD,Pl.dB,Pl.kJ]at h hr;rw[zUa ZqV rfl];simp[zGO,Pl.kJ,h,hr]
theorem zNt{c:Car}(hc:c.ok)(last w:Int):-c.kC<=zFX c last w/\zFX c last w<=c.kV:=by
 obtain⟨q1,q2,q3,q4,q5,q6,q7,q8,q9,q10⟩:=hc;unfold zFX zVH;omega
theorem Zq3{c:Car}(hc:c.ok){q:List Int}(hq:q.length<=c.kS.toNat)(last cmd uO yb:Int)(h1:1<=uO/\uO<=2)(h2:c.kC<=yb) :
  R L Cs ZqK [.a (Pl.kJ c),.a [.jb (zu q),I last],W cmd,W uO,W yb] []=some (.t [.a [.jb (zu (ZqN c q last cmd).1),I (ZqN c q last cmd).2],W (ZqN c q last cmd).2],[]):=by
 have h:=Pl.yx hc;have hcl:=Pl.BI q (by obtain⟨q1,q2,q3,q4,q5,q6,q7,q8,q9,q10⟩:=hc;omega);have hR:=fun w=>Zrb hc last w
 have hin:=fun w=>zNt hc last w
 obtain⟨q1,q2,q3,q4,q5,q6,q7,q8,q9,q10⟩:=hc;have hw0:IntKind.i64.wrap ((q.length:Int)-5)=(q.length:Int)-5:=zTd _ (by omega) (by omega);have hm0:max 0 ((q.length:Int)-5)=0:=by omega
 have hm1:max 0 (min uO 2)=uO:=by omega
 obtain⟨e1,e2⟩:IntKind.i64.wrap (c.kC*uO)=c.kC*uO/\c.kC<=c.kC*uO/\c.kC*uO<=180:=by
  rcases(by omega:uO=1\/uO=2)with rfl|rfl
  ·exact⟨zTd _ (by omega) (by omega),by omega,by omega⟩
  ·exact⟨zTd _ (by omega) (by omega),by omega,by omega⟩
 have e3:IntKind.i64.wrap (-min (c.kC*uO) (max 0 (min yb 90)))=-min (c.kC*uO) (max 0 (min yb 90)):=zTd _ (by omega) (by omega);have hmx:∀w,max (zFX c last w) (-min (c.kC*uO) (max 0 (min yb 90)))=zFX c last w:=fun w=>by have:=hin w;omega
 have w5:IntKind.i64.wrap (-5)=-5:=zTd _ (by omega) (by omega);have m5:max (0:Int) (-5)=0:=rfl;simp only[Pl.kJ]at h hR;rw[zUa ZqQ rfl];unfold ZqN
 match q,hq,hcl,hw0,hm0 with
 |[],hq,hcl,hw0,hm0 =>
  simp at hcl;by_cases hd:c.kS<1
  ·simp[ZqG,zX,zg,Pl.kJ,h,hR,hcl,hd,hw0,hm0,hm1,e1,e3,hmx,w5,m5]
  ·simp[ZqG,zX,zg,Pl.kJ,h,hR,hcl,hd,hw0,hm0,hm1,e1,e3,hmx,w5,m5]
 |x::t,hq,hcl,hw0,hm0 =>
  have hw0:IntKind.i64.wrap ((t.length:Int)+1-5)=(t.length:Int)+1-5:=hw0;have hm0:max 0 ((t.length:Int)+1-5)=0:=hm0;have p1:(0:Int)<=(t.length:Int)+1:=by omega
  have p2:(0:Int)<=(t.length:Int)+1+1:=by omega
  have p3:(1:Int)<=(t.length:Int)+1+1:=by omega
  have p4:(0:Int)<(t.length:Int)+1+1:=by omega
  have p5:1+(t.length+1)<=t.length+1+1:=by omega
  have p6:(t.length+1+1)*8<=140737488355328:=by simp at hq;omega
  have p7:(t.length+1)*8<=140737488355328:=by omega
  have htk2:List.take (t.length+1) (zu t++[[I cmd]])=zu t++[[I cmd]]:=jw (by simp);have htk:List.take t.length (zu t)=zu t:=jw (by simp);simp at hcl;by_cases hd:c.kS<(t.length:Int)+1+1
  ·simp[ZqG,zX,zg,Pl.kJ,h,hR,hcl,hd,hw0,hm0,hm1,e1,e3,hmx,w5,m5,htk,p1,p2,p3,p4,p5,p6,p7,htk2]
  ·simp[ZqG,zX,zg,Pl.kJ,h,hR,hcl,hd,hw0,hm0,hm1,e1,e3,hmx,w5,m5,htk,p1,p2,p3,p4,p5,p6,p7,htk2]
open Go Go.Eng
abbrev ZoM(l:List Zjo):List (List Cl):=l.map inC
def Zpi(y:zZP):Bool:=decide (y.seen.length<=8)&&decide (y.pts.length<=20)
def ZpQ(x:Zjo):Bool:=decide (x.ki.length<=10)&&(decide (x.jT.length<=10)&&(decide (x.ku.length<=10)&&x.ki.all Zpi))
def smB(l:List Zjo):Bool:=decide (l.length<=8)&&l.all ZpQ
theorem ZoY{α:Type}{l r:List α}{x:α}{i:Nat}(h:l.drop i=x::r):∃hi:i<l.length,l[i]=x/\l.drop (i+1)=r:=by
 have hi:i<l.length:=by
  have:=congrArg List.length h;simp at this;omega
 rw[jv hi]at h;exact⟨hi,(jY h).1,(jY h).2⟩
theorem ZoS{α:Type}{l:List α}{i:Nat}(h:l.drop i=[])(hi:i<=l.length):i=l.length:=by
 have:=congrArg List.length h;simp at this;omega
theorem Zpw(l:List Zjo)(i:Nat)(hi:i<l.length)(hs:l[i].ki.length<=10):∀(r:List zZP) (k:Nat),l[i].ki.drop k=r->k<=l[i].ki.length ->
  Y L Cs ZoD (some [0,3,4]) 0 [(0,.w (.c (.jb (ZoM l)))),(3,.w (W i)),(4,.w (W k))] [] =
    if r.all Zpi then some (.exit 2,[(46,.w (Bo false)),(3,.w (W i)),(0,.w (.c (.jb (ZoM l)))),(4,.w (W l[i].ki.length))],[]) else some (.ret,[(2,.w (Bo false))],[])
 |[],k,hd,hk=>by
  obtain rfl:=ZoS hd hk;rw[ZfM ZoD.eq_1];simp[hi,ZlG]
 |y::r,k,hd,hk=>by
  obtain⟨hk1,hy,hd'⟩:=ZoY hd;have hw:=zB (i:=k) (by omega);have ih:=Zpw l i hi hs r (k+1) hd' (by omega);have hck:(k:Int)<l[i].ki.length:=by omega
  rw[qB];rw[ZfM ZoD.eq_1];by_cases c1:y.seen.length<=8
  ·by_cases c2:y.pts.length<=20
   ·have e:Zpi y=true:=by simp[Zpi,c1,c2]
    rw[e,uz,<-ih];have d1:¬(8:Int)<y.seen.length:=by omega
    have d2:¬(20:Int)<y.pts.length:=by omega
    simp[hi,ZlG,hck,hk1,hy,hw,zX6,zWx,zWs,d1,d2]
   ·have e:Zpi y=false:=by simp[Zpi,c2]
    rw[e,y8,if_neg (by simp)];have d1:¬(8:Int)<y.seen.length:=by omega
    have d2:(20:Int)<y.pts.length:=by omega
    simp[hi,ZlG,hck,hk1,hy,zX6,zWx,zWs,d1,d2]
  ·have e:Zpi y=false:=by simp[Zpi,c1]
   rw[e,y8,if_neg (by simp)];have d1:(8:Int)<y.seen.length:=by omega
   simp[hi,ZlG,hck,hk1,hy,zX6,zWx,zWs,d1]
theorem Zpv(l:List Zjo)(hl:l.length<=8):∀(r:List Zjo) (i:Nat),l.drop i=r->i<=l.length ->
  Y L Cs ZoC (some [3,0]) 0 [(3,.w (W i)),(0,.w (.c (.jb (ZoM l))))] [] =
    if r.all ZpQ then some (.exit 0,[(11,.w (Bo false)),(3,.w (W l.length)),(0,.w (.c (.jb (ZoM l))))],[]) else some (.ret,[(2,.w (Bo false))],[])
 |[],i,hd,hi=>by
  obtain rfl:=ZoS hd hi;rw[ZfM ZoC.eq_1];simp
 |x::r,i,hd,hi=>by
  obtain⟨hi1,hx,hd'⟩:=ZoY hd;have hw:=zB (i:=i) (by omega);have ih:=Zpv l hl r (i+1) hd' (by omega);have hci:(i:Int)<l.length:=by omega
  rw[qB];rw[ZfM ZoC.eq_1];unfold ZpQ;by_cases c1:x.ki.length<=10
  ·have d1:¬(10:Int)<x.ki.length:=by omega
   by_cases c2:x.jT.length<=10
   ·have d2:¬(10:Int)<x.jT.length:=by omega
    by_cases c3:x.ku.length<=10
    ·have d3:¬(10:Int)<x.ku.length:=by omega
     have h1:=Zpw l i hi1 (by rw[hx];exact c1) x.ki 0 (by rw[hx];rfl) (jr _);simp only[jg]at h1;simp only[c1,c2,c3,decide_true,uz];by_cases c4:x.ki.all Zpi=true
     ·rw[if_pos c4]at h1;rw[c4,uz];unfold ZpQ at ih;rw[<-ih];simp[hi1,hx,hci,hw,d1,d2,d3,ZlG,zb,h1]
     ·rw[if_neg c4]at h1;simp only[Ap]at c4;rw[c4,y8,if_neg (by simp)];simp[hi1,hx,hci,hw,d1,d2,d3,ZlG,zb,h1]
    ·have d3:(10:Int)<x.ku.length:=by omega
     simp[c3,hi1,hx,hci,hw,d1,d2,d3,ZlG,zb]
   ·have d2:(10:Int)<x.jT.length:=by omega
    simp[c2,hi1,hx,hci,hw,d1,d2,ZlG,zb]
  ·have d1:(10:Int)<x.ki.length:=by omega
   simp[c1,hi1,hx,hci,hw,d1,ZlG,zb]
theorem Zqn(l:List Zjo):R L Cs ZoI [.c (.jb (ZoM l))] []=some (.w (Bo (smB l)),[]):=by
 rw[zUa ZoV rfl];unfold smB;by_cases h:l.length<=8
 ·have h2:=Zpv l h l 0 rfl (jr _);simp only[jg]at h2;have d:¬(8:Int)<l.length:=by omega
  rw[decide_eq_true h,uz];by_cases c:l.all ZpQ=true
  ·rw[if_pos c]at h2;rw[c];simp[ZoB,d,h2]
  ·rw[if_neg c]at h2;simp only[Ap]at c;rw[c];simp[ZoB,d,h2]
 ·have d:(8:Int)<l.length:=by omega
  rw[decide_eq_false h,y8];simp[ZoB,d]
def w64(n:Int):Int:=IntKind.i64.wrap n
def ZoR(t:Int)(x:Mrk):Mrk:=⟨w64 (x.st+t),x.lo,x.hi⟩
def Zo8(t:Int)(x:zZP):zZP:=⟨w64 (x.qx+t),x.seen,x.pts⟩
def shI(t:Int)(x:Zjo):Zjo:=⟨w64 (x.tick+t),x.ki.map (Zo8 t),x.jT.map (ZoR t),x.ku.map (ZoR t)⟩
abbrev z4:List Cl:=[I 0,.jc,.jc,.jc]
abbrev shM(x:Zjo)(t:Int)(s1 s2 s3:Cl)(v:Nat)(G:Mem):Mem:=bx 4 (inC x)::bx 4 z4::bxv v 4 [I t,s1,s2,s3]::G
inductive LsN (n:Nat) (G:Mem):List (List Cl)->Cl->Prop
 |nil:LsN n G [] .jc
 |own (j:Nat) (hj:n<=j) (rows:List (List Cl)) (h0:rows≠[]) (h:G[j]?=some (some (own 3 rows))):LsN n G rows (.slice (j+3) rows.length 3 0 rows.length none)
theorem LsN.vo{n m:Nat}{G G':Mem}{rows:List (List Cl)}{s:Cl}(h:LsN n G rows s)(hk:∀k,k<G.length->G'[k]?=G[k]?)(hn:m<=n):LsN m G' rows s:=by
 cases h with
 |nil=>exact .nil
 |own j hj _ h0 h=>exact .own j (by omega) _ h0 (by rw[hk j (jQ.1 h).1];exact h)
theorem ZoX{x:Zjo}{t:Int}{s1 s2 s3:Cl}{v n:Nat}{G:Mem}{E:Env}(hn:3<=n)(h:Eng.below n s1=false\/Eng.below n s2=false\/Eng.below n s3=false):kL n E (shM x t s1 s2 s3 v G)=shM x t s1 s2 s3 v G:=by
 unfold kL;split
 ·rfl
 ·rw[if_neg];intro hb;simp only[jl]at hb;obtain⟨m,rfl⟩:∃m,n=m+3:=⟨n-3,by omega⟩;have h1:((shM x t s1 s2 s3 v G).take (m+3))[2]?=some (bxv v 4 [I t,s1,s2,s3]):=rfl;have h2:([[I t,s1,s2,s3]]:List (List Cl)).all (fun r=>r.all (Eng.below (m+3)))=true:=jy.1 hb.2 _ (kA h1);simp only[qB,List.all_nil,Bool.and_true,jl]at h2;obtain⟨_,a,b,c⟩:=h2;rw[a,b,c]at h;rcases h with h|h|h<;>cases h
abbrev Zp3(i:Nat)(t:Int):Env:=[(7,.w (W i)),(4,.w (Pt 1)),(1,.w (W t)),(2,.w (Pt 0)),(5,.w (Pt 2))]
theorem Zpb(x:Zjo)(t t':Int)(s1 s3:Cl)(hs:x.jT.length<=100)(G0:Mem):∀(r:List Mrk) (i v:Nat) (s2:Cl) (G:Mem),x.jT.drop i=r->i<=x.jT.length->LsN G0.length G (zb ((x.jT.take i).map (ZoR t))) s2->G0.length<=G.length->(∀k,k<G0.length->G[k]?=G0[k]?) ->
  ∃v' S' G',Y L Cs Zox (some [7,4,1,2,5]) (G0.length+3) (Zp3 i t) (shM x t' s1 s2 s3 v G)=some (.exit 2,(55,.w (Bo false))::Zp3 x.jT.length t,(shM x t' s1 S' s3 v' G'))/\LsN G0.length G' (zb (x.jT.map (ZoR t))) S'/\G0.length<=G'.length/\(∀k,k<G0.length->G'[k]?=G0[k]?)
 |[],i,v,s2,G,hd,hi,hL,hg,hk=>by
  obtain rfl:=ZoS hd hi;refine⟨v,s2,G,?_,by rw[kE]at hL;exact hL,hg,hk⟩;rw[ZfM Zox.eq_1];simp[inC,zb,ZjO]
 |y::r,i,v,s2,G,hd,hi,hL,hg,hk=>by
  obtain⟨hi1,hy,hd'⟩:=ZoY hd;have hw:=zB (i:=i) (by omega);have hci:(i:Int)<x.jT.length:=by omega
  have htk:zb ((x.jT.take (i+1)).map (ZoR t))=zb ((x.jT.take i).map (ZoR t))++[[I (w64 (y.st+t)),I y.lo,I y.hi]]:=by
   rw[qI hi1,hy];simp[zb,ZoR,ZjO]
  have hln:(zb ((x.jT.take i).map (ZoR t))).length=i:=by simp[zb];omega
  generalize zb ((x.jT.take i).map (ZoR t))=rows at hL htk hln;cases hL with
  |nil =>
   obtain rfl:i=0:=by simpa using hln.symm
   have hdr:kL (G0.length+3) (Zp3 1 t) (shM x t' s1 (.slice ((G.length+1)+3) 1 3 0 1 none) s3 (v+1) (G++[some (own 3 [[I (w64 (y.st+t)),I y.lo,I y.hi]]),some (own 3 [[I (w64 (y.st+t)),I y.lo,I y.hi]])]))=(shM x t' s1 (.slice ((G.length+1)+3) 1 3 0 1 none) s3 (v+1) (G++[some (own 3 [[I (w64 (y.st+t)),I y.lo,I y.hi]]),some (own 3 [[I (w64 (y.st+t)),I y.lo,I y.hi]])])):=ZoX (by omega) (.inr (.inl (by simp[Eng.below,yK];omega)));obtain⟨v',S',G',ih,h1,h2,h3⟩:=Zpb x t t' s1 s3 hs G0 r 1 (v+1) (.slice ((G.length+1)+3) 1 3 0 1 none) (G++[some (own 3 [[I (w64 (y.st+t)),I y.lo,I y.hi]]),some (own 3 [[I (w64 (y.st+t)),I y.lo,I y.hi]])]) hd' (by omega) (by
    rw[htk];exact .own (G.length+1) (by omega) _ (by simp) (by simp[own])) (by simp;omega) (fun k hk'=>by rw[jq (by omega)];exact hk k hk')
   refine⟨v',S',G',?_,h1,h2,h3⟩;rw[<-ih,<-hdr];rw[ZfM Zox.eq_1];simp[-kL,inC,zb,ZjO,hi1,hy,wk1,own,w64]<;>rfl
  |own j hj _ h0 hG =>
   have hjl:=(jQ.1 hG).1;have hi0:i≠0:=fun e=>h0 (jJ (hln.trans e))
   have hj2:∀N:Mem,(G++N)[j]?=some (some (own 3 rows)):=fun N=>by rw[jq hjl];exact hG
   have hr:(i+1)*24<=140737488355328:=by omega
   have htr:List.take i rows=rows:=by rw[<-hln];exact kE
   rw[hln];have hdr:kL (G0.length+3) (Zp3 (i+1) t) (shM x t' s1 (.slice (j+3) (i+1) 3 0 (i+1) none) s3 (v+1) ((G++[some (own 3 [[I (w64 (y.st+t)),I y.lo,I y.hi]])]).set j (some (own 3 (rows++[[I (w64 (y.st+t)),I y.lo,I y.hi]])))))=(shM x t' s1 (.slice (j+3) (i+1) 3 0 (i+1) none) s3 (v+1) ((G++[some (own 3 [[I (w64 (y.st+t)),I y.lo,I y.hi]])]).set j (some (own 3 (rows++[[I (w64 (y.st+t)),I y.lo,I y.hi]]))))):=ZoX (by omega) (.inr (.inl (by simp[Eng.below,yK];omega)));obtain⟨v',S',G',ih,h1,h2,h3⟩:=Zpb x t t' s1 s3 hs G0 r (i+1) (v+1) (.slice (j+3) (i+1) 3 0 (i+1) none) ((G++[some (own 3 [[I (w64 (y.st+t)),I y.lo,I y.hi]])]).set j (some (own 3 (rows++[[I (w64 (y.st+t)),I y.lo,I y.hi]])))) hd' (by omega) (by
    rw[htk];have:=LsN.own (n:=G0.length) (G:=(G++[some (own 3 [[I (w64 (y.st+t)),I y.lo,I y.hi]])]).set j (some (own 3 (rows++[[I (w64 (y.st+t)),I y.lo,I y.hi]])))) j hj (rows++[[I (w64 (y.st+t)),I y.lo,I y.hi]]) (by simp) (jS (by simp;omega));simpa [hln]using this) (by simp;omega) (fun k hk'=>by rw[jz (by omega),jq (by omega)];exact hk k hk')
   refine⟨v',S',G',?_,h1,h2,h3⟩;rw[<-ih,<-hdr];rw[ZfM Zox.eq_1];simp[-kL,inC,zb,ZjO,hi1,hci,hy,hw,own,w64,hj2,hln,hr,htr]<;>rfl
abbrev Zp2(i:Nat)(t:Int):Env:=[(8,.w (W i)),(4,.w (Pt 1)),(1,.w (W t)),(2,.w (Pt 0)),(5,.w (Pt 2))]
theorem Zpa(x:Zjo)(t t':Int)(s1 s2:Cl)(hs:x.ku.length<=100)(G0:Mem):∀(r:List Mrk) (i v:Nat) (s3:Cl) (G:Mem),x.ku.drop i=r->i<=x.ku.length->LsN G0.length G (zb ((x.ku.take i).map (ZoR t))) s3->G0.length<=G.length->(∀k,k<G0.length->G[k]?=G0[k]?) ->
  ∃v' S' G',Y L Cs Zow (some [8,4,1,2,5]) (G0.length+3) (Zp2 i t) (shM x t' s1 s2 s3 v G)=some (.exit 4,(88,.w (Bo false))::Zp2 x.ku.length t,(shM x t' s1 s2 S' v' G'))/\LsN G0.length G' (zb (x.ku.map (ZoR t))) S'/\G0.length<=G'.length/\(∀k,k<G0.length->G'[k]?=G0[k]?)
 |[],i,v,s3,G,hd,hi,hL,hg,hk=>by
  obtain rfl:=ZoS hd hi;refine⟨v,s3,G,?_,by rw[kE]at hL;exact hL,hg,hk⟩;rw[ZfM Zow.eq_1];simp[inC,zb,ZjO]
 |y::r,i,v,s3,G,hd,hi,hL,hg,hk=>by
  obtain⟨hi1,hy,hd'⟩:=ZoY hd;have hw:=zB (i:=i) (by omega);have hci:(i:Int)<x.ku.length:=by omega
  have htk:zb ((x.ku.take (i+1)).map (ZoR t))=zb ((x.ku.take i).map (ZoR t))++[[I (w64 (y.st+t)),I y.lo,I y.hi]]:=by
   rw[qI hi1,hy];simp[zb,ZoR,ZjO]
  have hln:(zb ((x.ku.take i).map (ZoR t))).length=i:=by simp[zb];omega
  generalize zb ((x.ku.take i).map (ZoR t))=rows at hL htk hln;cases hL with
  |nil =>
   obtain rfl:i=0:=by simpa using hln.symm
   have hdr:kL (G0.length+3) (Zp2 1 t) (shM x t' s1 s2 (.slice ((G.length+1)+3) 1 3 0 1 none) (v+1) (G++[some (own 3 [[I (w64 (y.st+t)),I y.lo,I y.hi]]),some (own 3 [[I (w64 (y.st+t)),I y.lo,I y.hi]])]))=(shM x t' s1 s2 (.slice ((G.length+1)+3) 1 3 0 1 none) (v+1) (G++[some (own 3 [[I (w64 (y.st+t)),I y.lo,I y.hi]]),some (own 3 [[I (w64 (y.st+t)),I y.lo,I y.hi]])])):=ZoX (by omega) (.inr (.inr (by simp[Eng.below,yK];omega)));obtain⟨v',S',G',ih,h1,h2,h3⟩:=Zpa x t t' s1 s2 hs G0 r 1 (v+1) (.slice ((G.length+1)+3) 1 3 0 1 none) (G++[some (own 3 [[I (w64 (y.st+t)),I y.lo,I y.hi]]),some (own 3 [[I (w64 (y.st+t)),I y.lo,I y.hi]])]) hd' (by omega) (by
    rw[htk];exact .own (G.length+1) (by omega) _ (by simp) (by simp[own])) (by simp;omega) (fun k hk'=>by rw[jq (by omega)];exact hk k hk')
   refine⟨v',S',G',?_,h1,h2,h3⟩;rw[<-ih,<-hdr];rw[ZfM Zow.eq_1];simp[-kL,inC,zb,ZjO,hi1,hy,wk1,own,w64]<;>rfl
  |own j hj _ h0 hG =>
   have hjl:=(jQ.1 hG).1;have hi0:i≠0:=fun e=>h0 (jJ (hln.trans e))
   have hj2:∀N:Mem,(G++N)[j]?=some (some (own 3 rows)):=fun N=>by rw[jq hjl];exact hG
   have hr:(i+1)*24<=140737488355328:=by omega
   have htr:List.take i rows=rows:=by rw[<-hln];exact kE
   rw[hln];have hdr:kL (G0.length+3) (Zp2 (i+1) t) (shM x t' s1 s2 (.slice (j+3) (i+1) 3 0 (i+1) none) (v+1) ((G++[some (own 3 [[I (w64 (y.st+t)),I y.lo,I y.hi]])]).set j (some (own 3 (rows++[[I (w64 (y.st+t)),I y.lo,I y.hi]])))))=(shM x t' s1 s2 (.slice (j+3) (i+1) 3 0 (i+1) none) (v+1) ((G++[some (own 3 [[I (w64 (y.st+t)),I y.lo,I y.hi]])]).set j (some (own 3 (rows++[[I (w64 (y.st+t)),I y.lo,I y.hi]]))))):=ZoX (by omega) (.inr (.inr (by simp[Eng.below,yK];omega)));obtain⟨v',S',G',ih,h1,h2,h3⟩:=Zpa x t t' s1 s2 hs G0 r (i+1) (v+1) (.slice (j+3) (i+1) 3 0 (i+1) none) ((G++[some (own 3 [[I (w64 (y.st+t)),I y.lo,I y.hi]])]).set j (some (own 3 (rows++[[I (w64 (y.st+t)),I y.lo,I y.hi]])))) hd' (by omega) (by
    rw[htk];have:=LsN.own (n:=G0.length) (G:=(G++[some (own 3 [[I (w64 (y.st+t)),I y.lo,I y.hi]])]).set j (some (own 3 (rows++[[I (w64 (y.st+t)),I y.lo,I y.hi]])))) j hj (rows++[[I (w64 (y.st+t)),I y.lo,I y.hi]]) (by simp) (jS (by simp;omega));simpa [hln]using this) (by simp;omega) (fun k hk'=>by rw[jz (by omega),jq (by omega)];exact hk k hk')
   refine⟨v',S',G',?_,h1,h2,h3⟩;rw[<-ih,<-hdr];rw[ZfM Zow.eq_1];simp[-kL,inC,zb,ZjO,hi1,hci,hy,hw,own,w64,hj2,hln,hr,htr]<;>rfl
abbrev Zp4(i:Nat)(t:Int):Env:=[(6,.w (W i)),(4,.w (Pt 1)),(1,.w (W t)),(2,.w (Pt 0)),(5,.w (Pt 2))]
theorem Zpc(x:Zjo)(t t':Int)(s2 s3:Cl)(hs:x.ki.length<=100)(G0:Mem)(hsz:∀y∈x.ki,y.seen.length<=5000/\y.pts.length<=1000):∀(r:List zZP) (i v:Nat) (s1:Cl) (G:Mem),x.ki.drop i=r->i<=x.ki.length->LsN G0.length G (ZlG ((x.ki.take i).map (Zo8 t))) s1->G0.length<=G.length->(∀k,k<G0.length->G[k]?=G0[k]?) ->
  ∃v' S' G',Y L Cs Zoy (some [6,4,1,2,5]) (G0.length+3) (Zp4 i t) (shM x t' s1 s2 s3 v G)=some (.exit 0,(18,.w (Bo false))::Zp4 x.ki.length t,(shM x t' S' s2 s3 v' G'))/\LsN G0.length G' (ZlG (x.ki.map (Zo8 t))) S'/\G0.length<=G'.length/\(∀k,k<G0.length->G'[k]?=G0[k]?)
 |[],i,v,s1,G,hd,hi,hL,hg,hk=>by
  obtain rfl:=ZoS hd hi;refine⟨v,s1,G,?_,by rw[kE]at hL;exact hL,hg,hk⟩;rw[ZfM Zoy.eq_1];simp[inC,ZlG,zX6,zWx,zWs,zX]
 |y::r,i,v,s1,G,hd,hi,hL,hg,hk=>by
  obtain⟨hi1,hy,hd'⟩:=ZoY hd;have hw:=zB (i:=i) (by omega);have hci:(i:Int)<x.ki.length:=by omega
  have htk:ZlG ((x.ki.take (i+1)).map (Zo8 t))=ZlG ((x.ki.take i).map (Zo8 t))++[[I (w64 (y.qx+t)),.jb (zWx y.seen),.jb (zWs y.pts)]]:=by
   rw[qI hi1,hy];simp[ZlG,Zo8,zX6]
  have hln:(ZlG ((x.ki.take i).map (Zo8 t))).length=i:=by simp[ZlG];omega
  have hy2:=hsz y (by rw[<-hy];exact jf hi1);have q1:y.seen.length*24<=140737488355328:=by omega
  have q2:y.pts.length*24<=140737488355328:=by omega
  have q3:List.take y.seen.length (List.map zWX y.seen)=List.map zWX y.seen:=jw (by simp);have q4:List.take y.pts.length (List.map zYi y.pts)=List.map zYi y.pts:=jw (by simp);generalize ZlG ((x.ki.take i).map (Zo8 t))=rows at hL htk hln;cases hL with
  |nil =>
   obtain rfl:i=0:=by simpa using hln.symm
   have hdr:kL (G0.length+3) (Zp4 1 t) (shM x t' (.slice ((G.length+3)+3) 1 3 0 1 none) s2 s3 (v+1) (G++[some { box:=false,esz:=3,rows:=zWx y.seen,gen:=y.seen.length,fz:=true,ver:=y.seen.length+1 },some { box:=false,esz:=3,rows:=zWs y.pts,gen:=y.pts.length,fz:=true,ver:=y.pts.length+1 },some (own 3 [[I (w64 (y.qx+t)),.jb (zWx y.seen),.jb (zWs y.pts)]]),some (own 3 [[I (w64 (y.qx+t)),.jb (zWx y.seen),.jb (zWs y.pts)]])]))=(shM x t' (.slice ((G.length+3)+3) 1 3 0 1 none) s2 s3 (v+1) (G++[some { box:=false,esz:=3,rows:=zWx y.seen,gen:=y.seen.length,fz:=true,ver:=y.seen.length+1 },some { box:=false,esz:=3,rows:=zWs y.pts,gen:=y.pts.length,fz:=true,ver:=y.pts.length+1 },some (own 3 [[I (w64 (y.qx+t)),.jb (zWx y.seen),.jb (zWs y.pts)]]),some (own 3 [[I (w64 (y.qx+t)),.jb (zWx y.seen),.jb (zWs y.pts)]])])):=ZoX (by omega) (.inl (by simp[Eng.below,yK];omega));obtain⟨v',S',G',ih,h1,h2,h3⟩:=Zpc x t t' s2 s3 hs G0 hsz r 1 (v+1) (.slice ((G.length+3)+3) 1 3 0 1 none) (G++[some { box:=false,esz:=3,rows:=zWx y.seen,gen:=y.seen.length,fz:=true,ver:=y.seen.length+1 },some { box:=false,esz:=3,rows:=zWs y.pts,gen:=y.pts.length,fz:=true,ver:=y.pts.length+1 },some (own 3 [[I (w64 (y.qx+t)),.jb (zWx y.seen),.jb (zWs y.pts)]]),some (own 3 [[I (w64 (y.qx+t)),.jb (zWx y.seen),.jb (zWs y.pts)]])]) hd' (by omega) (by
    rw[htk];exact .own (G.length+3) (by omega) _ (by simp) (by simp[own])) (by simp;omega) (fun k hk'=>by rw[jq (by omega)];exact hk k hk')
   refine⟨v',S',G',?_,h1,h2,h3⟩;rw[<-ih,<-hdr];rw[ZfM Zoy.eq_1];by_cases c1:y.seen=[]<;>by_cases c2:y.pts=[]<;>simp[-kL,inC,ZlG,zX6,zWx,zWs,zX,hi1,hy,wk1,own,w64,q1,q2,q3,q4,c1,c2]<;>rfl
  |own j hj _ h0 hG =>
   have hjl:=(jQ.1 hG).1;have hi0:i≠0:=fun e=>h0 (jJ (hln.trans e))
   have hj2:∀N:Mem,(G++N)[j]?=some (some (own 3 rows)):=fun N=>by rw[jq hjl];exact hG
   have hr:(i+1)*56<=140737488355328:=by omega
   have htr:List.take i rows=rows:=by rw[<-hln];exact kE
   rw[hln];have hdr:kL (G0.length+3) (Zp4 (i+1) t) (shM x t' (.slice (j+3) (i+1) 3 0 (i+1) none) s2 s3 (v+1) ((G++[some { box:=false,esz:=3,rows:=zWx y.seen,gen:=y.seen.length,fz:=true,ver:=y.seen.length+1 },some { box:=false,esz:=3,rows:=zWs y.pts,gen:=y.pts.length,fz:=true,ver:=y.pts.length+1 },some (own 3 [[I (w64 (y.qx+t)),.jb (zWx y.seen),.jb (zWs y.pts)]])]).set j (some (own 3 (rows++[[I (w64 (y.qx+t)),.jb (zWx y.seen),.jb (zWs y.pts)]])))))=(shM x t' (.slice (j+3) (i+1) 3 0 (i+1) none) s2 s3 (v+1) ((G++[some { box:=false,esz:=3,rows:=zWx y.seen,gen:=y.seen.length,fz:=true,ver:=y.seen.length+1 },some { box:=false,esz:=3,rows:=zWs y.pts,gen:=y.pts.length,fz:=true,ver:=y.pts.length+1 },some (own 3 [[I (w64 (y.qx+t)),.jb (zWx y.seen),.jb (zWs y.pts)]])]).set j (some (own 3 (rows++[[I (w64 (y.qx+t)),.jb (zWx y.seen),.jb (zWs y.pts)]]))))):=ZoX (by omega) (.inl (by simp[Eng.below,yK];omega));obtain⟨v',S',G',ih,h1,h2,h3⟩:=Zpc x t t' s2 s3 hs G0 hsz r (i+1) (v+1) (.slice (j+3) (i+1) 3 0 (i+1) none) ((G++[some { box:=false,esz:=3,rows:=zWx y.seen,gen:=y.seen.length,fz:=true,ver:=y.seen.length+1 },some { box:=false,esz:=3,rows:=zWs y.pts,gen:=y.pts.length,fz:=true,ver:=y.pts.length+1 },some (own 3 [[I (w64 (y.qx+t)),.jb (zWx y.seen),.jb (zWs y.pts)]])]).set j (some (own 3 (rows++[[I (w64 (y.qx+t)),.jb (zWx y.seen),.jb (zWs y.pts)]])))) hd' (by omega) (by
    rw[htk];have:=LsN.own (n:=G0.length) (G:=(G++[some { box:=false,esz:=3,rows:=zWx y.seen,gen:=y.seen.length,fz:=true,ver:=y.seen.length+1 },some { box:=false,esz:=3,rows:=zWs y.pts,gen:=y.pts.length,fz:=true,ver:=y.pts.length+1 },some (own 3 [[I (w64 (y.qx+t)),.jb (zWx y.seen),.jb (zWs y.pts)]])]).set j (some (own 3 (rows++[[I (w64 (y.qx+t)),.jb (zWx y.seen),.jb (zWs y.pts)]])))) j hj (rows++[[I (w64 (y.qx+t)),.jb (zWx y.seen),.jb (zWs y.pts)]]) (by simp) (jS (by simp;omega));simpa [hln]using this) (by simp;omega) (fun k hk'=>by rw[jz (by omega),jq (by omega)];exact hk k hk')
   refine⟨v',S',G',?_,h1,h2,h3⟩;rw[<-ih,<-hdr];rw[ZfM Zoy.eq_1];by_cases c1:y.seen=[]<;>by_cases c2:y.pts=[]<;>simp[-kL,inC,ZlG,zX6,zWx,zWs,zX,hi1,hci,hy,hw,own,w64,hj2,hln,hr,htr,q1,q2,q3,q4,c1,c2]<;>rfl
theorem LsN.frz{n:Nat}{G:Mem}{rows:List (List Cl)}{s:Cl}(h:LsN n G rows s)(a b c:Option Blk):zdR (a::b::c::G) s=some (.jb rows):=by
 cases h with
 |nil=>rfl
 |own j hj _ h0 h=>simp[zdR,Eng.look,h,own]
theorem Zp9:∀(l:List Nat) (M:Mem),(List.foldl zX M l).length=M.length
 |[],M=>rfl
 |id::l,M=>by
  show(List.foldl zX (zX M id) l).length=_;rw[Zp9 l];unfold zX;split
  ·split<;>simp
  ·rfl
theorem Zqx(l:List Nat)(M:Mem):(List.foldl zX M l=[])=(M=[]):=by
 rw[<-kd,<-kd,Zp9]
theorem Zqm(M:Mem)(k:IntKind)(n:Int):zdR M (.int k n)=some (.int k n):=rfl
theorem ZpV(x:Zjo)(t:Int)(hx:Zlc x) :
  R L Cs ZoG [.a (inC x),W t] []=some (.w (.a (inC (shI t x))),[]):=by
 obtain⟨v1,S1,G1,y1,l1,g1,k1⟩:=Zpc x t (w64 (x.tick+t)) .jc .jc hx.n1 [] hx.sc x.ki 0 1 .jc [] rfl (jr _) .nil (jm _) (fun k hk=>by cases hk);obtain⟨v2,S2,G2,y2,l2,g2,k2⟩:=Zpb x t (w64 (x.tick+t)) S1 .jc hx.n2 G1 x.jT 0 v1 .jc G1 rfl (jr _) .nil (jm _) (fun k hk=>rfl);obtain⟨v3,S3,G3,y3,l3,g3,k3⟩:=Zpa x t (w64 (x.tick+t)) S1 S2 hx.n3 G2 x.ku 0 v2 .jc G2 rfl (jr _) .nil (jm _) (fun k hk=>rfl);have a1:=((l1.vo k2 (jr _)).vo (fun k hk=>k3 k hk) (jr _));have a2:=l2.vo k3 (jr _);have f1:=a1.frz;have f2:=a2.frz;have f3:=l3.frz;clear l1 l2 l3 a1 a2 k1 k2 k3;show _=some (AV.w (WV.a [I (w64 (x.tick+t)),.jb (ZlG (x.ki.map (Zo8 t))),.jb (zb (x.jT.map (ZoR t))),.jb (zb (x.ku.map (ZoR t)))]),([]:Mem));generalize ZlG (x.ki.map (Zo8 t))=z1 at *;generalize zb (x.jT.map (ZoR t))=z2 at *;generalize zb (x.ku.map (ZoR t))=z3 at *;simp only[shM,Zp4,Zp3,Zp2,jg,jo,jF]at y1 y2 y3;rw[zUa ZoQ rfl];simp only[inC,w64]at y1 y2 y3 ⊢;simp[-zdR,ZoF,y1,y2,y3,f1,f2,f3,Zqm,Zqx]
theorem Zk9(n:Nat):EsN n []:=fun e he=>by cases he
def Zoc(S:StV)(zs:List Zon)(ss:List Sgn)(y:zZP):NdV:=ZjL (goN S zs ss { nd0 S with last:=0 } (znE S (some ⟨[],[],[y]⟩) (rg0 S).kc).1)
theorem Zre{S:StV}{zs:List Zon}{ss:List Sgn}(hL:ZkT S zs ss)(ht:S.t0=0)(y:zZP)(hst:y.qx=0)(hp:y.pts=[])(hse:y.seen.length<=5000) :
  ∃v' w' u',(4<v'/\0<w'/\u'≠0)/\(ZhJ (rg0 S) (Pl.qe (goN S zs ss { nd0 S with last:=0 } (znE S (some ⟨[],[],[y]⟩) (rg0 S).kc).1).kX 0)).ini=false/\R L Cs Zh5 [Pt 0,.a (inC ⟨0,[y],[],[]⟩)] (ndM S (nd0 S) (rg0 S) 0 [] 4 0 0)=some (.t [W (Zlu S (Zoc S zs ss y)),W 0],ndM S (Zoc S zs ss y) (ZhJ (rg0 S) (Pl.qe (goN S zs ss { nd0 S with last:=0 } (znE S (some ⟨[],[],[y]⟩) (rg0 S).kc).1).kX 0)) 1 (Zju ⟨[],[],[y]⟩) v' w' u'):=by
 unfold Zoc;have hk:=KB.zero hL.ok hL.be;have hr0:ZjQ (rg0 S):=⟨jr _,fun _=>rfl⟩;have hnd:Zk7 S (nd0 S) (rg0 S) [] 1:=by
  refine⟨hr0,fun a ha=>?_,hk,?_,?_,Zk9 1,?_,?_⟩
  ·cases ha
  ·show S.t0=S.t0+0;omega
  ·show S.t0<=90000;omega
  ·show 0<=S.t0/\S.t0<=1099511627776;omega
  ·show 1<=900;decide
 have hq:Zlb ⟨[],[],[y]⟩:=⟨rfl,rfl,fun s hs=>by rw[jH.1 hs];exact hp⟩;have e2:hrN S zs ss (nd0 S) (rg0 S) 0 [] [] ⟨0,[y],[],[]⟩=({ nd0 S with last:=0 },(1,Zju ⟨[],[],[y]⟩)):=by
  show(heD (nd0 S) y,he3 (nd0 S) (0,[]) y)=_;have hc:Zjv (nd0 S) y.qx=true:=by
   unfold Zjv nd0;simp only[hst,ht];decide
  unfold heD he3;rw[if_pos hc,if_pos hc,hst];have e:max (nd0 S).last 0=0:=by show max S.t0 0=0;omega
  rw[e];rfl
 have eK:Zkz S zs ss (Zhl S zs ss [] (rg0 S)) (Zju ⟨[],[],[y]⟩)=((znE S (some ⟨[],[],[y]⟩) (rg0 S).kc).1,true):=by
  have e:Zkz S zs ss (Zhl S zs ss [] (rg0 S)) (Zju ⟨[],[],[y]⟩)=znE S (znB S.t0 (Zju ⟨[],[],[y]⟩)) (rg0 S).kc:=rfl;rw[e,ht];show znE S (some ⟨[],[],[y]⟩) (rg0 S).kc=_;rw[<-Zkg (S:=S) hq (rg0 S).kc]
 obtain⟨v',w',u',hvw,hes2,hR⟩:=Zlp hL.ok hnd (by decide) 0 4 0 0 [] (ZkF 0) (by decide) (x:=⟨0,[y],[],[]⟩) ⟨by simp,by simp,by simp,fun z hz=>by rw[jH.1 hz,hp];exact⟨hse,by simp⟩⟩ ⟨by simp,by simp,by simp⟩ ht.symm e2 eK;have r0:Zhl S zs ss [] (rg0 S)=rg0 S:=rfl;rw[r0]at hR;exact⟨v',w',u',⟨hvw.1,hvw.2.1,fun q=>by cases (hvw.2.2.2 q).1⟩,(ZjF (g:=rg0 S) (jr _) _).2.2.2.2,hR⟩
abbrev lit5(x0 q:Int):Option Blk:=some { box:=false,esz:=3,rows:=[[I x0,I 0,I q]],gen:=1,fz:=true,ver:=2 }
abbrev lit6(x0 q:Int)(z:Bool)(v:Nat):Option Blk:=some { box:=false,esz:=3,rows:=[[I 0,.jb [[I x0,I 0,I q]],.jb []]],gen:=1,fz:=z,ver:=v }
variable{S:StV}{zs:List Zon}{ss:List Sgn}
theorem Zrc.zero(hL:ZkT S zs ss)(ht:S.t0=0):Zrc S (nd0 S) (rg0 S) 0 [] 0:=by
 have hk:=KB.zero hL.ok hL.be;refine⟨⟨⟨jr _,fun _=>rfl⟩,(fun a ha=>by cases ha),hk,?_,?_,EsN.nil _,?_,by show 1<=900;decide⟩,Zoz.nil 0,hk,⟨fun a ha=>?_,by show 1<=125;decide⟩,⟨fun a ha=>?_,by show 1<=125;decide⟩⟩
 ·show S.t0=S.t0+0;omega
 ·show S.t0<=90000;omega
 ·show 0<=S.t0/\S.t0<=1099511627776;omega
 ·obtain rfl:a=0:=jH.1 ha;unfold zk0;omega
 ·obtain rfl:a=0:=jH.1 ha;unfold zk0;omega
theorem Zp1{l:List Zjo}(h:smB l=true):l.length<=8/\∀x∈l,∀t,Zlc (shI t x):=by
 unfold smB at h;simp only[jl,decide_eq_true_eq,jy]at h;refine⟨h.1,fun x hx t=>?_⟩;have h2:=h.2 x hx;unfold ZpQ at h2;simp only[jl,decide_eq_true_eq,jy]at h2;obtain⟨a,b,c,d⟩:=h2;refine⟨by simp[shI];omega,by simp[shI];omega,by simp[shI];omega,fun y hy=>?_⟩;simp only[shI,jW]at hy;obtain⟨z,hz,rfl⟩:=hy;have:=d z hz;unfold Zpi at this;simp only[jl,decide_eq_true_eq]at this;simp only[Zo8];omega
theorem Zqy{l:List Zjo}(h:smB l=true){x:Zjo}(hx:x∈l):Zlc x:=by
 have h2:=(Zp1 h).2 x hx 0;refine⟨by simpa [shI]using h2.n1,by simpa [shI]using h2.n2,by simpa [shI]using h2.n3,fun y hy=>?_⟩;exact h2.sc (Zo8 0 y) (by simp only[shI];exact qK hy)
abbrev stA(n r dl bu si s sp ln ac br ra:Int)(sg:Bool):List Cl:=[I n,I r,I dl,I bu,I si,I s,I sp,I ln,I ac,I br,I ra,.bool sg]
end Go.TrRun
namespace Go.TrRun
open Go Go.Eng Go.PlanLaw
variable{k:Nat}{S:StV}{zs:List Zon}{ss:List Sgn}{d:NdV}{g:RgV}{c:Int}{es:List Zou}{v w u p q:Nat}{M:Mem}
theorem Zq7(S:StV)(d:NdV)(g:RgV)(c:Int)(es:List Zou)(v w u:Nat)(ht:d.told.length<=1000):R L Cs ZqM [Pt 0] (ndM S d g c es v w u)=some (.w (.a [.jb (zu d.told)]),ndM S d g c es v w u):=by
 have h0:=ZkQ S d g c es v w u;have hc:=Pl.BI d.told ht;obtain⟨s0,s1,s2,s3,s4,n,ini,p⟩:=g;rw[zUa ZqO rfl];cases ini<;>simp[ndM,ndC,rgC,mpB,bxv]at h0<;>simp[ZqH,h0,hc,Zly,zX,zg]
theorem LM.app(h:LM k S d g c es v w u p q M)(X:Mem):LM k S d g c es v w u p q (M++X):=by
 obtain⟨l1,l2,l3⟩:=h.len;exact⟨by rw[jq l1];exact h.nd,by rw[jq l2];exact h.rg,by rw[jq l3];exact h.mp,h.kp,h.kq,h.pq⟩
theorem LM.put(h:LM k S d g c es v w u p q M){i:Nat}(hk:i≠k)(hp:i≠p)(hq:i≠q)(b:Option Blk):LM k S d g c es v w u p q (M.set i b) :=
 ⟨by rw[jz hk];exact h.nd,by rw[jz hp];exact h.rg,by rw[jz hq];exact h.mp,h.kp,h.kq,h.pq⟩
end Go.TrRun
namespace Go.TrRun
open Go Go.Eng Go.PlanLaw
variable{S:StV}{zs:List Zon}{ss:List Sgn}
structure AM(S:StV)(d:NdV)(g:RgV)(c:Int)(es:List Zou)(v w u p q:Nat)(s:Cl)(last:Int)(va:Nat)(M:Mem):Prop where
 lm:LM 2 S d g c es v w u p q M
 b1:M[1]?=some (bxv 1 19 (ZlR S))
 b5:M[5]?=some (bxv va 2 [s,I last])
 ne:p≠1/\p≠5/\q≠1/\q≠5
abbrev acE(l:List Zjo)(uO yb:Int)(i:Nat):Env:=[(13,.w (W i)),(1,.w (.c (.jb (ZoM l)))),(9,.w (Pt 1)),(12,.w (Pt 5)),(10,.w (Pt 2)),(3,.w (W yb)),(2,.w (W uO))]
def Zq5(s:Cl)(q:List Int):Prop:=s=.jb (zu q)\/(s=.jc/\q=[])
theorem Zq9(hL:ZkT S zs ss)(l:List Zjo)(hl:smB l=true)(uO yb:Int)(n0:Nat)(i:Nat)(hi:i<l.length)(d:NdV)(g:RgV)(c:Int)(es:List Zou)(v w u p q:Nat)(s:Cl)(qu:List Int)(last:Int)(va:Nat)(M:Mem)(H:Zrc S d g c es (24*i))(Bz:d.now<=i)(hA:AM S d g c es v w u p q s last va M)(hs:Zq5 s qu)(hQ:QOk S d qu last) :
  ∃d' g' c' es' v' w' u' p' q' s' qu' Be va' M',Zrc S d' g' c' es' (24*(i+1))/\d'.now<=((i+1:Nat):Int)/\AM S d' g' c' es' v' w' u' p' q' s' Be va' M'/\Zq5 s' qu'/\QOk S d' qu' Be /\
   Y L Cs ZqD (some [13,1,9,12,10,3,2]) n0 (acE l uO yb i) M=Y L Cs ZqD (some [13,1,9,12,10,3,2]) n0 (acE l uO yb (i+1)) (kL n0 (acE l uO yb (i+1)) M'):=by
 obtain⟨x,hx⟩:∃x,l[i]=x:=⟨_,rfl⟩;have hl8:=(Zp1 hl).1;have yv:x∈l:=by rw[<-hx];exact jf hi
 have hw:=zB (i:=i) (by omega);have hci:(i:Int)<l.length:=by omega
 have hN:=fun X=>(hA.lm.app X).same (.inl ⟨_,rfl⟩) (ZnT S d g c es v w u)
 have hN0:=hA.lm.same (.inl ⟨_,rfl⟩) (ZnT S d g c es v w u);have hS:=ZpV x d.now (Zqy hl yv);have hSc:∀M,zx (R L Cs) ⟨true⟩ (.c (.fn ZoG [] [])) [.a (inC x),W d.now] M=some (.w (.a (inC (shI d.now x))),M,.no):=fun M=>by
  simp only[inC]at hS ⊢;simp[hS]
 obtain⟨y,hy⟩:∃y:Zjo,y={ shI d.now x with tick:=d.now }:=⟨_,rfl⟩;have hyo:Zlc y:=by
  have h:=(Zp1 hl).2 x yv d.now;rw[hy];exact⟨h.n1,h.n2,h.n3,h.sc⟩
 have hyC:inC y=I d.now::(inC (shI d.now x)).drop 1:=by rw[hy];rfl
 obtain⟨rr,e,d1,g1,c1,es1,v1,w1,u1,p1,q1,M1,fp1,H1,hnow1,hM1,CZ,hT,he,hF⟩:=ZpW (zs:=zs) (ss:=ss) hL.ok H (by omega) (by omega) hyo (hA.lm.app [bxv 2 4 (inC y)]);have hlen:5<M.length:=(jQ.1 hA.b5).1;have hlm:(M++[bxv 2 4 (inC y)]).length=M.length+1:=by simp
 rw[hlm]at CZ;obtain⟨n1,n2,n3,n4⟩:=hA.ne;obtain⟨f1,f2,f3⟩:=hF 1 (by omega) (by decide) (qH n1) (qH n3);obtain⟨f4,f5,f6⟩:=hF 5 (by omega) (by decide) (qH n2) (qH n4);rw[jq (by omega),hA.b1]at f1;rw[jq (by omega),hA.b5]at f4;rw[hyC]at hT;simp only[inC,List.drop_succ_cons,uH]at hT;have hci2:0<=uO % 2/\uO % 2<2:=⟨uw _ (by decide),qT _ (by decide)⟩;have hgr:0<=yb % 91/\yb % 91<91:=⟨uw _ (by decide),qT _ (by decide)⟩;have BG:=hL.ok.car;have hb:=BG.2.2.2.2.1;have hb2:=BG.2.2.2.2.2.1;have w1':IntKind.i64.wrap (1+uO % 2)=1+uO % 2:=zTd _ (by omega) (by omega);have w2':IntKind.i64.wrap (S.car.kC+yb % 91)=S.car.kC+yb % 91:=zTd _ (by omega) (by omega);have hMd:=zEW uO 2 (by decide) (by decide);have hMg:=zD0 yb 91 (by decide) (by decide);rcases he with⟨rfl,rfl,-,hP,-⟩ |⟨-,he8,rfl,rfl,rfl,rfl⟩
 ·obtain⟨hq1,hq2⟩:=hQ.next BG hP;have hAc:=Zq3 BG hQ.len last (Zlu S d1) (1+uO % 2) (S.car.kC+yb % 91) (by omega) (by omega);have hql:=hq1.len;have hta:=Pl.DL d1.told (by have:=H1.told.len;omega) 0;obtain⟨Q,hQe⟩:∃Q,ZqN S.car qu last (Pl.qe d1.told S.car.kS)=Q:=⟨_,rfl⟩;unfold Zlu at hAc hT;rw[hQe]at hq1 hq2 hAc hql;obtain⟨Q1,Q2⟩:=Q;simp only at hq1 hq2 hAc hql;subst hq2;have hPl:=(hM1.put (i:=5) (by decide) f5 f6 (some { box:=true,esz:=2,rows:=[[.jb (zu Q1),I (Pl.qe d1.told 0)]],gen:=0,fz:=false,ver:=va+1 })).same (.inr (.inr (.inr ⟨_,rfl⟩))) (Zq7 S d1 g1 c1 es1 v1 w1 u1 (by have:=H1.told.len;omega));have h5:5<M1.length:=by omega
  have hdl:¬S.car.kS<(Q1.length:Int):=by have:=BG.2.2.2.2.2.2.2.2.1;omega
  refine⟨d1,g1,c1,es1,v1,w1,u1,p1,q1,.jb (zu Q1),Q1,_,va+1,M1.set 5 (some { box:=true,esz:=2,rows:=[[.jb (zu Q1),I (Pl.qe d1.told 0)]],gen:=0,fz:=false,ver:=va+1 }),by rw[Nat.mul_succ];exact H1,by push_cast;omega,⟨hM1.put (by decide) f5 f6 _,?_,?_,f2.symm,f5.symm,f3.symm,f6.symm⟩,.inl rfl,hq1,?_⟩
  ·rw[jz (by decide)];exact f1
  ·exact jS h5
  ·rw[ZfM ZqD.eq_1];simp only[Pl.kJ]at hAc;have hAc2:∀M,zx (R L Cs) ⟨true⟩ (.c (.fn ZqK [] [])) [.a [I S.car.len,I S.car.kV,I S.car.kC,I S.car.uM,I S.car.kS],.a [s,I last],W (Pl.qe d1.told S.car.kS),W (1+uO % 2),W (S.car.kC+yb % 91)] M=some (.t [.a [.jb (zu Q1),I (Pl.qe d1.told 0)],W (Pl.qe d1.told 0)],M,.no):=fun M=>by
    rcases hs with rfl |⟨rfl,rfl⟩
    ·simp[hAc]
    ·simp at hAc;simp[hAc]
   have hMd2:∀M,zx (R L Cs) ⟨true⟩ (.c (.fn zny [] [])) [W uO,W 2] M=some (.w (W (uO % 2)),M,.no):=fun M=>by simp[hMd]
   have hMg2:∀M,zx (R L Cs) ⟨true⟩ (.c (.fn zEd [] [])) [W yb,W 91] M=some (.w (W (yb % 91)),M,.no):=fun M=>by simp[hMg]
   have hta2:∀M,zx (R L Cs) ⟨true⟩ (.c (.fn zGj [] [])) [.a [.jb (zu d1.told)],W 0] M=some (.w (W (Pl.qe d1.told 0)),M,.no):=fun M=>by simp[hta]
   have hg5:(M1.set 5 (some { box:=true,esz:=2,rows:=[[.jb (zu Q1),I (Pl.qe d1.told 0)]],gen:=0,fz:=false,ver:=va+1 }))[5]?=some (some { box:=true,esz:=2,rows:=[[.jb (zu Q1),I (Pl.qe d1.told 0)]],gen:=0,fz:=false,ver:=va+1 }):=jS h5;have hg1:(M1.set 5 (some { box:=true,esz:=2,rows:=[[.jb (zu Q1),I (Pl.qe d1.told 0)]],gen:=0,fz:=false,ver:=va+1 }))[1]?=some (bxv 1 19 (ZlR S)):=by rw[jz (by decide)];exact f1
   generalize hM2:M1.set 5 (some { box:=true,esz:=2,rows:=[[.jb (zu Q1),I (Pl.qe d1.told 0)]],gen:=0,fz:=false,ver:=va+1 })=M2 at *;simp[-zx,-kL,hi,hci,hx,hw,hN,hN0,hSc,hT,f1,f4,hAc2,hMd2,hMg2,w1',w2',hM2,hg5,hg1,hPl,hta2,hdl];rfl
 ·obtain rfl:=he8 (by rw[hy]);refine⟨d1,g1,c1,es1,v1,w1,u1,p1,q1,s,qu,last,va,M1,by rw[Nat.mul_succ];exact H1,by push_cast;omega,⟨hM1,f1,f4,f2.symm,f5.symm,f3.symm,f6.symm⟩,hs,hQ,?_⟩;rw[ZfM ZqD.eq_1];simp[-zx,-kL,hi,hci,hx,hw,hN,hN0,hSc,hT];rfl
end Go.TrRun
set_option maxRecDepth 100000
namespace Go.TrRun
open Go Go.Eng Go.PlanLaw
def mpA:zD:=⟨0,[⟨1,[(0,0),(100000,0)],1500,1500,[],100000⟩],[],[],[]⟩
def Zn8:StV:=⟨mpA,[0],⟨4000,20,60,30,0⟩,⟨10000,10000,0,0⟩,0,8,5,true⟩
theorem Zod{l:zfn}(h:l∈mpA.jd):l=⟨1,[(0,0),(100000,0)],1500,1500,[],100000⟩:=jH.1 h
theorem Zoh(a:Int):zS mpA a=[]:=by
 by_cases h:mpA.jd.length<=a.toNat
 ·exact zyt h
 ·have e:a.toNat=0:=by
   have:mpA.jd.length=1:=rfl;omega
  unfold zS;rw[e];rfl
theorem Zor:zcp mpA where
 small:=⟨by decide,fun l h=>by rw[Zod h];decide,fun l h=>by rw[Zod h];intro x hx;cases hx⟩
 chk:=zah.2 ⟨200,by kernel_rfl⟩
 rchk:=zah.2 ⟨200,by kernel_rfl⟩
 len:=fun l h=>by rw[Zod h];exact zah.2 ⟨200,by kernel_rfl⟩
 rlen:=fun l h=>by rw[Zod h];exact zah.2 ⟨200,by kernel_rfl⟩
 Cq:=fun l h=>by rw[Zod h];decide
 kind:=fun l h=>by rw[Zod h];exact .inl rfl
 ye:=fun l h=>by rw[Zod h];decide
theorem Zos:zmq mpA [] [] where
 qW:=Zor
 one:=⟨fun l h=>by rw[Zod h];exact⟨0,0,100000,0,rfl,⟨by decide,by decide,zah.2 ⟨400,by kernel_rfl⟩,zah.2 ⟨400,by kernel_rfl⟩,zah.2 ⟨400,by kernel_rfl⟩,zah.2 ⟨400,by kernel_rfl⟩⟩⟩,by decide⟩
 yA:=⟨by decide,fun a=>by rw[Zoh];decide,fun a x h=>(by rw[Zoh]at h;cases h),fun a x h=>(by rw[Zoh]at h;cases h),fun a x h=>(by rw[Zoh]at h;cases h)⟩
 zd:=⟨rfl,rfl,by decide,by decide,fun z h=>(by cases h),fun z h=>(by cases h),fun z h=>(by cases h)⟩
 asc:=fun _ _=>by simp
 nd:=fun z h=>by cases h
 pv:=fun z h=>by cases h
theorem Zok:∀l:List Int,∀a,zKh mpA [] a l=[]
 |[],_=>rfl
 |x::l,a=>by
  unfold zKh;rw[Zok l];rfl
theorem Zol:zKj mpA [] []:=⟨Zos,by decide,by decide,by decide,⟨by kernel_rfl,by kernel_rfl⟩,fun l _=>by rw[Zok];simp[zN1],fun l _=>by rw[Zok];decide⟩
theorem Zoq:ZkT Zn8 [] [] where
 ok:=⟨Zol,by kernel_rfl,by unfold Car.ok Zn8;simp only;omega,by decide,by decide⟩
 be:=⟨⟨rfl,rfl⟩,by decide,by decide,by decide,fun p h=>(by rw[show zKh Zn8.m [] 0 Zn8.r=[] from Zok _ _]at h;cases h),by kernel_rfl,by decide⟩
 con:=fun z h=>by cases h
 wl:=fun w h=>by cases h
abbrev scA:zZP:=⟨0,[⟨0,0,60000⟩],[]⟩
theorem Zoi:R L Cs Zn7 [] []=some (.w (.a (ZlR Zn8)),[]):=zah.2 ⟨200,by kernel_rfl⟩
theorem Zot:Zlu Zn8 (Zoc Zn8 [] [] scA)=20/\(Zoc Zn8 [] [] scA).looked=1/\(Zoc Zn8 [] [] scA).mode=1/\(Zoc Zn8 [] [] scA).now=1:=by
 have h1:decide (Zlu Zn8 (Zoc Zn8 [] [] scA)=20/\(Zoc Zn8 [] [] scA).looked=1/\(Zoc Zn8 [] [] scA).mode=1/\(Zoc Zn8 [] [] scA).now=1)=true:=by kernel_rfl
 exact of_decide_eq_true h1
theorem Zog(S:StV)(d:NdV)(g:RgV)(c:Int)(es:List Zou)(v w u:Nat):R L Cs Zoa [Pt 0] (ndM S d g c es v w u)=some (.w (W d.looked),ndM S d g c es v w u):=by
 have h:=ZkQ S d g c es v w u;obtain⟨s0,s1,s2,s3,s4,n,ini,p⟩:=g;rw[zUa Zob rfl];cases ini<;>simp[ndM,ndC,rgC,mpB,bxv]at h<;>simp[ZiM,h]
abbrev Zom(S:StV)(d:NdV)(g:RgV)(es:List Zou)(v w u:Nat)(x0 q:Int):Mem:=[bxv v 46 (ndX S d 1 2),bxv w 12 (rgC 1 g),mpB 1 es u,lit5 x0 q,lit6 x0 q true 2]
theorem Zoe{S:StV}{d:NdV}{g:RgV}{es:List Zou}{v w u:Nat}{x0 q:Int}(hi:g.ini=false){f:Nat}{n:Int}
  (hR:R L Cs f [Pt 0] (ndM S d g 1 es v w u)=some (.w (W n),ndM S d g 1 es v w u)) :
  zx (R L Cs) ⟨true⟩ (.c (.fn f [] [])) [Pt 0] (Zom S d g es v w u x0 q)=some (.w (W n),Zom S d g es v w u x0 q,.no):=by
 obtain⟨s0,s1,s2,s3,s4,na,ini,p⟩:=g;simp only at hi;subst hi;simp[ndM,ndC,rgC,mpB,bxv]at hR;simp[Zom,ndX,hR,Zly]
theorem Zop{S:StV}{zs:List Zon}{ss:List Sgn}(hL:ZkT S zs ss) :
  ∃fp,zx (R L Cs) ⟨true⟩ (.c (.fn ZlW [] [])) [.a (ZlR S)] []=some (.t [Pt 0,W 0],[bxv 4 46 (ndX S (nd0 S) 1 2),bxv 0 12 (rgC 1 (rg0 S)),mpB 0 [] 0],fp):=by
 have hNew:=Znz hL.ok hL.be;refine⟨.no,?_⟩;simp[ndM,ndC,rgC,mpB,bxv,nd0,rg0,ZlR]at hNew;simp[hNew,ndX,nd0,rg0,ZlR]
theorem Zoo{S:StV}{d':NdV}{g':RgV}{es':List Zou}{v' w' u':Nat}(hi':g'.ini=false)(h:4<v'/\0<w'/\u'≠0)(x0 q x:Int)
  (hR:R L Cs Zh5 [Pt 0,.a (inC ⟨0,[⟨0,[⟨x0,0,q⟩],[]⟩],[],[]⟩)] (ndM S (nd0 S) (rg0 S) 0 [] 4 0 0)=some (.t [W x,W 0],ndM S d' g' 1 es' v' w' u')) :
  ∃fp,zx (R L Cs) ⟨true⟩ (.c (.fn Zh5 [] [])) [Pt 0,.a [I 0,.slice 4 1 3 0 1 none,.jc,.jc]] [bxv 4 46 (ndX S (nd0 S) 1 2),bxv 0 12 (rgC 1 (rg0 S)),mpB 0 [] 0,lit5 x0 q,lit6 x0 q false 1] =
   some (.t [W x,W 0],Zom S d' g' es' v' w' u' x0 q,fp):=by
 obtain⟨r0,r1,r2,r3,r4,ma,jni,p'⟩:=g';simp only at hi';subst hi';have a1:¬v'=4:=by omega
 have a2:¬w'=0:=by omega
 have a3:=h.2.2;refine⟨.wr [(4,0,whole),(0,0,whole),(1,0,whole),(2,0,whole)],?_⟩;simp[ndM,ndC,rgC,mpB,bxv,inC,ZlG,zb,zX6,zWx,zWX,zWs,rg0,nd0]at hR;simp[ndX,hR,Zly,a1,a2,a3,rg0,nd0,lit5,lit6,zX]
theorem Zoj:R L Cs ZlH [] []=some (.w (Bo true),[]):=by
 obtain⟨v1,w1,u1,hv1,hi1,hT1⟩:=Zre Zoq rfl scA rfl rfl (by decide);obtain⟨f1,f2,f3,f4⟩:=Zot;generalize Zoc Zn8 [] [] scA=d1 at *;generalize ZhJ (rg0 Zn8) _=g1 at *;rw[f1]at hT1;have c1:zx (R L Cs) ⟨true⟩ (.c (.fn Zn7 [] [])) [] []=some (.w (.a (ZlR Zn8)),[],.no):=by simp[Zoi]
 obtain⟨fp,hN⟩:=Zop Zoq;obtain⟨fp1,hT⟩:=Zoo hi1 hv1 0 60000 20 hT1;have hL:=Zoe (S:=Zn8) (x0:=0) (q:=60000) hi1 (Zog Zn8 d1 g1 1 (Zju ⟨[],[],[scA]⟩) v1 w1 u1);have hM:=Zoe (S:=Zn8) (x0:=0) (q:=60000) hi1 (Zmn Zn8 d1 g1 1 (Zju ⟨[],[],[scA]⟩) v1 w1 u1);have hW:=Zoe (S:=Zn8) (x0:=0) (q:=60000) hi1 (ZnT Zn8 d1 g1 1 (Zju ⟨[],[],[scA]⟩) v1 w1 u1);rw[f2]at hL;rw[f3]at hM;rw[f4]at hW;rw[zUa Zn9 rfl];simp (maxSteps:=400000) [-zx,Zin,c1,hN,hT,hL,hM,hW,zg,zX,zH]
theorem ZnL.law{m:zD}{zs:List Zon}{ss:List Sgn}(hM:ZnL m zs ss){k:Int}(hk:k=0\/zaK m ((zDT m k).headD 0)=1)(bu si dl s sp ln ac br ra:Int)(sg:Bool):ZkT (Zns m k bu si dl s sp ln ac br ra sg) zs ss:=by
 obtain⟨h1,h2⟩:=ZnR hM hk bu si dl s sp ln ac br ra sg;exact⟨h1,h2,fun z hz=>hM.con _ h1.yd z hz,hM.wl⟩
theorem ZoT{α:Type}{f:α->List Cl}{P:List Cl->Prop}(h:∀r,P r->∃x,r=f x):∀{rows:List (List Cl)},(∀r∈rows,P r)->∃l:List α,rows=l.map f
 |[],_=>⟨[],rfl⟩
 |r::rows,hr=>by
  obtain⟨x,rfl⟩:=h r (hr r (jx ..));obtain⟨l,rfl⟩:=ZoT h (fun q hq=>hr q (jD _ hq));exact⟨x::l,rfl⟩
abbrev ZpZ:Sh:=.st [zmN,zmN,zmN]
abbrev Zqs:Sh:=.st [zmN,.slice (.st [zmN,.slice ZpZ,.slice ZpZ]),.slice ZpZ,.slice ZpZ]
abbrev Zng:Sh:=.st [zmN,zmN,zmN,zmN,zmN,zmN,zmN,zmN,zmN,zmN,zmN,.bool]
theorem Zpm{r:List Cl}(h:zfo ZpZ r):∃a b c,r=[I a,I b,I c]:=by
 simp only[zfo,znD]at h;obtain⟨_,_,rfl,⟨a,rfl,_⟩,_,_,rfl,⟨b,rfl,_⟩,_,_,rfl,⟨c,rfl,_⟩,rfl⟩:=h;exact⟨a,b,c,rfl⟩
theorem Zqj{rows:List (List Cl)}(h:∀r∈rows,zfo Zqs r):∃l,rows=ZoM l:=ZoT (f:=inC) (P:=zfo Zqs) (fun r hr=>by
 unfold zfo at hr;simp only[znD]at hr;obtain⟨_,_,rfl,h1,_,_,rfl,h2,_,_,rfl,h3,_,_,rfl,h4,rfl⟩:=hr;simp only[zfo]at h1;obtain⟨t,rfl,_⟩:=h1;unfold zfo at h2 h3 h4;obtain⟨r2,rfl,_,h2⟩:=h2;obtain⟨r3,rfl,_,h3⟩:=h3;obtain⟨r4,rfl,_,h4⟩:=h4;obtain⟨sc,rfl⟩:=ZoT (f:=zX6) (fun r hr=>by
  unfold zfo at hr;simp only[znD]at hr;obtain⟨_,_,rfl,h1,_,_,rfl,h2,_,_,rfl,h3,rfl⟩:=hr;simp only[zfo]at h1;obtain⟨t,rfl,_⟩:=h1;unfold zfo at h2 h3;obtain⟨r2,rfl,_,h2⟩:=h2;obtain⟨r3,rfl,_,h3⟩:=h3;obtain⟨se,rfl⟩:=ZoT (f:=zWX) (fun r hr=>by obtain⟨a,b,c,rfl⟩:=Zpm hr;exact⟨⟨a,b,c⟩,rfl⟩) h2;obtain⟨pt,rfl⟩:=ZoT (f:=zYi) (fun r hr=>by obtain⟨a,b,c,rfl⟩:=Zpm hr;exact⟨⟨a,b,c⟩,rfl⟩) h3;exact⟨⟨t,se,pt⟩,rfl⟩) h2
 obtain⟨sp,rfl⟩:=ZoT (f:=ZjO) (fun r hr=>by obtain⟨a,b,c,rfl⟩:=Zpm hr;exact⟨⟨a,b,c⟩,rfl⟩) h3;obtain⟨fx,rfl⟩:=ZoT (f:=ZjO) (fun r hr=>by obtain⟨a,b,c,rfl⟩:=Zpm hr;exact⟨⟨a,b,c⟩,rfl⟩) h4;exact⟨⟨t,sc,sp,fx⟩,rfl⟩) h
theorem Zp0{r:List Cl}(h:zfo Zng r):∃n q dl bu si s sp ln ac br ra sg,r=stA n q dl bu si s sp ln ac br ra sg:=by
 simp only[zfo,znD]at h;obtain⟨_,_,rfl,⟨n1,rfl,_⟩,_,_,rfl,⟨n2,rfl,_⟩,_,_,rfl,⟨n3,rfl,_⟩,_,_,rfl,⟨n4,rfl,_⟩,_,_,rfl,⟨n5,rfl,_⟩,_,_,rfl,⟨n6,rfl,_⟩,_,_,rfl,⟨n7,rfl,_⟩,_,_,rfl,⟨n8,rfl,_⟩,_,_,rfl,⟨n9,rfl,_⟩,_,_,rfl,⟨n10,rfl,_⟩,_,_,rfl,⟨n11,rfl,_⟩,_,_,rfl,⟨b,rfl⟩,rfl⟩:=h;exact⟨n1,n2,n3,n4,n5,n6,n7,n8,n9,n10,n11,b,rfl⟩
set_option maxRecDepth 10000
open Go Go.Eng Go.PlanLaw
variable{S:StV}{zs:List Zon}{ss:List Sgn}
theorem AM.drop{d:NdV}{g:RgV}{c:Int}{es:List Zou}{v w u p q:Nat}{s:Cl}{last:Int}{va:Nat}{M:Mem}(h:AM S d g c es v w u p q s last va M){n:Nat}(hn:5<n)(E:Env):AM S d g c es v w u p q s last va (kL n E M) :=
 ⟨h.lm.drop (by omega) E,by rw[ZqU (by omega)];exact h.b1,by rw[ZqU hn];exact h.b5,h.ne⟩
theorem ZqZ(hL:ZkT S zs ss)(l:List Zjo)(hl:smB l=true)(uO yb:Int)(n0:Nat)(hn0:5<n0):∀(r:List Zjo) (i:Nat) (d:NdV) (g:RgV) (c:Int) (es:List Zou) (v w u p q:Nat) (s:Cl) (qu:List Int) (last:Int) (va:Nat) (M:Mem),l.drop i=r->i<=l.length->Zrc S d g c es (24*i)->d.now<=i->AM S d g c es v w u p q s last va M->Zq5 s qu->QOk S d qu last ->
  ∃M',Y L Cs ZqD (some [13,1,9,12,10,3,2]) n0 (acE l uO yb i) M=some (.exit 0,(39,.w (Bo false))::acE l uO yb l.length,M')
 |[],i,d,g,c,es,v,w,u,p,q,s,qu,last,va,M,hd,hi,H,Bz,hA,hs,hQ=>by
  obtain rfl:=ZoS hd hi;refine⟨M,?_⟩;rw[ZfM ZqD.eq_1];simp
 |x::r,i,d,g,c,es,v,w,u,p,q,s,qu,last,va,M,hd,hi,H,Bz,hA,hs,hQ=>by
  obtain⟨hi1,hx,hd'⟩:=ZoY hd;obtain⟨d',g',c',es',v',w',u',p',q',s',qu',Be,va',M',H',CX,hA',hs',hQ',hY⟩:=Zq9 hL l hl uO yb n0 i hi1 d g c es v w u p q s qu last va M H Bz hA hs hQ;rw[hY];exact ZqZ hL l hl uO yb n0 hn0 r (i+1) d' g' c' es' v' w' u' p' q' s' qu' Be va' _ hd' (by omega) H' CX (hA'.drop hn0 _) hs' hQ'
theorem ZqY(hL:ZkT S zs ss)(ht:S.t0=0)(n r dl bu si s sp ln ac br ra:Int)(sg:Bool)(l:List Zjo)(uO yb:Int)
  (hSet:R L Cs ZlI [.a (stA n r dl bu si s sp ln ac br ra sg)] []=some (.w (.a (ZlR S)),[]))
  (hAw:R L Cs ZlH [] []=some (.w (Bo true),[])) :
  R L Cs ZqF [.a (stA n r dl bu si s sp ln ac br ra sg),.c (.jb (ZoM l)),W uO,W yb] []=some (.w (Bo true),[]):=by
 have hSm:=Zqn l;have c1:∀M,zx (R L Cs) ⟨true⟩ (.c (.fn ZlI [] [])) [.a (stA n r dl bu si s sp ln ac br ra sg)] M=some (.w (.a (ZlR S)),M,.no):=fun M=>by simp[hSet]
 have c2:∀M,zx (R L Cs) ⟨true⟩ (.c (.fn ZoI [] [])) [.c (.jb (ZoM l))] M=some (.w (Bo (smB l)),M,.no):=fun M=>by simp[hSm]
 have c4:∀M,zx (R L Cs) ⟨true⟩ (.c (.fn ZlH [] [])) [] M=some (.w (Bo true),M,.no):=fun M=>by simp[hAw]
 rw[zUa ZqI rfl];by_cases hl:smB l=true
 ·have hNew:=Znz hL.ok hL.be;have hN:zx (R L Cs) ⟨true⟩ (.c (.fn ZlW [] [])) [.a (ZlR S)] [bx 12 (stA n r dl bu si s sp ln ac br ra sg),bxv 1 19 (ZlR S)]=some (.t [Pt 2,W 0],[bx 12 (stA n r dl bu si s sp ln ac br ra sg),bxv 1 19 (ZlR S),bxv 4 46 (ndX S (nd0 S) 3 4),bxv 0 12 (rgC 3 (rg0 S)),mpB 0 [] 0],.no):=by
   simp[ndM,ndC,rgC,mpB,bxv,nd0,rg0,ZlR]at hNew;simp[hNew,ndX,nd0,rg0,ZlR]
  have hM:AM S (nd0 S) (rg0 S) 0 [] 4 0 0 3 4 .jc 0 1 [bx 12 (stA n r dl bu si s sp ln ac br ra sg),bxv 1 19 (ZlR S),bxv 4 46 (ndX S (nd0 S) 3 4),bxv 0 12 (rgC 3 (rg0 S)),mpB 0 [] 0,bxv 1 2 [.jc,I 0]]:=⟨⟨rfl,rfl,rfl,by decide,by decide,by decide⟩,rfl,rfl,by decide⟩;have H:=Zrc.zero hL ht;have hQ:QOk S (nd0 S) [] 0:=by
   have hc:=hL.ok.car;obtain⟨q1,q2,q3,q4,q5,q6,q7,q8,q9,q10⟩:=hc;have hr:-S.car.kC<=0/\0<=S.car.kV:=by omega
   refine⟨⟨hr,⟨by show -S.car.uM<=0-0;omega,by show(0:Int)-0<=_;omega⟩,trivial⟩,by simp[nd0],rfl,hr,jr _,?_⟩;apply vz
   ·simp[ZqJ]
   ·intro i h1 h2;simp[ZqJ,nd0,ZqR]
  obtain⟨M',hLp⟩:=ZqZ hL l hl uO yb 6 (by decide) l 0 (nd0 S) (rg0 S) 0 [] 4 0 0 3 4 .jc [] 0 1 _ rfl (jr _) H (by show S.t0<=0;omega) hM (.inr ⟨rfl,rfl⟩) hQ;rw[hl]at c2;simp only[acE,jg]at hLp;simp[-zx,ZqE,c1,c2,c4,hN,hLp]
 ·simp only[Ap]at hl;rw[hl]at c2;simp[-zx,ZqE,c2,c4]
theorem Zq0:∀xs,zot [Zng,.slice Zqs,zmN,zmN] xs->∃M',R L Cs ZqF xs []=some (.w (.c (.bool true)),M'):=by
 intro xs h;simp only[zot]at h;obtain⟨c1,y1,rfl,h1,c2,y2,rfl,h2,c3,y3,rfl,h3,c4,y4,rfl,h4,rfl⟩:=h;obtain⟨n,q,dl,bu,si,s,sp,ln,ac,br,ra,sg,rfl⟩:=Zp0 h1;unfold zfo at h2;obtain⟨rows,rfl,_,vE⟩:=h2;obtain⟨l,rfl⟩:=Zqj vE;simp only[zfo]at h3 h4;obtain⟨uO,rfl,_⟩:=h3;obtain⟨yb,rfl,_⟩:=h4;obtain⟨m,zs,ss,k,hM,hk,hS⟩:=ZnS n q dl bu si s sp ln ac br ra sg;exact⟨[],ZqY (hM.law hk bu si dl s sp ln ac br ra sg) rfl n q dl bu si s sp ln ac br ra sg l uO yb hS Zoj⟩
end Go.TrRun
namespace Go.TrRun
open Go Go.Eng
theorem zq2(a:Int):R L [] zlc [W a] []=some (.w (Bo false),[]):=by
 rw[zUa zle rfl];simp[zfU]
theorem zn3(a:Int):R L [] zi5 [W a] []=some (.w (Bo false),[]):=by
 rw[zUa zi9 rfl];simp[ze6]
theorem zuB(a b:Int):R L [] zi6 [W a,W b] []=some (.w (W (zgQ a b)),[]):=by
 have h1:=zq2 a;have h2:=zq2 b;rw[zUa zja rfl];unfold zgQ;by_cases h:a<b
 ·simp[zb3,h1,h2,h]
 ·by_cases h':b<a
  ·simp[zb3,h1,h2,h,h']
  ·simp[zb3,h1,h2,h,h']
theorem zmv(a b:Int):R L [] zhQ [W a,W b] []=some (.w (W (zgQ a b)),[]):=by
 have h1:=zn3 a;have h2:=zn3 b;rw[zUa zhS rfl];unfold zgQ;by_cases h:a<b
 ·simp[zbq,h1,h2,h]
 ·by_cases h':b<a
  ·simp[zbq,h1,h2,h,h']
  ·simp[zbq,h1,h2,h,h']
theorem zxz(b:Bool):R L [] zhB [Bo b] []=some (.w (W (if b then 1 else 0)),[]):=by
 rw[zUa zp4 rfl];cases b<;>simp[zhF]
def orI(a b c d:Int):Int:=if a=0 then(if b=0 then(if c=0 then d else c) else b) else a
abbrev orE(a b c d:Int)(i:Int):Env:=[(7,.w (W 4)),(6,.w (.c (.jb [[I a],[I b],[I c],[I d]]))),(3,.w (W 0)),(8,.w (W i))]
theorem or0(a b c d:Int):R L [] zob [.c (.jb [[I a],[I b],[I c],[I d]])] []=some (.w (W (orI a b c d)),[]):=by
 have w1:IntKind.i64.wrap 1=1:=rfl;have w2:IntKind.i64.wrap 2=2:=rfl;have w3:IntKind.i64.wrap 3=3:=rfl;have w4:IntKind.i64.wrap 4=4:=rfl;have h4:Y L [] zab (some [7,6,3,8]) 0 (orE a b c d 4) []=some (.exit 0,[(9,.w (Bo false)),(3,.w (W 0)),(6,.w (.c (.jb [[I a],[I b],[I c],[I d]]))),(7,.w (W 4)),(8,.w (W 4))],[]):=by
  rw[ZfM zab.eq_1];simp
 have h3:Y L [] zab (some [7,6,3,8]) 0 (orE a b c d 3) []=if d=0 then Y L [] zab (some [7,6,3,8]) 0 (orE a b c d 4) [] else some (.ret,[(2,.w (W d))],[]):=by
  rw[ZfM zab.eq_1];by_cases h:d=0
  ·simp[h,w4]
  ·have h':(d !=0)=true:=by simp[h]
   simp[h,h']
 have h2:Y L [] zab (some [7,6,3,8]) 0 (orE a b c d 2) []=if c=0 then Y L [] zab (some [7,6,3,8]) 0 (orE a b c d 3) [] else some (.ret,[(2,.w (W c))],[]):=by
  rw[ZfM zab.eq_1];by_cases h:c=0
  ·simp[h,w3]
  ·have h':(c !=0)=true:=by simp[h]
   simp[h,h']
 have h1:Y L [] zab (some [7,6,3,8]) 0 (orE a b c d 1) []=if b=0 then Y L [] zab (some [7,6,3,8]) 0 (orE a b c d 2) [] else some (.ret,[(2,.w (W b))],[]):=by
  rw[ZfM zab.eq_1];by_cases h:b=0
  ·simp[h,w2]
  ·have h':(b !=0)=true:=by simp[h]
   simp[h,h']
 have h0:Y L [] zab (some [7,6,3,8]) 0 (orE a b c d 0) []=if a=0 then Y L [] zab (some [7,6,3,8]) 0 (orE a b c d 1) [] else some (.ret,[(2,.w (W a))],[]):=by
  rw[ZfM zab.eq_1];by_cases h:a=0
  ·simp[h,w1]
  ·have h':(a !=0)=true:=by simp[h]
   simp[h,h']
 rw[h4]at h3;rw[h3]at h2;rw[h2]at h1;rw[h1]at h0;rw[zUa zow rfl];unfold orI;by_cases c1:a=0<;>by_cases c2:b=0<;>by_cases c3:c=0<;>by_cases c4:d=0<;>simp only[c1,c2,c3,c4,if_true,if_false]at h0 ⊢<;>simp[zfw,h0]
def zoG(b:Bool):Int:=if b then 1 else 0
def zu6(a b:Swp):Int:=orI (zgQ a.lane b.lane) (zgQ a.lo b.lo) (zgQ a.hi b.hi) (zoG a.cap-zoG b.cap)
theorem less0(a b:Swp):R L [] zar [.a (swC a),.a (swC b)] []=some (.w (W (zu6 a b)),[]):=by
 have h1:=zuB a.lane b.lane;have h2:=zmv a.lo b.lo;have h3:=zmv a.hi b.hi;have h4:R L [] zhB [Bo a.cap] []=some (.w (W (zoG a.cap)),[]):=zxz a.cap;have h5:R L [] zhB [Bo b.cap] []=some (.w (W (zoG b.cap)),[]):=zxz b.cap;have h6:=or0 (zgQ a.lane b.lane) (zgQ a.lo b.lo) (zgQ a.hi b.hi) (zoG a.cap-zoG b.cap);have w:IntKind.i64.wrap (zoG a.cap-zoG b.cap)=zoG a.cap-zoG b.cap:=by
  cases a.cap<;>cases b.cap<;>rfl
 unfold zu6;generalize zgQ a.lane b.lane=x1 at *;generalize zgQ a.lo b.lo=x2 at *;generalize zgQ a.hi b.hi=x3 at *;generalize zoG a.cap=o1 at *;generalize zoG b.cap=o2 at *;rw[zUa zsv rfl];simp[zjq,swC,h1,h2,h3,h4,h5,h6,w,zg,zX]
theorem zz5(a b:Swp):(zu6 a b<0)<->ltS a b=true:=by
 rw[zz2];unfold zu6 orI zgQ zoG;by_cases h1:a.lane<b.lane
 ·simp[h1]
 ·by_cases h2:b.lane<a.lane
  ·have:¬a.lane=b.lane:=by omega
   simp[h1,h2,this]
  ·have e1:a.lane=b.lane:=by omega
   by_cases h3:a.lo<b.lo
   ·simp[e1,h3]
   ·by_cases h4:b.lo<a.lo
    ·have:¬a.lo=b.lo:=by omega
     simp[e1,h3,h4,this]
    ·have e2:a.lo=b.lo:=by omega
     by_cases h5:a.hi<b.hi
     ·simp[e1,e2,h5]
     ·by_cases h6:b.hi<a.hi
      ·have:¬a.hi=b.hi:=by omega
       simp[e1,e2,h5,h6,this]
      ·have e3:a.hi=b.hi:=by omega
       cases a.cap<;>cases b.cap<;>simp[e1,e2,e3]
end Go.TrRun
namespace Go.Eng
open Go
theorem zsf [zb0]{P:Program}{cf:za4}(hcf:FnS P cf){f:FuncId}(hf:f<zb0.base){args:List WV}{vs:Array Value}{w:World}{σ:zP}{j:Inj}{M':Mem}{c:Int}(h:cf f args []=some (.w (.c (.int .i64 c)),M'))
  (hag:zM σ w) (hvs:zac σ j args vs.toList) (hm:MR (fun b=>w.heap.size<=b) σ j [] w) (hA:zb0.asc) :
  Calls P f vs w fun e w'=>e=.returned (.int .i64 c)/\∃q os',w'=Go.Sort.grow (w.drewN q) os':=by
 obtain⟨_,_,_,_,hc⟩:=(hcf f args [] _ _ h (fun id hid=>by simp at hid)).1 hf;refine Calls.yn (hc (fun b=>w.heap.size<=b) σ j w vs (fun _ h=>h) hag hm hvs) ?_;rintro e w' ⟨v,σ',j',rfl,hr,_,_,hst⟩;have hr:VC σ' j' (.int .i64 c) v:=hr;cases hr;refine⟨rfl,w'.drawn-w.drawn,w'.heap.extract w.heap.size w'.heap.size,?_⟩;have h1:=hst.side.os;have h2:=hst.side.output;have h3:=hst.side.tape;have h4:=hst.side.drawn hA;have h5:=hst.frame;have h6:=hst.size;cases w' with |mk heap tape drawn os output =>
 simp only at h1 h2 h3 h4 h5 h6;subst h1;subst h2;subst h3;unfold Go.Sort.grow World.drewN;simp only[World.mk.injEq,and_true,true_and];refine⟨?_,by omega⟩;apply Array.ext_getElem?;intro i;by_cases hi:i<w.heap.size
 ·rw[k6 hi];exact h5 i hi (by omega)
 ·rw[yQ (by omega),qt];by_cases hi2:i<heap.size
  ·rw[if_pos (by omega)]
   congr 1;omega
  ·rw[if_neg (by omega)];exact qw (by omega)
end Go.Eng
namespace Go.TrRun
open Go Go.Eng
theorem zxp(σ:zP)(j:Inj)(x:List Int):WVR σ j (.a (swC (zik x))) (.agg (ziq 4 7 x).toArray):=by
 refine⟨_,rfl,?_⟩;have e:(ziq 4 7 x).toArray.toList=[.int .i64 (x.getD 0 0),.int .i64 (x.getD 1 0),.int .i64 (x.getD 2 0),.bool (x.getD 3 0 !=0)]:=rfl;rw[e];refine⟨rfl,fun n c v hc hv=>?_⟩
 match n with
 |0=>cases hc;cases hv;exact .int _ _ _
 |1=>cases hc;cases hv;exact .int _ _ _
 |2=>cases hc;cases hv;exact .int _ _ _
 |3=>cases hc;cases hv;exact .bool _ _
 |n+4=>cases hc
def zAw(x y:List Int):Int:=zu6 (zik x) (zik y)
theorem zBC:(fun x y=>decide (zAw x y<0))=ltZ 4 7:=by
 funext x y;have h:=zz5 (zik x) (zik y);have e:ltS (zik x) (zik y)=ltZ 4 7 x y:=by
  have k1:∀z:List Int,zji (zik z)=zsY 4 7 z:=fun z=>by
   simp[zji,zik,zsY,List.range,List.range.loop,zgk]
  simp only[ltS,ltZ,k1,if_true]
 rw[e]at h;unfold zAw;cases hz:ltZ 4 7 x y with
 |true=>exact decide_eq_true (h.2 hz)
 |false =>
  refine decide_eq_false fun h'=>?_
  rw[h.1 h']at hz;cases hz
theorem zwK{P:Program}(vq:P.follows .mixedOrders=true)(hL:(L.map fun p=>zcF P an true p.1)=L.map fun p=>some p.2)(hV:zql P L=true)(hf:zar<P.funcs.size)(x y:List Int)(W:World) :
  Calls P zar #[.agg (ziq 4 7 x).toArray,.agg (ziq 4 7 y).toArray] W fun e w'=>e=.returned (.int .i64 (zAw x y))/\∃q os',w'=Go.Sort.grow (W.drewN q) os':=by
 letI:=zww P (fun f=>L.lookup f) (Zpp []);obtain⟨n,hn⟩:=zah.1 (less0 (zik x) (zik y));exact zsf (zsT vq hL hV (Cs:=[]) rfl (fun c hc=>by cases hc) n) (f:=zar) hf hn (zml (W:=W) fun g row hr=>by cases hr) (.cons (zxp _ _ x) (.cons (zxp _ _ y) .nil)) MR.nil (fun c hc=>by cases hc)
end Go.TrRun
