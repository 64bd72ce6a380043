/- This text proves what functions of this seat's program answer, run by the evaluator; no condition. -/
import Derived.Test.YtjmaghejnagjeaaGreatRTx3
import Derived.WalkSmall
set_option maxHeartbeats 8000000
set_option linter.unusedVariables false
set_option linter.unusedSimpArgs false
set_option linter.unusedSectionVars false
set_option maxRecDepth 10000
namespace Go.TrRun
open Go Go.Eng
def zOP(NW:List Cl)(SW:Cl):Prop:=∃k x,NW=zG k/\SW=.jb x
theorem zVX{m:zD}{zs:List Zon}{ss:List Sgn}(hF:zKj m zs ss){r:List Int}(hr:zdA m r=0)(len:Int)(hlen:0<=len/\len<=20000)(ps:List Pss)(hp:ps.length<=1000)(vs:List Vis)(qq:Nat)(hq0:qq=0/\vs=[]\/qq=1/\vs≠[])(hvl:vs.length<=100)(hvo:∀v∈vs,zKN zs v)(signals:Bool)(gv u w n:Nat)(hn:n<1000)(k:zci)(NW:List Cl)(SW:Cl)(hSW:zKq NW SW)(hk:KJ m k)(a:Int) :
  R L Cs zJ0 [.c (.yld 0 zJ0 rsh),.a (zG (zEt m zs ss r len signals k a)),.c (.jb (zbf (zKu m zs ss r len signals k a)))] (rdG qq m r len ps vs 0 gv u k NW SW w n 0 (zJY false 0 0)) =
    some (if zMi m zs ss r len ps vs k (zEt m zs ss r len signals k a) (zKu m zs ss r len signals k a)=0 then(.w (Bo true),rdG qq m r len ps vs 0 (gv+1+1) (u+1+1+1) (zEt m zs ss r len signals k a) (zG (zEt m zs ss r len signals k a)) (.jb (zbf (zKu m zs ss r len signals k a))) (w+1) (n+1) 0 (zJY false 0 0))
     else(.w (Bo false),rdG qq m r len ps vs 2 (gv+1+1) (u+1+1) k (zG (zEt m zs ss r len signals k a)) (.jb (zbf (zKu m zs ss r len signals k a))) (w+1) (n+1) 1 (zJY false (n+1) (zMi m zs ss r len ps vs k (zEt m zs ss r len signals k a) (zKu m zs ss r len signals k a))))):=by
 have hf:=hF.full;have h:=hf.qF;obtain⟨hon,hne,hl8⟩:=zg1 h hr;have hsl:=zNq (zs:=zs) (ss:=ss) hf hr len signals hk a;have hso:=zOa (zs:=zs) (ss:=ss) hf r len signals hk a;have hd:=zLs h hr hk.ego a;have hes:=hk.ego.s;have hE:=zFu h r hl8 hon;have he1:(zEt m zs ss r len signals k a).ego=zaN m r k.ego a:=rfl;rw[<-he1]at hd;generalize zEt m zs ss r len signals k a=nx at *;generalize zKu m zs ss r len signals k a=sw at *;have e1:=zNc m r len ps vs (u+1+1) k nx sw;have e2:=fun(h0':onW m r nx=0)=>zPf h hF.kE r (by omega) hon len ps vs (u+1+1) k nx (by
   have:nx.ego.shi<=zmd m 0 r:=by
    unfold onW at h0';split at h0'
    ·cases h0'
    ·omega
   omega) sw
 have e3:=zOh h r hl8 hon len ps vs (u+1+1) k nx sw hsl hso;have e4:=zOi hf.zd.z r len (by omega) ps hp vs hvl hvo (u+1+1) k nx (by omega) sw hsl;have e5:=zNd hf r len ps vs hvl hvo (u+1+1) k nx sw;exact zV5 m r len ps vs qq hq0 gv u k NW nx SW hSW sw w n hn _ (zVZ m r len ps vs qq hq0 (gv+1) (u+1+1) k nx sw (w+1) ((n:Int)+1) (onW m r nx) (zMt m r nx) (zMF m r nx sw) (zMG zs len ps vs k nx sw) (zMH zs ss vs k nx) e1 e2 e3 e4 e5)
abbrev zVG(qq:Nat)(m:zD)(r:List Int)(len:Int)(ps:List Pss)(vs:List Vis)(s:Int)(gv u:Nat)(was:zci)(NW:List Cl)(SW:Cl)(w:Nat)(n:Int)(fv:Nat)(F:List Cl)(jM:List Int)(kv:Nat)(k:zci)(signals:Bool):Mem:=rdG qq m r len ps vs s gv u was NW SW w n fv F++[bx 1 [.jb (zu jM)],bx 1 [.ptr 2 0 0 0],bxv kv 6 (zG k),bx 1 [.bool signals]]
abbrev zVK(qq:Nat)(jM:List Int)(i:Nat):Env:=[(12,.w (W jM.length)),(11,.w (.c (.jb (zu jM)))),(2,.w (Pt (qq+6))),(4,.w (Pt (qq+8))),(0,.w (.c (.yld 0 zJ0 rsh))),(3,.w (Pt (qq+7))),(13,.w (W i))]
theorem zVU{m:zD}{zs:List Zon}{ss:List Sgn}(hF:zKj m zs ss){r:List Int}(hr:zdA m r=0)(len:Int)(hlen:0<=len/\len<=20000)(ps:List Pss)(hp:ps.length<=1000)(vs:List Vis)(qq:Nat)(hq0:qq=0/\vs=[]\/qq=1/\vs≠[])(hvl:vs.length<=100)(hvo:∀v∈vs,zKN zs v)(signals:Bool)(jM:List Int)(hin:∀a∈jM,zk0 a)(hal:jM.length<=500):∀(t:List Int) (i:Nat) (gv u w:Nat) (k:zci) (NW:List Cl) (SW:Cl) (kv:Nat),jM.drop i=t->i<=jM.length->KJ m k->0<=k.tick/\k.tick<=1099511627776+i->zKq NW SW ->
  match zKr m zs ss r len ps vs signals t i k with
  |(none,kf)=>∃gv' u' w' NW' SW' kv',zKq NW' SW'/\(gv+min 1 t.length<=gv'/\u+min 1 t.length<=u'/\w+min 1 t.length<=w'/\(kv'=kv/\kf=k\/kv<kv')/\(zOP NW' SW'\/t=[]/\NW'=NW/\SW'=SW))/\Y L Cs zHM (some [12,11,2,4,0,3,13]) (qq+9) (zVK qq jM i) (zVG qq m r len ps vs 0 gv u k NW SW w i 0 (zJY false 0 0) jM kv k signals) =
    some (.exit 0,[(14,.w (Bo false)),(3,.w (Pt (qq+7))),(0,.w (.c (.yld 0 zJ0 rsh))),(4,.w (Pt (qq+8))),(2,.w (Pt (qq+6))),(11,.w (.c (.jb (zu jM)))),(12,.w (W jM.length)),(13,.w (W jM.length))],zVG qq m r len ps vs 0 gv' u' kf NW' SW' w' jM.length 0 (zJY false 0 0) jM kv' kf signals)
  |(some (at',why),kf)=>∃gv' u' w' NW' SW' kv' kk X E,zKq NW' SW'/\(gv+min 1 t.length<=gv'/\u+min 1 t.length<=u'/\w+min 1 t.length<=w'/\(kv'=kv/\kk=k\/kv<kv')/\zOP NW' SW')/\Y L Cs zHM (some [12,11,2,4,0,3,13]) (qq+9) (zVK qq jM i) (zVG qq m r len ps vs 0 gv u k NW SW w i 0 (zJY false 0 0) jM kv k signals) =
    some (.ret,E,zVG qq m r len ps vs 2 gv' u' kf NW' SW' w' at' 1 (zJY false at' why) jM kv' kk signals++[bxv 1 6 (zG X)]):=by
 have hf:=hF.full;have h:=hf.qF;obtain⟨hon,hne,hl8⟩:=zg1 h hr;have hEb:=zFu h r hl8 hon;intro t;induction t with
 |nil =>
  intro i gv u w k NW SW kv hd hi hk ht hSW;obtain rfl:=zUb hd hi;refine⟨gv,u,w,NW,SW,kv,hSW,⟨jo _,jo _,jo _,.inl ⟨rfl,rfl⟩,.inr ⟨rfl,rfl,rfl⟩⟩,?_⟩;rw[zj zHM.eq_1];simp[zVK,zVG]
 |cons a t ih =>
  intro i gv u w k NW SW kv hd hi hk ht hSW;obtain⟨hil,ha,hd'⟩:=zL hd;have hw:=zB (i:=i) (by omega);have v1:¬gv+1+1=gv:=by omega
  have v2:¬u+1+1+1=u:=by omega
  have v3:¬u+1+1=u:=by omega
  have v4:¬w+1=w:=by omega
  have hS:=zux hf hr len hlen k (zN7 h hf.ye hk) (by omega) hk.ego hk.vb a (hin a (by rw[<-ha];exact je hil)) signals;have hRd:=zVX hF hr len hlen ps hp vs qq hq0 hvl hvo signals gv u w i (by omega) k NW SW hSW hk a;have hKs:=zNm hf hr len signals hk a (zs:=zs) (ss:=ss);have htk:(zEt m zs ss r len signals k a).tick=k.tick+1:=rfl;have hon2:=zNe (m:=m) (zs:=zs) (ss:=ss) (r:=r) (len:=len) (ps:=ps) (vs:=vs) (was:=k) (now:=zEt m zs ss r len signals k a) (sw:=zKu m zs ss r len signals k a);rw[show zpg m zs ss r len k (zaN m r k.ego a) signals=zEt m zs ss r len signals k a from rfl,show zhp (zlg (zfV m zs ss r len k (zaN m r k.ego a) signals))=zKu m zs ss r len signals k a from rfl]at hS;unfold zKr;by_cases c:zMi m zs ss r len ps vs k (zEt m zs ss r len signals k a) (zKu m zs ss r len signals k a)=0
  ·rw[if_pos c];rw[if_pos c]at hRd;have hshi:=hon2 c;have hK:=hKs (by omega);have ih':=ih (i+1) (gv+1+1) (u+1+1+1) (w+1) (zEt m zs ss r len signals k a) (zG (zEt m zs ss r len signals k a)) (.jb (zbf (zKu m zs ss r len signals k a))) (kv+1) hd' hil hK (by rw[htk];omega) (.inr ⟨_,_,rfl,rfl⟩);have step:Y L Cs zHM (some [12,11,2,4,0,3,13]) (qq+9) (zVK qq jM i) (zVG qq m r len ps vs 0 gv u k NW SW w i 0 (zJY false 0 0) jM kv k signals)=Y L Cs zHM (some [12,11,2,4,0,3,13]) (qq+9) (zVK qq jM (i+1)) (zVG qq m r len ps vs 0 (gv+1+1) (u+1+1+1) (zEt m zs ss r len signals k a) (zG (zEt m zs ss r len signals k a)) (.jb (zbf (zKu m zs ss r len signals k a))) (w+1) ((i+1:Nat):Int) 0 (zJY false 0 0) jM (kv+1) (zEt m zs ss r len signals k a) signals):=by
    clear ih ih' hKs hon2 hK htk hshi;generalize zEt m zs ss r len signals k a=nx at *;generalize zKu m zs ss r len signals k a=sw at *;rw[zj zHM.eq_1];rcases hq0 with⟨rfl,-⟩ |⟨rfl,-⟩<;>rcases hSW with⟨rfl,rfl⟩ |⟨k0,x,rfl,rfl⟩<;>simp only[jI,↓reduceIte,jB,Nat.reduceAdd,rdG,rdA,rdB,jC,zox,zh,zi,zf,zG,zJY,own,zJZ,jh,jf]at hS hRd<;>simp (maxSteps:=1000000) [zVK,zVG,rdG,rdA,rdB,jC,zox,zh,zi,zf,zG,zJY,own,hil,ha,hw,hS,hRd,v1,v2,v3,v4,zg,zH]
   rw[step];clear step;revert ih';generalize zKr m zs ss r len ps vs signals t (i+1) (zEt m zs ss r len signals k a)=V;obtain⟨V1,kf⟩:=V;cases V1 with
   |none =>
    rintro⟨gv',u',w',NW',SW',kv',hO,⟨q1,q2,q3,q4,q5⟩,g⟩;exact⟨gv',u',w',NW',SW',kv',hO,⟨by simp only[jk];omega,by simp only[jk];omega,by simp only[jk];omega,.inr (by omega),.inl (q5.elim id fun q=>⟨_,_,q.2.1,q.2.2⟩)⟩,g⟩
   |some y =>
    rintro⟨gv',u',w',NW',SW',kv',kk,X,E,hO,⟨q1,q2,q3,q4,q5⟩,g⟩;exact⟨gv',u',w',NW',SW',kv',kk,X,E,hO,⟨by simp only[jk];omega,by simp only[jk];omega,by simp only[jk];omega,.inr (by omega),q5⟩,g⟩
  ·rw[if_neg c];rw[if_neg c]at hRd;refine⟨gv+1+1,u+1+1,w+1,zG (zEt m zs ss r len signals k a),.jb (zbf (zKu m zs ss r len signals k a)),kv,k,zEt m zs ss r len signals k a,[(32,.w (Bo true)),(3,.w (Pt (qq+7))),(0,.w (.c (.yld 0 zJ0 rsh))),(4,.w (Pt (qq+8))),(2,.w (Pt (qq+6))),(11,.w (.c (.jb (zu jM)))),(12,.w (W jM.length)),(13,.w (W i)),(8,.w (Pt (qq+9)))],.inr ⟨_,_,rfl,rfl⟩,⟨by simp only[jk];omega,by simp only[jk];omega,by simp only[jk];omega,.inl ⟨rfl,rfl⟩,⟨_,_,rfl,rfl⟩⟩,?_⟩;clear ih hKs hon2 htk;generalize zMi m zs ss r len ps vs k (zEt m zs ss r len signals k a) (zKu m zs ss r len signals k a)=why at *;generalize zEt m zs ss r len signals k a=nx at *;generalize zKu m zs ss r len signals k a=sw at *;rw[zj zHM.eq_1];rcases hq0 with⟨rfl,-⟩ |⟨rfl,-⟩<;>rcases hSW with⟨rfl,rfl⟩ |⟨k0,x,rfl,rfl⟩<;>simp only[jI,↓reduceIte,jB,Nat.reduceAdd,rdG,rdA,rdB,jC,zox,zh,zi,zf,zG,zJY,own,zJZ,jh,jf]at hS hRd<;>simp (maxSteps:=1000000) [zVK,zVG,rdG,rdA,rdB,jC,zox,zh,zi,zf,zG,zJY,own,hil,ha,hw,hS,hRd,v1,v2,v3,v4,zg,zH]
def zOS(len:Int)(x:Ego)(v:Vis):Bool:=decide (v.first.lo<=x.shi)&&decide (x.slo-len<=v.last.hi)
abbrev zPQ(vs:List Vis):Option Blk:=some { box:=false,esz:=10,rows:=zKt vs,gen:=vs.length,fz:=true,ver:=vs.length+1 }
abbrev zMj(m:zD)(r:List Int)(len:Int)(ps:List Pss)(vs:List Vis)(u:Nat)(was:zci)(NW:List Cl)(SW:Cl)(x:Ego):Mem:=[bxv 1 4 (zch x),bx 1 [.ptr 2 0 0 0],bxv u 26 (jC m r len ps (.slice 3 vs.length 10 0 vs.length none) (zG was) NW SW),zPQ vs]
abbrev zMc:Cl:=.fn zKC [] [.ptr 0 0 0 0,.ptr 1 0 0 0]
theorem zN2(m:zD)(r:List Int)(len:Int)(hlen:0<=len/\len<=100000)(ps:List Pss)(vs:List Vis)(u:Nat)(was:zci)(NW:List Cl)(SW:Cl)(hO:zKq NW SW)(x:Ego)(hx:0<=x.slo/\x.slo<=1000000000000000)(v:Vis) :
  R L Cs zKC [.a (zJ1 v),.c (.ptr 0 0 0 0),.c (.ptr 1 0 0 0)] (zMj m r len ps vs u was NW SW x)=some (.w (Bo (zOS len x v)),zMj m r len ps vs u was NW SW x):=by
 rcases hO with⟨rfl,rfl⟩ |⟨k0,x0,rfl,rfl⟩
 all_goals
  have w1:=kg (x.slo-len);rw[zUa zLm rfl];unfold zOS;by_cases c1:v.first.lo<=x.shi<;>by_cases c2:x.slo-len<=v.last.hi<;>simp[zHQ,zMj,zch,zJ1,jC,zox,zh,zi,zf,zG,c1,c2,w1,zg,zH,own]
theorem zM0(m:zD)(r:List Int)(len:Int)(hlen:0<=len/\len<=100000)(ps:List Pss)(vs:List Vis)(hvl:vs.length<=100)(u:Nat)(was:zci)(NW:List Cl)(SW:Cl)(hO:zKq NW SW)(x:Ego)(hx:0<=x.slo/\x.slo<=1000000000000000) :
  R L Cs zKe [.c (.jb (zKt vs)),.c zMc] (zMj m r len ps vs u was NW SW x)=some (.w (Bo (vs.any (zOS len x))),zMj m r len ps vs u was NW SW x):=by
 have key:=zOy vs (by omega) zMc (zOS len x) (zMj m r len ps vs u was NW SW x) (fun v _=>by
  have h:=zN2 m r len hlen ps vs u was NW SW hO x hx v;rcases hO with⟨rfl,rfl⟩ |⟨k0,x0,rfl,rfl⟩<;>simp only[zMj,zch,zJ1,jC,zox,zh,zi,zf,zG,own,zJZ,jh,jf]at h<;>simp[h,zMj,zch,zJ1,jC,zox,zh,zi,zf,zG,own])
 obtain⟨k,h1,h2⟩:=key;rw[zUa zKf rfl];rcases hO with⟨rfl,rfl⟩ |⟨k0,x0,rfl,rfl⟩<;>simp only[zMj,zch,jC,zox,zh,zi,zf,zG,own,zJZ,jh,jf]at h1<;>simp[zHs,h1,h2,zMj,zch,jC,zox,zh,zi,zf,zG,own]
def zLQ(len:Int)(vs:List Vis)(was:zci):Bool:=decide (was.ego.vhi=0) && !vs.any (zOS len was.ego)
theorem zNF(m:zD)(r:List Int)(len:Int)(hlen:0<=len/\len<=100000)(ps:List Pss)(vs:List Vis)(hvl:vs.length<=100)(u:Nat)(was:zci)(NW:List Cl)(SW:Cl)(hO:zKq NW SW)(hx:0<=was.ego.slo/\was.ego.slo<=1000000000000000) :
  R L Cs zLC [J0] (zJ3 m r len ps vs u (zG was) NW SW)=some (.w (Bo (zLQ len vs was)),zJ3 m r len ps vs u (zG was) NW SW):=by
 have hC:=zM0 m r len hlen ps vs hvl u was NW SW hO was.ego hx;unfold zLQ;rcases hO with⟨rfl,rfl⟩ |⟨k0,x0,rfl,rfl⟩
 ·by_cases c:was.ego.vhi=0
  ·have cb:(was.ego.vhi==0)=true:=by simp[c]
   have ce:(was.ego.vhi=0)=True:=eq_true c;rw[zUa zKo rfl];by_cases h0:vs=[]
   ·subst h0;have hI:∀(fnv:Cl) (M:Mem),Y L Cs zHq (some [7,1,0,8]) M.length [(7,.w (W 0)),(1,.w (.c fnv)),(0,.w (.c (.jb []))),(8,.w (W 0))] M=some (.exit 0,[(9,.w (Bo false)),(0,.w (.c (.jb []))),(1,.w (.c fnv)),(7,.w (W 0)),(8,.w (W 0))],M):=by
     intro fnv M;rw[zj zHq.eq_1];simp
    have hC0:R L Cs zKe [.c (.jb []),.c zMc] [bxv 1 4 (zch was.ego),bx 1 [.ptr 2 0 0 0],bxv u 26 (jC m r len ps .jd (zG was) zox .jd)]=some (.w (Bo false),[bxv 1 4 (zch was.ego),bx 1 [.ptr 2 0 0 0],bxv u 26 (jC m r len ps .jd (zG was) zox .jd)]):=by
     have h1:R L Cs zKm [.c (.jb []),.c zMc] [bxv 1 4 (zch was.ego),bx 1 [.ptr 2 0 0 0],bxv u 26 (jC m r len ps .jd (zG was) zox .jd)]=some (.w (W (-1)),[bxv 1 4 (zch was.ego),bx 1 [.ptr 2 0 0 0],bxv u 26 (jC m r len ps .jd (zG was) zox .jd)]):=by
      have h2:=hI zMc [bxv 1 4 (zch was.ego),bx 1 [.ptr 2 0 0 0],bxv u 26 (jC m r len ps .jd (zG was) zox .jd)];simp only[zch,jC,zh,zi,zf,zox,zG,jk,jp,jh,jf]at h2;rw[zUa zKb rfl];simp[zHF,zch,jC,zh,zi,zf,zox,zG,h2]
     rw[zUa zKf rfl];simp only[zch,jC,zh,zi,zf,zox,zG,jh,jf]at h1;simp[zHs,h1,zch,jC,zh,zi,zf,zox,zG]
    simp only[zch,jC,zh,zi,zf,zox,zG,jh,jf]at hC0;simp[zH3,zJ3,jC,zh,zi,zf,zox,zG,zch,cb,ce,hC0,zg,zH,own,zX]
   ·simp only[zMj,zPQ,zch,jC,zh,zi,zf,zox,zG,own,zJZ,jh,jf]at hC;simp[zH3,zJ3,h0,jC,zh,zi,zf,zox,zG,zch,cb,ce,hC,zg,zH,own,zX]
  ·have cb:(was.ego.vhi==0)=false:=by simp[c]
   rw[zUa zKo rfl];by_cases h0:vs=[]<;>simp[zH3,zJ3,h0,jC,zh,zi,zf,zox,zG,zch,c,cb,zg,zH,own]
 ·by_cases c:was.ego.vhi=0
  ·have cb:(was.ego.vhi==0)=true:=by simp[c]
   have ce:(was.ego.vhi=0)=True:=eq_true c;rw[zUa zKo rfl];by_cases h0:vs=[]
   ·subst h0;have hI:∀(fnv:Cl) (M:Mem),Y L Cs zHq (some [7,1,0,8]) M.length [(7,.w (W 0)),(1,.w (.c fnv)),(0,.w (.c (.jb []))),(8,.w (W 0))] M=some (.exit 0,[(9,.w (Bo false)),(0,.w (.c (.jb []))),(1,.w (.c fnv)),(7,.w (W 0)),(8,.w (W 0))],M):=by
     intro fnv M;rw[zj zHq.eq_1];simp
    have hC0:R L Cs zKe [.c (.jb []),.c zMc] [bxv 1 4 (zch was.ego),bx 1 [.ptr 2 0 0 0],bxv u 26 (jC m r len ps .jd (zG was) (zG k0) (.jb x0))]=some (.w (Bo false),[bxv 1 4 (zch was.ego),bx 1 [.ptr 2 0 0 0],bxv u 26 (jC m r len ps .jd (zG was) (zG k0) (.jb x0))]):=by
     have h1:R L Cs zKm [.c (.jb []),.c zMc] [bxv 1 4 (zch was.ego),bx 1 [.ptr 2 0 0 0],bxv u 26 (jC m r len ps .jd (zG was) (zG k0) (.jb x0))]=some (.w (W (-1)),[bxv 1 4 (zch was.ego),bx 1 [.ptr 2 0 0 0],bxv u 26 (jC m r len ps .jd (zG was) (zG k0) (.jb x0))]):=by
      have h2:=hI zMc [bxv 1 4 (zch was.ego),bx 1 [.ptr 2 0 0 0],bxv u 26 (jC m r len ps .jd (zG was) (zG k0) (.jb x0))];simp only[zch,jC,zh,zi,zf,zox,zG,jk,jp,jh,jf]at h2;rw[zUa zKb rfl];simp[zHF,zch,jC,zh,zi,zf,zox,zG,h2]
     rw[zUa zKf rfl];simp only[zch,jC,zh,zi,zf,zox,zG,jh,jf]at h1;simp[zHs,h1,zch,jC,zh,zi,zf,zox,zG]
    simp only[zch,jC,zh,zi,zf,zox,zG,jh,jf]at hC0;simp[zH3,zJ3,jC,zh,zi,zf,zox,zG,zch,cb,ce,hC0,zg,zH,own,zX]
   ·simp only[zMj,zPQ,zch,jC,zh,zi,zf,zox,zG,own,zJZ,jh,jf]at hC;simp[zH3,zJ3,h0,jC,zh,zi,zf,zox,zG,zch,cb,ce,hC,zg,zH,own,zX]
  ·have cb:(was.ego.vhi==0)=false:=by simp[c]
   rw[zUa zKo rfl];by_cases h0:vs=[]<;>simp[zH3,zJ3,h0,jC,zh,zi,zf,zox,zG,zch,c,cb,zg,zH,own]
abbrev jmA(m:zD)(r:List Int)(len:Int)(ps:List Pss)(vs:List Vis)(u:Nat)(was NW:List Cl)(SW:Cl):Mem:=[bxv u 26 (jC m r len ps (.slice 1 vs.length 10 0 vs.length none) was NW SW),some (own 10 (zKt vs))]
abbrev jmB(m:zD)(r:List Int)(len:Int)(ps:List Pss)(vs:List Vis)(u:Nat)(was NW:List Cl)(SW:Cl):Mem:=[bxv u 26 (jC m r len ps .jd was NW SW)]
abbrev jmG(qq:Nat)(m:zD)(r:List Int)(len:Int)(ps:List Pss)(vs:List Vis)(u:Nat)(was NW:List Cl)(SW:Cl):Mem:=if qq=0 then jmB m r len ps vs u was NW SW else jmA m r len ps vs u was NW SW
theorem zVV(m:zD)(r:List Int)(len:Int)(ps:List Pss)(vs:List Vis)(qq:Nat)(hq0:qq=0/\vs=[]\/qq=1/\vs≠[])(u:Nat)(k k0:zci)(NW:List Cl)(SW:Cl)(hSW:zKq NW SW)(jM:List Int)(signals:Bool) :
  R L Cs zKZ [J0,.a (zG k),.a [.jb (zu jM)],Bo signals] (jmG qq m r len ps vs u (zG k0) NW SW)=some (.w (.c (.fn zJ8 [] [.ptr (qq+1) 0 0 0,.ptr (qq+2) 0 0 0,.ptr (qq+3) 0 0 0,.ptr (qq+4) 0 0 0])),jmG qq m r len ps vs u (zG k0) NW SW++[bx 1 [.jb (zu jM)],bx 1 [.ptr 0 0 0 0],bx 6 (zG k),bx 1 [.bool signals]]):=by
 rw[zUa zK4 rfl];rcases hq0 with⟨rfl,-⟩ |⟨rfl,-⟩<;>rcases hSW with⟨rfl,rfl⟩ |⟨k1,x,rfl,rfl⟩<;>simp[zIc,jmG,jmA,jmB,jC,zox,zh,zi,zf,zG,zJY,own,zg,zH,List.range,List.range.loop]
theorem zVT{m:zD}{zs:List Zon}{ss:List Sgn}(hF:zKj m zs ss){r:List Int}(hr:zdA m r=0)(len:Int)(hlen:0<=len/\len<=20000)(ps:List Pss)(hp:ps.length<=1000)(vs:List Vis)(qq:Nat)(hq0:qq=0/\vs=[]\/qq=1/\vs≠[])(hvl:vs.length<=100)(hvo:∀v∈vs,zKN zs v)(signals:Bool)(jM:List Int)(hin:∀a∈jM,zk0 a)(hal:jM.length<=500)(u:Nat)(k:zci)(NW:List Cl)(SW:Cl)(hk:KJ m k)(ht:0<=k.tick/\k.tick<=1099511627776)(hSW:zKq NW SW)(hne:jM≠[]) :
  ∃gv' u' w' NW' SW' kv' kk,zOP NW' SW'/\(gv'≠0/\u<u'/\w'≠1/\(kv'=0->kk=k))/\R L Cs zJ8 [.c (.yld 0 zJ0 rsh),Pt (qq+5),Pt (qq+6),Pt (qq+7),Pt (qq+8)] (zVG qq m r len ps vs 0 0 u k NW SW 1 0 0 (zJY false 0 0) jM 0 k signals) =
   some (.t [],match (zKr m zs ss r len ps vs signals jM 0 k).1 with
    |none=>zVG qq m r len ps vs 0 gv' u' (zKr m zs ss r len ps vs signals jM 0 k).2 NW' SW' w' jM.length 0 (zJY false 0 0) jM kv' kk signals
    |some (at',why)=>zVG qq m r len ps vs 2 gv' u' (zKr m zs ss r len ps vs signals jM 0 k).2 NW' SW' w' at' 1 (zJY false at' why) jM kv' kk signals):=by
 have g:=zVU hF hr len hlen ps hp vs qq hq0 hvl hvo signals jM hin hal jM 0 0 u 1 k NW SW 0 rfl (jt _) hk (by omega) hSW;generalize zKr m zs ss r len ps vs signals jM 0 k=V at *;obtain⟨V1,kf⟩:=V;have hlp:=kC.2 hne;cases V1 with
 |none =>
  obtain⟨gv',u',w',NW',SW',kv',hO,⟨q1,q2,q3,q4,q5⟩,g⟩:=g;have hO:=q5.resolve_right fun q=>hne q.1
  refine⟨gv',u',w',NW',SW',kv',kf,hO,⟨by omega,by omega,by omega,fun e=>q4.elim (fun q=>q.2) fun q=>by omega⟩,?_⟩;clear q1 q2 q3 q4 q5;rw[zUa zKl rfl];rcases hq0 with⟨rfl,-⟩ |⟨rfl,-⟩<;>rcases hSW with⟨rfl,rfl⟩ |⟨k0,x,rfl,rfl⟩<;>obtain⟨k1,x1,rfl,rfl⟩:=hO<;>simp only[jI,↓reduceIte,jB,Nat.reduceAdd,zVK,zVG,rdG,rdA,rdB,jC,zox,zh,zi,zf,zG,zJY,own,zJZ,jh,jf,jg]at g<;>simp (maxSteps:=1000000) [zHZ,zVK,zVG,rdG,rdA,rdB,jC,zox,zh,zi,zf,zG,zJY,own,g,zg,zH,List.range,List.range.loop]
 |some y =>
  obtain⟨at',why⟩:=y;obtain⟨gv',u',w',NW',SW',kv',kk,X,E,hO,⟨q1,q2,q3,q4,hO⟩,g⟩:=g;refine⟨gv',u',w',NW',SW',kv',kk,hO,⟨by omega,by omega,by omega,fun e=>q4.elim (fun q=>q.2) fun q=>by omega⟩,?_⟩;clear q1 q2 q3 q4;rw[zUa zKl rfl];rcases hq0 with⟨rfl,-⟩ |⟨rfl,-⟩<;>rcases hSW with⟨rfl,rfl⟩ |⟨k0,x,rfl,rfl⟩<;>obtain⟨k1,x1,rfl,rfl⟩:=hO<;>simp only[jI,↓reduceIte,jB,Nat.reduceAdd,zVK,zVG,rdG,rdA,rdB,jC,zox,zh,zi,zf,zG,zJY,own,zJZ,jh,jf,jg]at g<;>simp (maxSteps:=1000000) [zHZ,zVK,zVG,rdG,rdA,rdB,jC,zox,zh,zi,zf,zG,zJY,own,g,zg,zH,List.range,List.range.loop]
theorem zN8{m:zD}{zs:List Zon}{ss:List Sgn}(hF:zKj m zs ss){r:List Int}(hr:zdA m r=0)(len:Int)(ps:List Pss)(vs:List Vis)(signals:Bool):∀(t:List Int) (i:Nat) (k:zci),KJ m k->KJ m (zKr m zs ss r len ps vs signals t i k).2:=by
 have hf:=hF.full;have h:=hf.qF;obtain⟨hon,hne,hl8⟩:=zg1 h hr;have hEb:=zFu h r hl8 hon;intro t;induction t with
 |nil=>intro i k hk;exact hk
 |cons a t ih =>
  intro i k hk;unfold zKr;split
  ·rename_i c;exact ih _ _ (zNm hf hr len signals hk a (by have:=zNe c;omega))
  ·exact hk
def zLH(len:Int)(vs:List Vis)(jM:List Int)(V:Option (Nat×Int)×zci):Bool×Int×Int:=match V.1 with
 |none=>if zLQ len vs V.2 then(true,0,0) else(false,jM.length,7)
 |some (at',why)=>(false,at',why)
def zJ4(x:Bool×Int×Int):List Cl:=zJY x.1 x.2.1 x.2.2
def zMo(WAS:List Cl):Prop:=WAS=zox\/∃k0,WAS=zG k0
theorem zVS{m:zD}{zs:List Zon}{ss:List Sgn}(hF:zKj m zs ss){r:List Int}(hr:zdA m r=0)(len:Int)(hlen:0<=len/\len<=20000)(ps:List Pss)(hp:ps.length<=1000)(vs:List Vis)(qq:Nat)(hq0:qq=0/\vs=[]\/qq=1/\vs≠[])(hvl:vs.length<=100)(hvo:∀v∈vs,zKN zs v)(signals:Bool)(jM:List Int)(hin:∀a∈jM,zk0 a)(hal:jM.length<=500)(u:Nat)(k:zci)(WAS NW:List Cl)(SW:Cl)(hk:KJ m k)(ht:0<=k.tick/\k.tick<=1099511627776)(hW:zMo WAS)(hSW:zKq NW SW)(hne0:jM≠[]) :
  ∃u' NW' SW',zKq NW' SW'/\u'≠u/\R L Cs zKM [J0,.a (zG k),.a [.jb (zu jM)],Bo signals] (jmG qq m r len ps vs u WAS NW SW) =
   some (.w (.a (zJ4 (zLH len vs jM (zKr m zs ss r len ps vs signals jM 0 k)))),jmG qq m r len ps vs u' (zG (zKr m zs ss r len ps vs signals jM 0 k).2) NW' SW'):=by
 obtain⟨gv',u',w',NW',SW',kv',kk,hO,⟨q1,q20,q3,q4⟩,g⟩:=zVT hF hr len hlen ps hp vs qq hq0 hvl hvo signals jM hin hal (u+1) k NW SW hk ht hSW hne0;have hA:=zVV m r len ps vs qq hq0 (u+1) k k NW SW hSW jM signals;have hkf:=zN8 hF hr len ps vs signals jM 0 k hk;have hST:=zNF m r len (by omega) ps vs hvl u' (zKr m zs ss r len ps vs signals jM 0 k).2 NW' SW' (.inr hO) (by have:=hkf.ego.s;omega);have q6:(kv'=0/\kk=k)\/¬kv'=0:=(Classical.em (kv'=0)).imp (fun e=>⟨e,q4 e⟩) id;have hne:¬(zJ0=zJ8):=by decide
 have q2:u'≠u+1:=by omega
 refine⟨u',NW',SW',.inr hO,by omega,?_⟩;clear hkf;generalize zKr m zs ss r len ps vs signals jM 0 k=V at *;obtain⟨V1,kf⟩:=V;rw[zUa zKO rfl];cases V1 with
 |none =>
  rw[zJ3,zVW hq0]at hST;cases hq:zLQ len vs kf with
  |true =>
   rw[hq]at hST;rcases hq0 with⟨rfl,-⟩ |⟨rfl,-⟩<;>rcases hW with rfl |⟨kw,rfl⟩<;>rcases hSW with⟨rfl,rfl⟩ |⟨k0,x,rfl,rfl⟩<;>obtain⟨k1,x1,rfl,rfl⟩:=hO<;>rcases q6 with⟨c4,rfl⟩|c4<;>simp only[jI,↓reduceIte,jB,Nat.reduceAdd,rdG,rdA,rdB,jC,zox,zh,zi,zf,zG,zJY,own,zJZ,jh,jf,jg,jmG,jmA,jmB,zVG,rsh]at g hA hST<;>simp (maxSteps:=1000000) [zH2,jmG,jmA,jmB,zVG,rdG,rdA,rdB,jC,zox,zh,zi,zf,zG,zJY,own,zJ4,zLH,zNb,zeN,ghost,znr,zsR,Eng.ki,hne,zg,zH,List.range,List.range.loop,rsh,g,q1,q2,q3,c4,hA,hq,hST]
  |false =>
   rw[hq]at hST;rcases hq0 with⟨rfl,-⟩ |⟨rfl,-⟩<;>rcases hW with rfl |⟨kw,rfl⟩<;>rcases hSW with⟨rfl,rfl⟩ |⟨k0,x,rfl,rfl⟩<;>obtain⟨k1,x1,rfl,rfl⟩:=hO<;>rcases q6 with⟨c4,rfl⟩|c4<;>simp only[jI,↓reduceIte,jB,Nat.reduceAdd,rdG,rdA,rdB,jC,zox,zh,zi,zf,zG,zJY,own,zJZ,jh,jf,jg,jmG,jmA,jmB,zVG,rsh]at g hA hST<;>simp (maxSteps:=1000000) [zH2,jmG,jmA,jmB,zVG,rdG,rdA,rdB,jC,zox,zh,zi,zf,zG,zJY,own,zJ4,zLH,zNb,zeN,ghost,znr,zsR,Eng.ki,hne,zg,zH,List.range,List.range.loop,rsh,g,q1,q2,q3,c4,hA,hq,hST]
 |some y =>
  obtain⟨at',why⟩:=y;clear hST;rcases hq0 with⟨rfl,-⟩ |⟨rfl,-⟩<;>rcases hW with rfl |⟨kw,rfl⟩<;>rcases hSW with⟨rfl,rfl⟩ |⟨k0,x,rfl,rfl⟩<;>obtain⟨k1,x1,rfl,rfl⟩:=hO<;>rcases q6 with⟨c4,rfl⟩|c4<;>simp only[jI,↓reduceIte,jB,Nat.reduceAdd,rdG,rdA,rdB,jC,zox,zh,zi,zf,zG,zJY,own,zJZ,jh,jf,jg,jmG,jmA,jmB,zVG,rsh]at g hA<;>simp (maxSteps:=1000000) [zH2,jmG,jmA,jmB,zVG,rdG,rdA,rdB,jC,zox,zh,zi,zf,zG,zJY,own,zJ4,zLH,zNb,zeN,ghost,znr,zsR,Eng.ki,hne,zg,zH,List.range,List.range.loop,rsh,g,q1,q2,q3,c4,hA]
abbrev zVM(qq:Nat)(jM:List Int)(i:Nat):Env:=[(13,.w (W i)),(12,.w (W jM.length)),(11,.w (.c (.jb (zu jM)))),(4,.w (Pt (qq+1))),(0,.w J0)]
abbrev zVI(qq:Nat)(m:zD)(r:List Int)(len:Int)(ps:List Pss)(vs:List Vis)(u:Nat)(was NW:List Cl)(SW:Cl)(v:Nat)(k:zci)(jM:List Int):Mem:=jmG qq m r len ps vs u was NW SW++[bxv v 6 (zG k),bx 1 [.jb (zu jM)]]
theorem zVO{m:zD}(h:zcp m){r:List Int}(hr:zdA m r=0)(len:Int)(ps:List Pss)(vs:List Vis)(qq:Nat)(hq0:qq=0/\vs=[]\/qq=1/\vs≠[])(u:Nat)(was:zci)(NW:List Cl)(SW:Cl)(hSW:zKq NW SW)(jM:List Int)(hin:∀a∈jM,zk0 a)(hal:jM.length<=500)(bs:List zk):∀(t:List Int) (i v:Nat) (tk:Int) (e:Ego),jM.drop i=t->i<=jM.length->znd e->0<=tk/\tk<=1099511627776 ->
  (fbF m r t tk e=none->∃v' k' E T,(T=[]\/∃e2,T=[bxv 1 4 (zch e2)])/\Y L Cs zIC (some [13,12,11,4,0]) (qq+3) (zVM qq jM i) (zVI qq m r len ps vs u (zG was) NW SW v ⟨tk,bs,e⟩ jM)=some (.exit 0,E,zVI qq m r len ps vs u (zG was) NW SW v' k' jM++T)) /\
  (fbF m r t tk e≠none->∃v' k' e2,Y L Cs zIC (some [13,12,11,4,0]) (qq+3) (zVM qq jM i) (zVI qq m r len ps vs u (zG was) NW SW v ⟨tk,bs,e⟩ jM)=some (.ret,[(6,.w (Bo false))],zVI qq m r len ps vs u (zG was) NW SW v' k' jM++[bxv 1 4 (zch e2)])):=by
 obtain⟨hon,hne,hl8⟩:=zg1 h hr;have hEb:=zFu h r hl8 hon;intro t;induction t with
 |nil =>
  intro i v tk e hd hi he ht;obtain rfl:=zUb hd hi;refine⟨fun _=>⟨v,⟨tk,bs,e⟩,[(14,.w (Bo false)),(13,.w (W jM.length)),(12,.w (W jM.length)),(11,.w (.c (.jb (zu jM)))),(4,.w (Pt (qq+1))),(0,.w J0)],[],.inl rfl,?_⟩,fun hq=>absurd rfl hq⟩;rw[zj zIC.eq_1];simp
 |cons a t ih =>
  intro i v tk e hd hi he ht;obtain⟨hil,ha,hd'⟩:=zL hd;have hw:=zB (i:=i) (by omega);have hD:R L Cs zgW [.a (zh m r len),.a (zch e),W a] []=some (.w (.a (zch (zaN m r e a))),[]):=by
   obtain⟨x0,r',rfl⟩:∃x r',r=x::r':=by cases r with|nil=>exact absurd rfl hne|cons x r'=>exact⟨x,r',rfl⟩
   exact zvQ h x0 r' len (hon x0 (jr ..)) e he a (hin a (by rw[<-ha];exact je hil))
  have hd2:=zLs h hr he a;unfold fbF;have w2:tk<1099511627776->IntKind.i64.wrap (tk+1)=tk+1:=fun q=>zTd _ (by omega) (by omega)
  by_cases c:zV2 m r tk e a
  ·rw[if_pos c];refine⟨fun q=>(by cases q),fun _=>?_⟩;clear ih;unfold zV2 at c;generalize zaN m r e a=x at *;refine⟨v,⟨tk,bs,e⟩,x,?_⟩;by_cases c1:1099511627776<=tk
   ·rw[zj zIC.eq_1];rcases hq0 with⟨rfl,-⟩ |⟨rfl,-⟩<;>rcases hSW with⟨rfl,rfl⟩ |⟨k0,y,rfl,rfl⟩<;>simp only[jI,↓reduceIte,jB,Nat.reduceAdd,zh,zi,zf,zch,jh,jf]at hD<;>simp (maxSteps:=1000000) [zVM,zVI,jmG,jmA,jmB,jC,zox,zh,zi,zf,zG,own,zch,hil,ha,hw,hD,c1,zg,zH]
   ·have c2:1099511627776<x.shi:=c.resolve_left c1;rw[zj zIC.eq_1];rcases hq0 with⟨rfl,-⟩ |⟨rfl,-⟩<;>rcases hSW with⟨rfl,rfl⟩ |⟨k0,y,rfl,rfl⟩<;>simp only[jI,↓reduceIte,jB,Nat.reduceAdd,zh,zi,zf,zch,jh,jf]at hD<;>simp (maxSteps:=1000000) [zVM,zVI,jmG,jmA,jmB,jC,zox,zh,zi,zf,zG,own,zch,hil,ha,hw,hD,c1,c2,zg,zH]
  ·rw[if_neg c];unfold zV2 at c;have c1:¬1099511627776<=tk:=fun q=>c (.inl q)
   have c2:¬1099511627776<(zaN m r e a).shi:=fun q=>c (.inr q)
   by_cases d:zmd m 0 r<(zaN m r e a).shi
   ·rw[if_pos d];refine⟨fun _=>?_,fun q=>absurd rfl q⟩;clear ih;generalize zaN m r e a=x at *;refine⟨v,⟨tk,bs,e⟩,[(40,.w (Bo true)),(0,.w J0),(4,.w (Pt (qq+1))),(11,.w (.c (.jb (zu jM)))),(12,.w (W jM.length)),(13,.w (W i)),(9,.w (Pt (qq+3)))],[bxv 1 4 (zch x)],.inr ⟨x,rfl⟩,?_⟩;rw[zj zIC.eq_1];rcases hq0 with⟨rfl,-⟩ |⟨rfl,-⟩<;>rcases hSW with⟨rfl,rfl⟩ |⟨k0,y,rfl,rfl⟩<;>simp only[jI,↓reduceIte,jB,Nat.reduceAdd,zh,zi,zf,zch,jh,jf]at hD<;>simp (maxSteps:=1000000) [zVM,zVI,jmG,jmA,jmB,jC,zox,zh,zi,zf,zG,own,zch,hil,ha,hw,hD,c1,c2,d,zg,zH]
   ·rw[if_neg d];obtain⟨i1,i2⟩:=ih (i+1) (v+1+1) (tk+1) (zaN m r e a) hd' hil ⟨⟨hd2.1,hd2.2.1,by omega⟩,⟨hd2.2.2.2.1,hd2.2.2.2.2.1,hd2.2.2.2.2.2⟩⟩ (by omega);have step:Y L Cs zIC (some [13,12,11,4,0]) (qq+3) (zVM qq jM i) (zVI qq m r len ps vs u (zG was) NW SW v ⟨tk,bs,e⟩ jM)=Y L Cs zIC (some [13,12,11,4,0]) (qq+3) (zVM qq jM (i+1)) (zVI qq m r len ps vs u (zG was) NW SW (v+1+1) ⟨tk+1,bs,zaN m r e a⟩ jM):=by
     clear ih i1 i2;have w3:=w2 (by omega);generalize zaN m r e a=x at *;rw[zj zIC.eq_1];rcases hq0 with⟨rfl,-⟩ |⟨rfl,-⟩<;>rcases hSW with⟨rfl,rfl⟩ |⟨k0,y,rfl,rfl⟩<;>simp only[jI,↓reduceIte,jB,Nat.reduceAdd,zh,zi,zf,zch,jh,jf]at hD<;>simp (maxSteps:=1000000) [zVM,zVI,jmG,jmA,jmB,jC,zox,zh,zi,zf,zG,own,zch,hil,ha,hw,hD,c1,c2,d,w3,zg,zH]
    rw[step];cases hq:fbF m r t (tk+1) (zaN m r e a)with
    |none=>exact⟨fun _=>i1 hq,fun q=>absurd rfl q⟩
    |some b=>exact⟨fun q=>(by cases q),fun _=>i2 (by rw[hq];simp)⟩
theorem zVL{m:zD}(h:zcp m){r:List Int}(hr:zdA m r=0)(len:Int)(ps:List Pss)(vs:List Vis)(qq:Nat)(hq0:qq=0/\vs=[]\/qq=1/\vs≠[])(u:Nat)(was:zci)(NW:List Cl)(SW:Cl)(hSW:zKq NW SW)(jM:List Int)(hin:∀a∈jM,zk0 a)(hal:jM.length<=500)(k:zci)(he:znd k.ego)(ht:0<=k.tick/\k.tick<=1099511627776) :
  R L Cs zLY [J0,.a (zG k),.a [.jb (zu jM)]] (jmG qq m r len ps vs u (zG was) NW SW)=some (.w (Bo (fbF m r jM k.tick k.ego).isNone),jmG qq m r len ps vs u (zG was) NW SW):=by
 obtain⟨g1,g2⟩:=zVO h hr len ps vs qq hq0 u was NW SW hSW jM hin hal k.j8 jM 0 0 k.tick k.ego rfl (jt _) he ht;rw[zUa zL1 rfl];cases hq:fbF m r jM k.tick k.ego with
 |none =>
  obtain⟨v',k',E,T,hT,g⟩:=g1 hq;clear g1 g2;rcases hq0 with⟨rfl,-⟩ |⟨rfl,-⟩<;>rcases hSW with⟨rfl,rfl⟩ |⟨k0,y,rfl,rfl⟩<;>rcases hT with rfl |⟨e2,rfl⟩<;>simp only[jI,↓reduceIte,jB,Nat.reduceAdd,zVM,zVI,jmG,jmA,jmB,jC,zox,zh,zi,zf,zG,own,zch,zJZ,jh,jf,kT,jg]at g<;>simp (maxSteps:=1000000) [zIU,jmG,jmA,jmB,jC,zox,zh,zi,zf,zG,own,zch,g,zg,zH]
 |some b =>
  obtain⟨v',k',e2,g⟩:=g2 (by rw[hq];simp);clear g1 g2;rcases hq0 with⟨rfl,-⟩ |⟨rfl,-⟩<;>rcases hSW with⟨rfl,rfl⟩ |⟨k0,y,rfl,rfl⟩<;>simp only[jI,↓reduceIte,jB,Nat.reduceAdd,zVM,zVI,jmG,jmA,jmB,jC,zox,zh,zi,zf,zG,own,zch,zJZ,jh,jf,kT,jg]at g<;>simp (maxSteps:=1000000) [zIU,jmG,jmA,jmB,jC,zox,zh,zi,zf,zG,own,zch,g,zg,zH]
abbrev zVN(qq:Nat)(jM:List Int)(i:Nat):Env:=[(24,.w (W i)),(23,.w (W jM.length)),(5,.w (Pt (qq+1))),(6,.w (Pt (qq+2))),(0,.w J0),(9,.w (Pt (qq+4))),(8,.w (Pt (qq+3)))]
abbrev zVJ(qq:Nat)(m:zD)(r:List Int)(len:Int)(ps:List Pss)(vs:List Vis)(u:Nat)(was NW:List Cl)(SW:Cl)(k:zci)(jM:List Int)(v:Nat)(y:Bool×Int×Int)(x:Bool×Int×Int):Mem:=jmG qq m r len ps vs u was NW SW++[bx 6 (zG k),bx 1 [.jb (zu jM)],bxv v 3 (zJ4 y),bxv 1 3 (zJ4 x)]
theorem zVP{m:zD}(h:zcp m){r:List Int}(hr:zdA m r=0)(len:Int)(ps:List Pss)(vs:List Vis)(qq:Nat)(hq0:qq=0/\vs=[]\/qq=1/\vs≠[])(u:Nat)(was:zci)(NW:List Cl)(SW:Cl)(hSW:zKq NW SW)(jM:List Int)(hin:∀a∈jM,zk0 a)(hal:jM.length<=500)(k:zci)(he:znd k.ego)(ht:0<=k.tick/\k.tick<=1099511627776)(x:Bool×Int×Int)(b:Nat)(hb:fbF m r jM k.tick k.ego=some b):∀(f i:Nat),i+f=b ->
  Y L Cs zHK (some [24,23,5,6,0,9,8]) (qq+5) (zVN qq jM i) (zVJ qq m r len ps vs u (zG was) NW SW k jM 0 (false,0,0) x)=some (.ret,[(8,.w (Pt (qq+3)))],zVJ qq m r len ps vs u (zG was) NW SW k jM 1 (zKX x (some b)) x):=by
 have hbl:=zO8 m r jM _ _ b hb;obtain⟨x1,x2,x3⟩:=x;intro f;induction f with
 |zero =>
  intro i hi;obtain rfl:i=b:=by omega
  have hw:=zB (i:=i) (by omega);have hil:(i:Int)<jM.length:=by omega
  have e1:(0:Int)<=(i:Int)+1:=by omega
  have e2:(i:Int)+1<=jM.length:=by omega
  have e3:i+1<=jM.length:=by omega
  have hS:=zVL h hr len ps vs qq hq0 u was NW SW hSW (jM.take (i+1)) (fun y hy=>hin y (qe hy)) (by simp;omega) k he ht;rw[zLX,hb]at hS;simp only[jI,↓reduceIte,jB,Nat.reduceAdd,qL,Nat.lt_succ_self,if_true,Option.isNone_some]at hS;rw[show zu (jM.take (i+1))=(zu jM).take (i+1) from by simp[zu,yF]]at hS;unfold zKX;rw[zj zHK.eq_1];by_cases c1:0<x2
  ·by_cases c2:x2<=(i:Int)
   ·by_cases c3:x3=7
    ·have cb:(x3 !=7)=false:=by simp[c3]
     have cb2:(x3==7)=true:=by simp[c3]
     rcases hq0 with⟨rfl,-⟩ |⟨rfl,-⟩<;>rcases hSW with⟨rfl,rfl⟩ |⟨k0,z,rfl,rfl⟩<;>simp only[jI,↓reduceIte,jB,Nat.reduceAdd,jmG,jmA,jmB,jC,zox,zh,zi,zf,zG,own,zJY,zJ4,zJZ,jh,jf]at hS<;>simp (maxSteps:=1000000) [zVN,zVJ,jmG,jmA,jmB,jC,zox,zh,zi,zf,zG,own,zJY,zJ4,hil,hbl,hw,e1,e2,e3,hS,c1,c2,c3,cb,cb2,zg,zH]
    ·have cb:(x3 !=7)=true:=by simp[c3]
     have cb2:(x3==7)=false:=by simp[c3]
     rcases hq0 with⟨rfl,-⟩ |⟨rfl,-⟩<;>rcases hSW with⟨rfl,rfl⟩ |⟨k0,z,rfl,rfl⟩<;>simp only[jI,↓reduceIte,jB,Nat.reduceAdd,jmG,jmA,jmB,jC,zox,zh,zi,zf,zG,own,zJY,zJ4,zJZ,jh,jf]at hS<;>simp (maxSteps:=1000000) [zVN,zVJ,jmG,jmA,jmB,jC,zox,zh,zi,zf,zG,own,zJY,zJ4,hil,hbl,hw,e1,e2,e3,hS,c1,c2,c3,cb,cb2,zg,zH]
   ·rcases hq0 with⟨rfl,-⟩ |⟨rfl,-⟩<;>rcases hSW with⟨rfl,rfl⟩ |⟨k0,z,rfl,rfl⟩<;>simp only[jI,↓reduceIte,jB,Nat.reduceAdd,jmG,jmA,jmB,jC,zox,zh,zi,zf,zG,own,zJY,zJ4,zJZ,jh,jf]at hS<;>simp (maxSteps:=1000000) [zVN,zVJ,jmG,jmA,jmB,jC,zox,zh,zi,zf,zG,own,zJY,zJ4,hil,hbl,hw,e1,e2,e3,hS,c1,c2,zg,zH]
  ·rcases hq0 with⟨rfl,-⟩ |⟨rfl,-⟩<;>rcases hSW with⟨rfl,rfl⟩ |⟨k0,z,rfl,rfl⟩<;>simp only[jI,↓reduceIte,jB,Nat.reduceAdd,jmG,jmA,jmB,jC,zox,zh,zi,zf,zG,own,zJY,zJ4,zJZ,jh,jf]at hS<;>simp (maxSteps:=1000000) [zVN,zVJ,jmG,jmA,jmB,jC,zox,zh,zi,zf,zG,own,zJY,zJ4,hil,hbl,hw,e1,e2,e3,hS,c1,zg,zH]
 |succ f ih =>
  intro i hi;have hw:=zB (i:=i) (by omega);have hil:(i:Int)<jM.length:=by omega
  have e1:(0:Int)<=(i:Int)+1:=by omega
  have e2:(i:Int)+1<=jM.length:=by omega
  have e3:i+1<=jM.length:=by omega
  have AA:i<jM.length:=by omega
  have hS:=zVL h hr len ps vs qq hq0 u was NW SW hSW (jM.take (i+1)) (fun y hy=>hin y (qe hy)) (by simp;omega) k he ht;rw[zLX,hb]at hS;simp only[jI,↓reduceIte,jB,Nat.reduceAdd,qL,show ¬b<i+1 by omega,if_false,Option.isNone_none]at hS;rw[show zu (jM.take (i+1))=(zu jM).take (i+1) from by simp[zu,yF]]at hS;have ih':=ih (i+1) (by omega);clear ih;by_cases cc:0<x2/\x2<=i/\x3≠7
  ·obtain⟨c1,c2,c3⟩:=cc;clear ih';rw[show zKX (x1,x2,x3) (some b)=(x1,x2,x3) from by rw[zKX,if_pos ⟨c1,by show x2<=b;omega,c3⟩]];have cb:(x3 !=7)=true:=by simp[c3]
   have cb2:(x3==7)=false:=by simp[c3]
   rw[zj zHK.eq_1];rcases hq0 with⟨rfl,-⟩ |⟨rfl,-⟩<;>rcases hSW with⟨rfl,rfl⟩ |⟨k0,z,rfl,rfl⟩<;>simp only[jI,↓reduceIte,jB,Nat.reduceAdd,jmG,jmA,jmB,jC,zox,zh,zi,zf,zG,own,zJY,zJ4,zJZ,jh,jf]at hS<;>simp (maxSteps:=1000000) [zVN,zVJ,jmG,jmA,jmB,jC,zox,zh,zi,zf,zG,own,zJY,zJ4,hil,AA,hw,e1,e2,e3,hS,c1,c2,c3,cb,cb2,zg,zH]
  ·rw[<-ih'];clear ih';rw[zj zHK.eq_1];by_cases c1:0<x2
   ·by_cases c2:x2<=(i:Int)
    ·have c3:x3=7:=yD.1 fun q=>cc ⟨c1,c2,q⟩
     have cb:(x3 !=7)=false:=by simp[c3]
     have cb2:(x3==7)=true:=by simp[c3]
     rcases hq0 with⟨rfl,-⟩ |⟨rfl,-⟩<;>rcases hSW with⟨rfl,rfl⟩ |⟨k0,z,rfl,rfl⟩<;>simp only[jI,↓reduceIte,jB,Nat.reduceAdd,jmG,jmA,jmB,jC,zox,zh,zi,zf,zG,own,zJY,zJ4,zJZ,jh,jf]at hS<;>simp (maxSteps:=1000000) [zVN,zVJ,jmG,jmA,jmB,jC,zox,zh,zi,zf,zG,own,zJY,zJ4,hil,AA,hw,e1,e2,e3,hS,c1,c2,c3,cb,cb2,zg,zH]
    ·rcases hq0 with⟨rfl,-⟩ |⟨rfl,-⟩<;>rcases hSW with⟨rfl,rfl⟩ |⟨k0,z,rfl,rfl⟩<;>simp only[jI,↓reduceIte,jB,Nat.reduceAdd,jmG,jmA,jmB,jC,zox,zh,zi,zf,zG,own,zJY,zJ4,zJZ,jh,jf]at hS<;>simp (maxSteps:=1000000) [zVN,zVJ,jmG,jmA,jmB,jC,zox,zh,zi,zf,zG,own,zJY,zJ4,hil,AA,hw,e1,e2,e3,hS,c1,c2,zg,zH]
   ·rcases hq0 with⟨rfl,-⟩ |⟨rfl,-⟩<;>rcases hSW with⟨rfl,rfl⟩ |⟨k0,z,rfl,rfl⟩<;>simp only[jI,↓reduceIte,jB,Nat.reduceAdd,jmG,jmA,jmB,jC,zox,zh,zi,zf,zG,own,zJY,zJ4,zJZ,jh,jf]at hS<;>simp (maxSteps:=1000000) [zVN,zVJ,jmG,jmA,jmB,jC,zox,zh,zi,zf,zG,own,zJY,zJ4,hil,AA,hw,e1,e2,e3,hS,c1,zg,zH]
theorem zVQ{m:zD}{zs:List Zon}{ss:List Sgn}(hF:zKj m zs ss){r:List Int}(hr:zdA m r=0)(len:Int)(hlen:0<=len/\len<=20000)(ps:List Pss)(hp:ps.length<=1000)(vs:List Vis)(qq:Nat)(hq0:qq=0/\vs=[]\/qq=1/\vs≠[])(hvl:vs.length<=100)(hvo:∀v∈vs,zKN zs v)(signals:Bool)(jM:List Int)(hin:∀a∈jM,zk0 a)(hal:jM.length<=500)(u:Nat)(k:zci)(WAS NW:List Cl)(SW:Cl)(hk:KJ m k)(ht:0<=k.tick/\k.tick<=1099511627776)(hW:zMo WAS)(hSW:zKq NW SW)(hne0:jM≠[]) :
  ∃u' BM NW' SW',zMo BM/\zKq NW' SW'/\u'≠u/\R L Cs zKv [J0,.a (zG k),.a [.jb (zu jM)],Bo signals] (jmG qq m r len ps vs u WAS NW SW) =
   some (.w (.a (zJ4 (zKX (zLH len vs jM (zKr m zs ss r len ps vs signals jM 0 k)) (fbF m r jM k.tick k.ego)))),jmG qq m r len ps vs u' BM NW' SW'):=by
 obtain⟨u',NW',SW',hO,hu,hV⟩:=zVS hF hr len hlen ps hp vs qq hq0 hvl hvo signals jM hin hal u k WAS NW SW hk ht hW hSW hne0;have hS:=zVL hF.full.qF hr len ps vs qq hq0 u' (zKr m zs ss r len ps vs signals jM 0 k).2 NW' SW' hO jM hin hal k hk.ego ht;have hL:=zVP hF.full.qF hr len ps vs qq hq0 u' (zKr m zs ss r len ps vs signals jM 0 k).2 NW' SW' hO jM hin hal k hk.ego ht (zLH len vs jM (zKr m zs ss r len ps vs signals jM 0 k));refine⟨u',_,NW',SW',.inr ⟨(zKr m zs ss r len ps vs signals jM 0 k).2,rfl⟩,hO,hu,?_⟩;generalize zLH len vs jM (zKr m zs ss r len ps vs signals jM 0 k)=x at *;generalize (zKr m zs ss r len ps vs signals jM 0 k).2=kf at *;rw[zUa zKI rfl];cases hq:fbF m r jM k.tick k.ego with
 |none =>
  rw[hq]at hS;clear hL;rcases hq0 with⟨rfl,-⟩ |⟨rfl,-⟩<;>rcases hW with rfl |⟨kw,rfl⟩<;>rcases hSW with⟨rfl,rfl⟩ |⟨k0,y,rfl,rfl⟩<;>rcases hO with⟨rfl,rfl⟩ |⟨k1,y1,rfl,rfl⟩<;>simp only[jI,↓reduceIte,jB,Nat.reduceAdd,jmG,jmA,jmB,jC,zox,zh,zi,zf,zG,own,zJY,zJ4,zJZ,jh,jf,Option.isNone_none]at hS hV<;>simp (maxSteps:=1000000) [zHW,zKX,jmG,jmA,jmB,jC,zox,zh,zi,zf,zG,own,zJY,zJ4,hS,hV,hu,zg,zH]
 |some b =>
  rw[hq]at hS;have hL':=hL b hq b 0 (by omega);clear hL;generalize zKX x (some b)=y2 at *;rcases hq0 with⟨rfl,-⟩ |⟨rfl,-⟩<;>rcases hW with rfl |⟨kw,rfl⟩<;>rcases hSW with⟨rfl,rfl⟩ |⟨k0,y,rfl,rfl⟩<;>rcases hO with⟨rfl,rfl⟩ |⟨k1,y1,rfl,rfl⟩<;>simp only[jI,↓reduceIte,jB,Nat.reduceAdd,jmG,jmA,jmB,jC,zox,zh,zi,zf,zG,own,zJY,zJ4,zVN,zVJ,zJZ,jh,jf,Option.isNone_some,jg]at hS hV hL'<;>simp (maxSteps:=1000000) [zHW,jmG,jmA,jmB,jC,zox,zh,zi,zf,zG,own,zJY,zJ4,hS,hV,hL',hu,zg,zH]
abbrev zK8:=Go.PlanLaw.Car
def zKW(m:zD)(r:List Int)(c:zK8)(k:zci):Bool:=decide (zdA m r=0)&&decide (zaK m (r.headD 0)=1)&&decide (Pl.yS c=0)&&decide (zdf m k=0)
theorem zPi{m:zD}{zs:List Zon}{ss:List Sgn}(hF:zKj m zs ss)(r:List Int)(hl:r.length<=1000)(c:zK8)(k:zci)(hk:k.j8.length<=100000000000) :
  R L Cs zNB [.a (zf m),.c (.jb (zu r)),.a (Pl.jH c),.a (zG k)] []=some (.w (Bo (zKW m r c k)),[]):=by
 have h:=hF.full.qF;have h1:=zQC h hF.fit.1;have h2:=zos m h.small h.chk r hl;have h3:=Pl.yl c;have h4:=zuu h k hk;unfold zKW;by_cases hr:zdA m r=0
 ·obtain⟨hon,hne,hl8⟩:=zg1 h hr;obtain⟨x0,r',rfl⟩:∃x r',r=x::r':=by cases r with|nil=>exact absurd rfl hne|cons x r'=>exact⟨x,r',rfl⟩
  have hx0:=hon x0 (jr ..);obtain⟨n,rfl⟩:=js hx0.1;have hn:n<m.jc.length:=by omega
  have hni:(n:Int)<m.jc.length:=by omega
  have ek:zaK m n=m.jc[n].kind:=by simp[zaK,hn]
  have e0:((n:Int)::r').headD 0=n:=rfl;rw[hr]at h2;rw[e0,ek];generalize hcv:Pl.yS c=cv at *;generalize hkv:zdf m k=kv at *;have w1:IntKind.i64.wrap 1=1:=rfl;have w0:IntKind.i64.wrap 0=0:=rfl;simp only[zf,zG,Pl.jH,zaP]at h1 h2 h3 h4;rw[zUa zMf rfl];rw[show decide (zdA m ((n:Int)::r')=0)=true from by simp[hr],uO];by_cases c1:m.jc[n].kind=1
  ·have b1:(m.jc[n].kind==1)=true:=by simp[c1]
   by_cases c2:cv=0
   ·have b2:(cv==0)=true:=by simp[c2]
    by_cases c3:kv=0
    ·have b3:(kv==0)=true:=by simp[c3]
     simp (maxSteps:=1000000) [zIW,zf,zG,Pl.jH,zo,h1,h2,h3,h4,hn,hni,c1,b1,c2,b2,c3,b3,zg,zH]
    ·have b3:(kv==0)=false:=by simp[c3]
     simp (maxSteps:=1000000) [zIW,zf,zG,Pl.jH,zo,h1,h2,h3,h4,hn,hni,c1,b1,c2,b2,c3,b3,zg,zH]
   ·have b2:(cv==0)=false:=by simp[c2]
    simp (maxSteps:=1000000) [zIW,zf,zG,Pl.jH,zo,h1,h2,h3,h4,hn,hni,c1,b1,c2,b2,zg,zH]
  ·have b1:(m.jc[n].kind==1)=false:=by simp[c1]
   simp (maxSteps:=1000000) [zIW,zf,zG,Pl.jH,zo,h1,h2,h3,h4,hn,hni,c1,b1,zg,zH]
 ·have hb:(zdA m r==0)=false:=by simp[hr]
  simp only[zf]at h1 h2;rw[zUa zMf rfl];generalize zdA m r=rv at *;simp[zIW,zf,zG,Pl.jH,h1,h2,hr,hb,zg,zH]
def zPn(zs:List Zon)(p:Pss):Prop:=(0<=p.kD/\p.kD<zs.length)/\0<=p.part/\p.part<(zMh zs p.kD).length
theorem zOf(st:Int)(z:Nat)(x:Int):∀(l:List Prt) (k:Nat) (p:Pss),p∈zLB st z x k l->p.kD=z/\(k:Int)<=p.part/\p.part<k+l.length
 |[],k,p,h=>by cases h
 |q::l,k,p,h=>by
  have ih:=zOf st z x l (k+1) p;unfold zLB at h;split at h
  ·rcases jy.1 h with rfl|h'
   ·simp only[jk];exact⟨trivial,by omega,by omega⟩
   ·have:=ih h';simp only[jk];omega
  ·have:=ih h;simp only[jk];omega
theorem zOe(st x:Int)(zs:List Zon):∀(l:List Zon) (z:Nat) (p:Pss),zs.drop z=l->p∈zLA st x z l->zPn zs p
 |[],z,p,_,h=>by cases h
 |q::l,z,p,hd,h=>by
  obtain⟨hz,hq,hd'⟩:=zL hd;unfold zLA at h;rcases jD.1 h with h'|h'
  ·have:=zOf st z x q.parts 0 p h';have e:zMh zs p.kD=q.parts:=by rw[this.1];simp[zMh,hz,hq]
   exact⟨by omega,by omega,by rw[e];omega⟩
  ·exact zOe st x zs l (z+1) p hd' h'
theorem zNh(m:zD)(zs:List Zon):∀(r:List Int) (a:Int) (p:Pss),p∈zKh m zs a r->zPn zs p
 |[],a,p,h=>by cases h
 |x::r,a,p,h=>by
  unfold zKh at h;rcases jD.1 h with h'|h'
  ·exact zOe a x zs zs 0 p rfl h'
  ·exact zNh m zs r _ p h'
def zLV(z:Int):List Pss->Pss×Pss×Bool->Pss×Pss×Bool
 |[],v=>v
 |p::t,v=>zLV z t (if p.kD=z then(if v.2.2 then v.1 else p,p,true) else v)
def zNx(ps:List Pss)(z:Int):Pss×Pss×Bool:=zLV z ps (zKw,zKw,false)
theorem zPq(z:Int):∀(t:List Pss) (v:Vis) (w:Pss×Pss×Bool),(∀p∈t,0<=p.part)->v.kD=z->(w.2.2=true->0<=v.entry/\v.entry=w.1.part)->(w.2.2=false->v.entry=-1)->v.first=w.1->v.last=w.2.1 ->
  (t.foldl (zJ5 z) v).kD=z/\((zLV z t w).2.2=true->0<=(t.foldl (zJ5 z) v).entry/\(t.foldl (zJ5 z) v).entry=(zLV z t w).1.part)/\((zLV z t w).2.2=false->(t.foldl (zJ5 z) v).entry=-1)/\(t.foldl (zJ5 z) v).first=(zLV z t w).1/\(t.foldl (zJ5 z) v).last=(zLV z t w).2.1:=by
 intro t;induction t with
 |nil=>intro v w _ h1 h2 h3 h4 h5;exact⟨h1,h2,h3,h4,h5⟩
 |cons p t ih =>
  intro v w hp h1 h2 h3 h4 h5;rw[jN];unfold zLV;have hp0:=hp p (jr ..);have hpt:∀q∈t,0<=q.part:=fun q hq=>hp q (jv _ hq)
  by_cases c:p.kD=z
  ·rw[if_pos c];cases hw:w.2.2 with
   |true =>
    obtain⟨g1,g2⟩:=h2 hw;have e:zJ5 z v p=⟨v.kD,v.entry,v.first,p⟩:=by simp only[zJ5,c,if_true,show ¬v.entry<0 by omega,if_false]
    rw[e];exact ih _ _ hpt h1 (fun _=>⟨g1,g2⟩) (fun q=>by cases q) h4 rfl
   |false =>
    have g:=h3 hw;have e:zJ5 z v p=⟨v.kD,p.part,p,p⟩:=by simp only[zJ5,c,if_true,show v.entry<0 by omega]
    rw[e];exact ih _ _ hpt h1 (fun _=>⟨hp0,rfl⟩) (fun q=>by cases q) rfl rfl
  ·rw[if_neg c];have e:zJ5 z v p=v:=by simp only[zJ5,c,if_false]
   rw[e];exact ih v w hpt h1 h2 h3 h4 h5
theorem zOR(ps:List Pss)(hp:∀p∈ps,0<=p.part)(z:Int):(zKn ps z).kD=z/\((zNx ps z).2.2=true->0<=(zKn ps z).entry/\(zKn ps z).entry=(zNx ps z).1.part)/\((zNx ps z).2.2=false->(zKn ps z).entry=-1)/\(zKn ps z).first=(zNx ps z).1/\(zKn ps z).last=(zNx ps z).2.1 :=
 zPq z ps ⟨z,-1,zKw,zKw⟩ (zKw,zKw,false) hp rfl (fun q=>by cases q) (fun _=>rfl) rfl rfl
theorem zPt(z:Int):∀(t:List Pss) (w:Pss×Pss×Bool),(zLV z t w).2.2=true->w.2.2=false->∃p∈t,p.kD=z/\(zLV z t w).1=p:=by
 have uV:∀(t:List Pss) (w:Pss×Pss×Bool),w.2.2=true->(zLV z t w).1=w.1:=by
  intro t;induction t with
  |nil=>intro w _;rfl
  |cons p t ih =>
   intro w hw;unfold zLV;by_cases c:p.kD=z
   ·rw[if_pos c,ih _ rfl,hw];rfl
   ·rw[if_neg c,ih _ hw]
 intro t;induction t with
 |nil=>intro w h1 h2;rw[show zLV z [] w=w from rfl,h2]at h1;cases h1
 |cons p t ih =>
  intro w h1 h2;unfold zLV at h1 ⊢;by_cases c:p.kD=z
  ·rw[if_pos c];refine⟨p,jr ..,c,?_⟩;rw[uV _ _ rfl,h2];rfl
  ·rw[if_neg c]at h1 ⊢;obtain⟨q,h3,h4⟩:=ih w h1 h2;exact⟨q,jv _ h3,h4⟩
theorem zNn(ps:List Pss):∀(n z:Nat) (v:Vis),v∈zKE ps z n<->∃y:Nat,z<=y/\y<z+n/\0<=(zKn ps y).entry/\v=zKn ps y
 |0,z,v=>by simp[zKE];intro y h1 h2;omega
 |n+1,z,v=>by
  have ih:=zNn ps n (z+1) v;unfold zKE;by_cases c:0<=(zKn ps z).entry
  ·rw[if_pos c,jy,ih];constructor
   ·rintro(rfl |⟨y,h1,h2,h3,h4⟩)
    ·exact⟨z,jo _,by omega,c,rfl⟩
    ·exact⟨y,by omega,by omega,h3,h4⟩
   ·rintro⟨y,h1,h2,h3,h4⟩;by_cases e:y=z
    ·subst e;exact .inl h4
    ·exact .inr ⟨y,by omega,by omega,h3,h4⟩
  ·rw[if_neg c,ih];constructor
   ·rintro⟨y,h1,h2,h3,h4⟩;exact⟨y,by omega,by omega,h3,h4⟩
   ·rintro⟨y,h1,h2,h3,h4⟩;by_cases e:y=z
    ·subst e;exact absurd h3 c
    ·exact⟨y,by omega,by omega,h3,h4⟩
theorem zNo(ps:List Pss):∀(n z:Nat),(zKE ps z n).length<=n
 |0,z=>by simp[zKE]
 |n+1,z=>by
  have:=zNo ps n (z+1);unfold zKE;split<;>simp<;>omega
theorem zPr{m:zD}{zs:List Zon}{ss:List Sgn}(hF:zKj m zs ss)(r:List Int):∀v∈zKE (zKh m zs 0 r) 0 zs.length,zKN zs v:=by
 intro v hv;obtain⟨y,_,h2,h3,rfl⟩:=(zNn _ _ _ _).1 hv;have hp:∀p∈zKh m zs 0 r,0<=p.part:=fun p hp=>(zNh m zs r 0 p hp).2.1
 obtain⟨k1,k2,k3,k4,k5⟩:=zOR (zKh m zs 0 r) hp y;have hb:(zNx (zKh m zs 0 r) y).2.2=true:=by
  cases hq:(zNx (zKh m zs 0 r) y).2.2 with
  |true=>rfl
  |false=>have:=k3 hq;omega
 obtain⟨p,hpm,hpz,hpe⟩:=zPt y _ _ hb rfl;have hok:=zNh m zs r 0 p hpm;have he:=(k2 hb).2;rw[show(zNx (zKh m zs 0 r) y).1=p from hpe]at he;have hyl:y<zs.length:=by omega
 refine⟨by rw[k1];omega,?_,?_⟩
 ·rw[k1];have:=hF.full.zd.BA zs[y] (je hyl);simpa [zMh,hyl]using this
 ·rw[k1,he];have:=hok.2;rw[hpz]at this;exact this
abbrev pvV(m:zD)(zs:List Zon)(r:List Int):List Vis:=zKE (zKh m zs 0 r) 0 zs.length
def zNw(m:zD)(zs:List Zon)(ss:List Sgn)(r:List Int)(len:Int)(k:zci)(jM:List Int)(signals:Bool):Bool×Int×Int :=
 zKX (zLH len (pvV m zs r) jM (zKr m zs ss r len (zKh m zs 0 r) (pvV m zs r) signals jM 0 k)) (fbF m r jM k.tick k.ego)
theorem zL8{m:zD}{zs:List Zon}{ss:List Sgn}(hF:zKj m zs ss){r:List Int}(hr:zdA m r=0)(len:Int)(hlen:0<=len/\len<=20000)(signals:Bool)(jM:List Int)(hin:∀a∈jM,zk0 a)(hal:jM.length<=500)(u:Nat)(k:zci)(WAS NW:List Cl)(SW:Cl)(hk:KJ m k)(ht:0<=k.tick/\k.tick<=1099511627776)(hW:zMo WAS)(hSW:zKq NW SW)(hne0:jM≠[]) :
  ∃u' BM NW' SW',zMo BM/\zKq NW' SW'/\u'≠u/\R L Cs zKv [J0,.a (zG k),.a [.jb (zu jM)],Bo signals] (zJ3 m r len (zKh m zs 0 r) (pvV m zs r) u WAS NW SW) =
   some (.w (.a (zJ4 (zNw m zs ss r len k jM signals))),zJ3 m r len (zKh m zs 0 r) (pvV m zs r) u' BM NW' SW'):=by
 have hvo:=zPr hF r;have hvl:(pvV m zs r).length<=zs.length:=zNo (zKh m zs 0 r) zs.length 0;have htwo:=hF.two;have hp:=hF.few r hr;obtain⟨qq,hq0⟩:∃qq,qq=0/\pvV m zs r=[]\/qq=1/\pvV m zs r≠[]:=by
  by_cases h0:pvV m zs r=[]
  ·exact⟨0,.inl ⟨rfl,h0⟩⟩
  ·exact⟨1,.inr ⟨rfl,h0⟩⟩
 obtain⟨u',W',N',S',a,b,hu,h⟩:=zVQ hF hr len hlen (zKh m zs 0 r) (by omega) (pvV m zs r) qq hq0 (by omega) hvo signals jM hin hal u k WAS NW SW hk ht hW hSW hne0;refine⟨u',W',N',S',a,b,hu,?_⟩;simp only[zJ3,zVW hq0];exact h
def zOk(m:zD)(zs:List Zon)(ss:List Sgn)(r:List Int)(c:zK8)(k:zci)(jM:List Int)(signals:Bool):Bool×Int×Int :=
 if zKW m r c k=true/\Go.PlanLaw.qy c jM=0 then zNw m zs ss r c.len k jM signals else(false,0,1)
theorem zVR{c:zK8}{l:List Int}(h:Go.PlanLaw.qy c l=0):c.ok/\l≠[]/\l.length<=200:=by
 unfold Go.PlanLaw.qy at h;split at h
 ·cases h
 ·rename_i h1;split at h
  ·cases h
  ·rename_i h2;split at h
   ·cases h
   ·rename_i h3;exact⟨yD.1 h1,fun e=>h2 (by rw[e];rfl),by omega⟩
theorem zNz{m:zD}{r:List Int}{c:zK8}{k:zci}(h:zKW m r c k=true):zdA m r=0/\zaK m (r.headD 0)=1/\c.ok/\zdf m k=0:=by
 unfold zKW at h;simp only[jl,decide_eq_true_eq]at h;refine⟨h.1.1.1,h.1.1.2,?_,h.2⟩;have:=h.1.2;unfold Pl.yS at this;split at this
 ·assumption
 ·cases this
open Go Go.Eng Go.PlanLaw
theorem zLx{c:zK8}{w:Int}:∀{n:Nat} {s:Drv},0<=s.v/\s.v<=2000->0<=(Drv.qm c w n s).v/\(Drv.qm c w n s).v<=2000
 |0,s,h=>h
 |n+1,s,h=>zLx (n:=n) (zG1 s.v _)
theorem zMg:∀{q:List Int} {s:Drv},0<=s.v/\s.v<=2000->0<=(Drv.queue q s).v/\(Drv.queue q s).v<=2000
 |[],s,h=>h
 |x::q,s,h=>zMg (q:=q) (zG1 s.v _)
theorem zOt{c:zK8}(hc:c.ok)(q:List Int)(last v:Int)(up hold:Nat)(hv:0<=v/\v<=2000):(zJ2 c q last v up hold).length<=115+up+hold:=by
 unfold zJ2;have h1:=zMg (q:=q.take 5) (s:=Drv.mk last v []) hv;have h2:=zLx (c:=c) (w:=c.kO) (n:=up) h1;have h3:=zLx (c:=c) (w:=0) (n:=hold) h2;have hl1:(Drv.queue (q.take 5) (Drv.mk last v [])).l.length=(q.take 5).length:=by rw[Drv.Ad];simp
 have hl2:=Drv.vH (c:=c) (w:=c.kO) (n:=up) (s:=Drv.queue (q.take 5) (Drv.mk last v []));have hl3:=Drv.vH (c:=c) (w:=0) (n:=hold) (s:=Drv.qm c c.kO up (Drv.queue (q.take 5) (Drv.mk last v [])));generalize Drv.qm c 0 hold (Drv.qm c c.kO up (Drv.queue (q.take 5) (Drv.mk last v [])))=s at *;have h4:=(zMs hc s.last s.v h3.1 h3.2).2.2;have h5:(q.take 5).length<=5:=by simp;omega
 simp only[ju];omega
theorem zNC{c:zK8}{l:List Int}(h:qy c l=0):(∀a∈l,zk0 a)/\l.length<=200/\l≠[]:=by
 obtain⟨hc,hne,hl⟩:=zVR h;refine⟨?_,hl,hne⟩;unfold qy at h;rw[if_neg (by simp[hc]),if_neg (by simpa using hne),if_neg (by omega)]at h;split at h
 ·cases h
 split at h
 ·cases h
 rename_i hb;have hb:l.any (zLD c)=false:=by simpa using hb
 intro a ha;have h1:=vq.1 hb a ha;obtain⟨q1,q2,q3,q4,q5,q6,q7,q8,q9,q10⟩:=hc;simp[zLD]at h1;constructor<;>omega
theorem zNa{c:zK8}(hc:c.ok)(q:List Int)(last v:Int)(hv:0<=v/\v<=2000):∀p∈Pl.uy c q last v,p.length<=200:=by
 intro p hp;have h:=fun up hold=>zOt hc q last v up hold hv
 simp only[Pl.uy,jy,kW,or_false]at hp;rcases hp with rfl|rfl|rfl|rfl|rfl|rfl|rfl|rfl
 ·have:=h 6 4;omega
 ·have:=h 6 0;omega
 ·have:=h 3 4;omega
 ·have:=h 3 0;omega
 ·have:=h 1 4;omega
 ·have:=h 1 0;omega
 ·have:=h 0 4;omega
 ·have:=h 0 0;omega
def zK5(kl:Int)(ok:List Int->Bool):List (List Int)->Nat->Int×Int
 |[],i=>(-1,i)
 |p::t,i=>if kl<=i then(-1,i) else if ok p=true then(i,(i+1:Nat)) else zK5 kl ok t (i+1)
def okC(m:zD)(zs:List Zon)(ss:List Sgn)(r:List Int)(c:zK8)(k:zci)(signals able:Bool)(p:List Int):Bool:=able&&decide (qy c p=0)&&(zNw m zs ss r c.len k p signals).1
abbrev zLh(m:zD)(c:zK8)(k:zci):Mem:=[bx 5 (zf m),bx 5 (Pl.jH c),bx 6 (zG k),bx 1 [.jd]]
abbrev seE(J:WV)(l:List (List Int))(kl:Int)(signals able:Bool)(i:Nat):Env:=[(51,.w (W i)),(50,.w (W l.length)),(49,.w (.c (.jb (Pl.qj l)))),(6,.w (W kl)),(7,.w (Bo signals)),(11,.w (Pt 2)),(23,.w J),(10,.w (Pt 1)),(22,.w (Bo able)),(21,.w (W (-1))),(19,.w (.c (.jb (Pl.qj l)))),(20,.w (W i)),(16,.w (Pt 3))]
def SeX(E:Env)(T:Mem)(l:List (List Int))(x:Int×Int):Prop:=(T=[]\/∃p,T=[bxv 1 1 [.jb (zu p)]])/\E.get 21=some (.w (W x.1))/\E.get 20=some (.w (W x.2))/\E.get 19=some (.w (.c (.jb (Pl.qj l))))/\E.get 16=some (.w (Pt 3))
theorem zOp(m:zD)(zs:List Zon)(ss:List Sgn)(r:List Int)(c:zK8)(k:zci)(signals:Bool)(kl:Int)(l:List (List Int))(hll:l.length<=100):∀(t:List (List Int)) (i:Nat),l.drop i=t->i<=l.length ->
  ∃E T,SeX E T l (zK5 kl (okC m zs ss r c k signals false) t i)/\Y L Cs zIx (some [51,50,49,6,7,11,23,10,22,21,19,20,16]) 4 (seE (.c .qi) l kl signals false i) (zLh m c k)=some (.exit 0,E,zLh m c k++T):=by
 intro t;induction t with
 |nil =>
  intro i hd hi;obtain rfl:=zUb hd hi;refine⟨(52,.w (Bo false))::seE (.c .qi) l kl signals false l.length,[],⟨.inl rfl,rfl,rfl,rfl,rfl⟩,?_⟩;rw[zj zIx.eq_1];simp
 |cons p t ih =>
  intro i hd hi;obtain⟨hil,hx,hd'⟩:=zL hd;have hw:=zB (i:=i) (by omega);unfold zK5;by_cases c1:kl<=(i:Int)
  ·rw[if_pos c1];refine⟨[(58,.w (Bo true)),(24,.w (W i)),(51,.w (W i)),(50,.w (W l.length)),(49,.w (.c (.jb (Pl.qj l)))),(6,.w (W kl)),(7,.w (Bo signals)),(11,.w (Pt 2)),(23,.w (.c .qi)),(10,.w (Pt 1)),(22,.w (Bo false)),(25,.w (Pt 4)),(21,.w (W (-1))),(19,.w (.c (.jb (Pl.qj l)))),(20,.w (W i)),(16,.w (Pt 3))],[bxv 1 1 [.jb (zu p)]],⟨.inr ⟨p,rfl⟩,rfl,rfl,rfl,rfl⟩,?_⟩;rw[zj zIx.eq_1];simp (maxSteps:=1000000) [seE,zLh,jC,zox,zh,zi,zf,zG,own,zJY,zJ4,Pl.jH,Pl.qj,hil,hx,hw,c1,zg,zH]
  ·rw[if_neg c1,if_neg (by simp[okC])];obtain⟨E,T,h1,h2⟩:=ih (i+1) hd' hil;refine⟨E,T,h1,?_⟩;rw[<-h2,zj zIx.eq_1];clear h2 ih;simp (maxSteps:=1000000) [seE,zLh,jC,zox,zh,zi,zf,zG,own,zJY,zJ4,Pl.jH,Pl.qj,hil,hx,hw,c1,zg,zH]
abbrev zNM(m:zD)(r:List Int)(len:Int)(ps:List Pss)(vs:List Vis)(u:Nat)(was NW:List Cl)(SW:Cl):Mem:=[bxv u 26 (jC m r len ps (.slice 5 vs.length 10 0 vs.length none) was NW SW),some (Go.Eng.own 10 (zKt vs))]
abbrev zNL(m:zD)(r:List Int)(len:Int)(ps:List Pss)(vs:List Vis)(u:Nat)(was NW:List Cl)(SW:Cl):Mem:=[bxv u 26 (jC m r len ps .jd was NW SW)]
abbrev zV0(qq:Nat)(m:zD)(r:List Int)(len:Int)(ps:List Pss)(vs:List Vis)(u:Nat)(was NW:List Cl)(SW:Cl):Mem:=if qq=0 then zNL m r len ps vs u was NW SW else zNM m r len ps vs u was NW SW
theorem zV1{m:zD}{zs:List Zon}{ss:List Sgn}(hF:zKj m zs ss){r:List Int}(hr:zdA m r=0)(c:zK8)(hc:c.ok)(k:zci)(hk:KJ m k)(ht:0<=k.tick/\k.tick<=1099511627776)(signals:Bool)(kl:Int)(vs:List Vis)(hvs:vs=pvV m zs r)(qq:Nat)(hq0:qq=0/\vs=[]\/qq=1/\vs≠[])(l:List (List Int))(hll:l.length<=100)(hl:∀p∈l,p.length<=1000):∀(t:List (List Int)) (i u:Nat) (WAS NW:List Cl) (SW:Cl),zMo WAS->zKq NW SW->l.drop i=t->i<=l.length ->
  ∃E T u' BM NW' SW',zMo BM/\zKq NW' SW'/\SeX E T l (zK5 kl (okC m zs ss r c k signals true) t i)/\Y L Cs zIx (some [51,50,49,6,7,11,23,10,22,21,19,20,16]) (qq+5) (seE (.c (.ptr 4 0 0 0)) l kl signals true i) (zLh m c k++zV0 qq m r c.len (zKh m zs 0 r) vs u WAS NW SW)=some (.exit 0,E,zLh m c k++zV0 qq m r c.len (zKh m zs 0 r) vs u' BM NW' SW'++T):=by
 intro t;induction t with
 |nil =>
  intro i u WAS NW SW oW oS hd hi;obtain rfl:=zUb hd hi;refine⟨(52,.w (Bo false))::seE (.c (.ptr 4 0 0 0)) l kl signals true l.length,[],u,WAS,NW,SW,oW,oS,⟨.inl rfl,rfl,rfl,rfl,rfl⟩,?_⟩;rw[zj zIx.eq_1];simp
 |cons p t ih =>
  intro i u WAS NW SW oW oS hd hi;obtain⟨hil,hx,hd'⟩:=zL hd;have hpl:p∈l:=by rw[<-hx];exact je hil
  have hw:=zB (i:=i) (by omega);have hC:=Pl.BN c p (hl p hpl);have hcl:0<=c.len/\c.len<=20000:=by have:=hc.1;have:=hc.2.1;omega
  simp only[Pl.jH]at hC;unfold zK5;by_cases c1:kl<=(i:Int)
  ·rw[if_pos c1];clear ih;refine⟨[(58,.w (Bo true)),(24,.w (W i)),(51,.w (W i)),(50,.w (W l.length)),(49,.w (.c (.jb (Pl.qj l)))),(6,.w (W kl)),(7,.w (Bo signals)),(11,.w (Pt 2)),(23,.w (.c (.ptr 4 0 0 0))),(10,.w (Pt 1)),(22,.w (Bo true)),(25,.w (Pt (qq+5))),(21,.w (W (-1))),(19,.w (.c (.jb (Pl.qj l)))),(20,.w (W i)),(16,.w (Pt 3))],[bxv 1 1 [.jb (zu p)]],u,WAS,NW,SW,oW,oS,⟨.inr ⟨p,rfl⟩,rfl,rfl,rfl,rfl⟩,?_⟩;rw[zj zIx.eq_1];rcases hq0 with⟨rfl,-⟩ |⟨rfl,-⟩<;>rcases oW with rfl |⟨kw,rfl⟩<;>rcases oS with⟨rfl,rfl⟩ |⟨k0,x,rfl,rfl⟩<;>simp (maxSteps:=1000000) [seE,zLh,zV0,zNM,zNL,jC,zox,zh,zi,zf,zG,own,zJY,zJ4,Pl.jH,Pl.qj,hil,hx,hw,c1,zg,zH]
  ·rw[if_neg c1];by_cases c2:qy c p=0
   ·obtain⟨hin,hp2,hne⟩:=zNC c2;rw[c2]at hC;obtain⟨u',W',N',S',oW',oS',hu,h4⟩:=zL8 hF hr c.len hcl signals p hin (by omega) u k WAS NW SW hk ht oW oS hne;have hok:okC m zs ss r c k signals true p=(zNw m zs ss r c.len k p signals).1:=by simp[okC,c2]
    rw[hok];rw[<-hvs]at h4;generalize zNw m zs ss r c.len k p signals=y at *;obtain⟨y1,y2,y3⟩:=y;simp only[zJ3,zVW hq0]at h4;cases y1 with
    |true =>
     clear ih;rw[if_pos rfl];refine⟨[(21,.w (W i)),(19,.w (.c (.jb (Pl.qj l)))),(20,.w (W (i+1:Nat))),(16,.w (Pt 3))],[bxv 1 1 [.jb (zu p)]],u',W',N',S',oW',oS',⟨.inr ⟨p,rfl⟩,rfl,rfl,rfl,rfl⟩,?_⟩;rw[zj zIx.eq_1];rcases hq0 with⟨rfl,-⟩ |⟨rfl,-⟩<;>rcases oW with rfl |⟨kw,rfl⟩<;>rcases oS with⟨rfl,rfl⟩ |⟨k0,x,rfl,rfl⟩<;>rcases oW' with rfl |⟨kw',rfl⟩<;>rcases oS' with⟨rfl,rfl⟩ |⟨k0',x',rfl,rfl⟩<;>simp only[jI,↓reduceIte,jB,Nat.reduceAdd,jC,zox,zh,zi,zf,zG,own,zJY,zJ4,Pl.jH,Pl.qj,zJZ,jh,jf]at h4<;>simp (maxSteps:=1000000) [seE,zLh,zV0,zNM,zNL,jC,zox,zh,zi,zf,zG,own,zJY,zJ4,Pl.jH,Pl.qj,hil,hx,hw,c1,hC,h4,hu,zg,zH]
    |false =>
     rw[if_neg (by simp)];obtain⟨E,T,u2,W2,N2,S2,oW2,oS2,h1,h2⟩:=ih (i+1) u' W' N' S' oW' oS' hd' hil;refine⟨E,T,u2,W2,N2,S2,oW2,oS2,h1,?_⟩;rw[<-h2,zj zIx.eq_1];clear h1 h2 ih;rcases hq0 with⟨rfl,-⟩ |⟨rfl,-⟩<;>rcases oW with rfl |⟨kw,rfl⟩<;>rcases oS with⟨rfl,rfl⟩ |⟨k0,x,rfl,rfl⟩<;>rcases oW' with rfl |⟨kw',rfl⟩<;>rcases oS' with⟨rfl,rfl⟩ |⟨k0',x',rfl,rfl⟩<;>simp only[jI,↓reduceIte,jB,Nat.reduceAdd,jC,zox,zh,zi,zf,zG,own,zJY,zJ4,Pl.jH,Pl.qj,zJZ,jh,jf]at h4<;>simp (maxSteps:=1000000) [seE,zLh,zV0,zNM,zNL,jC,zox,zh,zi,zf,zG,own,zJY,zJ4,Pl.jH,Pl.qj,hil,hx,hw,c1,hC,h4,hu,zg,zH]
   ·have hb:(qy c p==0)=false:=by simpa using c2
    have hok:okC m zs ss r c k signals true p=false:=by simp[okC,c2]
    rw[hok,if_neg (by simp)];obtain⟨E,T,u2,W2,N2,S2,oW2,oS2,h1,h2⟩:=ih (i+1) u WAS NW SW oW oS hd' hil;refine⟨E,T,u2,W2,N2,S2,oW2,oS2,h1,?_⟩;rw[<-h2,zj zIx.eq_1];clear h1 h2 ih;generalize qy c p=e at *;rcases hq0 with⟨rfl,-⟩ |⟨rfl,-⟩<;>rcases oW with rfl |⟨kw,rfl⟩<;>rcases oS with⟨rfl,rfl⟩ |⟨k0,x,rfl,rfl⟩<;>simp (maxSteps:=1000000) [seE,zLh,zV0,zNM,zNL,jC,zox,zh,zi,zf,zG,own,zJY,zJ4,Pl.jH,Pl.qj,hil,hx,hw,c1,hC,hb,zg,zH]
theorem zOd(kl:Int)(ok:List Int->Bool):∀(t:List (List Int)) (i:Nat),(zK5 kl ok t i).1=-1\/((i:Int)<=(zK5 kl ok t i).1/\(zK5 kl ok t i).1<i+t.length)
 |[],i=>.inl rfl
 |p::t,i=>by
  unfold zK5;split
  ·exact .inl rfl
  ·split
   ·refine .inr ⟨by simp,by simp;omega⟩
   ·rcases zOd kl ok t (i+1)with h|h
    ·exact .inl h
    ·refine .inr ⟨by omega,by simp only[jk];omega⟩
abbrev zLj(c:zK8)(q:List Int)(last:Int)(k:zci):List (List Int):=Pl.uy c q last (max 0 (min k.ego.vhi 2000))
def zMT(l:List (List Int))(f:Int):List Int:=if f<0 then [] else l.getD f.toNat []
def zOU(m:zD)(zs:List Zon)(ss:List Sgn)(r:List Int)(c:zK8)(k:zci)(q:List Int)(last kl:Int)(signals:Bool):Int×Int :=
 zK5 kl (okC m zs ss r c k signals (zKW m r c k)) (zLj c q last k) 0
theorem zPl{m:zD}{zs:List Zon}{ss:List Sgn}(hF:zKj m zs ss)(r:List Int)(hl:r.length<=1000)(c:zK8)(hc:c.ok)(k:zci)(hk:k.j8.length<=100000000000)(q:List Int)(hq:q.length<=5)(last kl:Int)(signals:Bool) :
  R L Cs zMZ [.a (zf m),.c (.jb (zu r)),.a (Pl.jH c),.a (zG k),.c (.jb (zu q)),W last,W kl,Bo signals] [] =
    some (.t [.a [.jb (zu (zMT (zLj c q last k) (zOU m zs ss r c k q last kl signals).1))],W (zOU m zs ss r c k q last kl signals).2,Bo (decide (0<=(zOU m zs ss r c k q last kl signals).1))],[]):=by
 have h1:=zPi hF r hl c k hk;have h2:=Pl.Bx hc q hq last k.ego.vhi;have hin:=zOd kl (okC m zs ss r c k signals (zKW m r c k)) (zLj c q last k) 0;have hlen:(zLj c q last k).length=8:=rfl;have hlenI:((zLj c q last k).length:Int)=8:=rfl;have hpl:=zNa hc q last (max 0 (min k.ego.vhi 2000)) (by omega);unfold zOU;by_cases d1:zKW m r c k=true
 ·obtain⟨hr,_,_,hck⟩:=zNz d1;have hke:=zte hck;have hkj:=zPP hF.full.qF hck;obtain⟨u,h3⟩:=zMM hF hr c.len;rw[show zKE (zKh m zs 0 r) 0 zs.length=pvV m zs r from rfl]at h3;rw[d1]at h1 hin ⊢;obtain⟨qq,hq0⟩:∃qq,qq=0/\pvV m zs r=[]\/qq=1/\pvV m zs r≠[]:=by
   by_cases h0:pvV m zs r=[]
   ·exact⟨0,.inl ⟨rfl,h0⟩⟩
   ·exact⟨1,.inr ⟨rfl,h0⟩⟩
  obtain⟨E,T,u',W',N',S',oW,oS,⟨hT,g1,g2,g3,g4⟩,hL⟩:=zV1 hF hr c hc k hkj (by omega) signals kl (pvV m zs r) rfl qq hq0 (zLj c q last k) (by omega) (fun p hp=>by have:=hpl p hp;omega) (zLj c q last k) 0 u zox zox .jd (.inl rfl) (.inl ⟨rfl,rfl⟩) rfl (jt _);simp only[zJ3,zVW hq0]at h3;simp only[zLj]at *;generalize pvV m zs r=vs at *;generalize zKh m zs 0 r=ps at *;generalize zK5 kl (okC m zs ss r c k signals true) (Pl.uy c q last (max 0 (min k.ego.vhi 2000))) 0=y at *;generalize Pl.uy c q last (max 0 (min k.ego.vhi 2000))=ws at *;obtain⟨f,n⟩:=y;simp only at g1 g2 g3 g4 hin ⊢;rcases hq0 with⟨rfl,-⟩ |⟨rfl,-⟩
  all_goals
   simp only[jI,↓reduceIte,jB,Nat.reduceAdd,zf,zG,Pl.jH,Pl.qj,jC,zox,zh,zi,own,zJZ,jh,jf,seE,zLh,zV0,zNM,zNL,hlenI,jg]at h1 h2 h3 hL g3;rw[zUa zLc rfl];rcases hin with rfl |⟨i1,i2⟩
   ·rcases hT with rfl |⟨p,rfl⟩<;>simp (maxSteps:=1000000) [zIS,zMT,zf,zG,Pl.jH,h1,h2,h3,hL,g1,g2,g3,g4,hlen,zg,zH]
   ·obtain⟨j,rfl⟩:∃j:Nat,f=j:=⟨f.toNat,by omega⟩;have j1:¬(j:Int)<0:=by omega
    have j2:(0:Int)<=j:=by omega
    have j3:j<ws.length:=by omega
    have j4:j<8:=by omega
    have j5:(j:Int)<8:=by omega
    rcases hT with rfl |⟨p,rfl⟩<;>simp (maxSteps:=1000000) [zIS,zMT,zf,zG,Pl.jH,h1,h2,h3,hL,g1,g2,g3,g4,hlen,j1,j2,j3,j4,j5,zg,zH]
 ·have d1:zKW m r c k=false:=by simpa using d1
  rw[d1]at h1 hin ⊢;obtain⟨E,T,⟨hT,g1,g2,g3,g4⟩,hL⟩:=zOp m zs ss r c k signals kl (zLj c q last k) (by omega) (zLj c q last k) 0 rfl (jt _);simp only[zLj]at *;generalize zK5 kl (okC m zs ss r c k signals false) (Pl.uy c q last (max 0 (min k.ego.vhi 2000))) 0=y at *;generalize Pl.uy c q last (max 0 (min k.ego.vhi 2000))=ws at *;obtain⟨f,n⟩:=y;simp only at g1 g2 g3 g4 hin ⊢;simp only[zf,zG,Pl.jH,Pl.qj,jh,jf,seE,zLh,hlenI,jg]at h1 h2 hL g3;rw[zUa zLc rfl];rcases hin with rfl |⟨i1,i2⟩
  ·rcases hT with rfl |⟨p,rfl⟩<;>simp (maxSteps:=1000000) [zIS,zMT,zf,zG,Pl.jH,h1,h2,hL,g1,g2,g3,g4,hlen,zg,zH]
  ·obtain⟨j,rfl⟩:∃j:Nat,f=j:=⟨f.toNat,by omega⟩;have j1:¬(j:Int)<0:=by omega
   have j2:(0:Int)<=j:=by omega
   have j3:j<ws.length:=by omega
   have j4:j<8:=by omega
   have j5:(j:Int)<8:=by omega
   rcases hT with rfl |⟨p,rfl⟩<;>simp (maxSteps:=1000000) [zIS,zMT,zf,zG,Pl.jH,h1,h2,hL,g1,g2,g3,g4,hlen,j1,j2,j3,j4,j5,zg,zH]
theorem zN9(m:zD)(zs:List Zon)(ss:List Sgn)(r:List Int)(c:zK8)(k:zci)(p:List Int)(signals:Bool):(zOk m zs ss r c k p signals).1=okC m zs ss r c k signals (zKW m r c k) p:=by
 unfold zOk okC;by_cases h1:zKW m r c k=true
 ·by_cases h2:qy c p=0
  ·rw[if_pos ⟨h1,h2⟩];simp[h1,h2]
  ·rw[if_neg (fun q=>h2 q.2)];simp[h2]
 ·rw[if_neg (fun q=>h1 q.1)];simp[h1]
abbrev zQI(m:zD)(r:List Int)(ps:List Pss)(c:zK8):List Cl:=[I m.version,.jb (m.jc.map zo),.jb m.qE,.jb m.signals,.jb (m.kE.map zaL),.jb (zu r),.jb (zu (zW m 0 r)),I (zmd m 0 r),.jb (zKd ps),I c.len,I c.kO,I c.ky,I c.qS,I c.yV]
abbrev roM(m:zD)(r:List Int)(ps:List Pss)(c:zK8):Mem:=[bx 14 (zQI m r ps c)]
def zRR(m:zD)(r:List Int)(lane:Int):Int×Bool:=match zgo r lane with
 |some i=>(ki m r i,true)
 |none=>(0,false)
theorem zR3(m:zD)(r:List Int)(hl:r.length<=8)(ps:List Pss)(c:zK8)(lane:Int) :
  R L Cs zQY [.a (zQI m r ps c),W lane] []=some (.t [W (zRR m r lane).1,Bo (zRR m r lane).2],[]):=by
 have hL:=zxf (L:=L) (Cs:=Cs) (b:=zJd) (live:=some [1,2,6]) (n0:=1) r (fun i=>[(1,.w (W lane)),(2,.w (Pt 0)),(6,.w (W i))]) (roM m r ps c) (fun y=>decide (y=lane)) (fun i=>(.ret,[(4,.w (W (ki m r i))),(5,.w (Bo true))],roM m r ps c)) (.exit 0,[(11,.w (Bo false)),(1,.w (W lane)),(2,.w (Pt 0)),(6,.w (W r.length))],roM m r ps c)
  (fun i hi hp=>by
   have hw:=zB (i:=i) (by omega);have hp:¬r[i]=lane:=by simpa using hp
   have hb:(r[i]==lane)=false:=by simpa using hp
   rw[zj zJd.eq_1];simp[roM,hi,hw,hp,hb])
  (fun i hi hp=>by
   have hp:r[i]=lane:=by simpa using hp
   have hsl:i<(zW m 0 r).length:=by rw[zcO];exact hi
   have hst:(zW m 0 r)[i]=ki m r i:=by simp[ki,hsl]
   rw[zj zJd.eq_1];simp[roM,hi,hp,hsl,hst])
  (by rw[zj zJd.eq_1];simp[roM])
 rw[zUa zQZ rfl];simp only[jg]at hL;unfold zRR zgo;cases hq:r.findIdx? (fun y=>decide (y=lane))with
 |none=>rw[hq]at hL;simp only[roM]at hL;simp[zJl,hL,zg]
 |some i=>rw[hq]at hL;simp only[roM]at hL;simp[zJl,hL,zg]
theorem zRU{m:zD}(h:zcp m)(r:List Int)(hl:r.length<=8)(hon:zj2 m r)(ps:List Pss)(c:zK8)(sw:List Swp)(hs:sw.length<=100000000000)(hok:∀s∈sw,zPI m s)(shi:Int) :
  R L Cs zQQ [.a (zQI m r ps c),.c (.jb (zbf sw)),W shi] []=some (.w (Bo (!sw.any (apP m r shi))),[]):=by
 have hly:ziO m r 0:=⟨h,hl,hon,by omega⟩;have hL:=zxf (L:=L) (Cs:=Cs) (b:=zI8) (live:=some [3,1,2,7]) (n0:=1) sw (fun i=>[(3,.w (Pt 0)),(1,.w (.c (.jb (zbf sw)))),(2,.w (W shi)),(7,.w (W i))]) (roM m r ps c) (apP m r shi) (fun i=>(.ret,[(6,.w (Bo false))],roM m r ps c)) (.exit 0,[(13,.w (Bo false)),(2,.w (W shi)),(1,.w (.c (.jb (zbf sw)))),(3,.w (Pt 0)),(7,.w (W sw.length))],roM m r ps c)
  (fun i hi hp=>by
   have hw:=zB (i:=i) (by omega);have hso:=hok sw[i] (je hi);generalize hsi:sw[i]=s at *;have hx:=zR3 m r hl ps c s.lane;unfold apP at hp;unfold zRR at hx;rw[zj zI8.eq_1];cases hL:zgo r s.lane with
   |none =>
    rw[hL]at hx;simp only[zQI]at hx;simp[roM,swC,hi,hsi,hw,hx]
   |some j =>
    obtain⟨hjl,_⟩:=zfT hL;have hsb:=zmA hly hjl;have hlo:=hso.lo;have w2:=kg (ki m r j+s.lo);rw[hL]at hx hp;simp only[zQI]at hx;cases hc:s.cap with
    |true=>simp[roM,swC,hi,hsi,hw,hx,hc]
    |false =>
     have hp:¬ki m r j+s.lo<=shi:=by simpa [hc]using hp
     simp[roM,swC,hi,hsi,hw,hx,hc,w2,hp])
  (fun i hi hp=>by
   have hso:=hok sw[i] (je hi);generalize hsi:sw[i]=s at *;have hx:=zR3 m r hl ps c s.lane;unfold apP at hp;unfold zRR at hx;rw[zj zI8.eq_1];cases hL:zgo r s.lane with
   |none=>rw[hL]at hp;cases hp
   |some j =>
    obtain⟨hjl,_⟩:=zfT hL;have hsb:=zmA hly hjl;have hlo:=hso.lo;have w2:=kg (ki m r j+s.lo);rw[hL]at hx hp;simp only[zQI]at hx;simp only[jl,kK,decide_eq_true_eq]at hp;simp[roM,swC,hi,hsi,hx,hp.1,w2,hp.2])
  (by rw[zj zI8.eq_1];simp[roM])
 rw[zUa zQU rfl];simp only[jg,roM]at hL;cases hq:sw.findIdx? (apP m r shi)with
 |none =>
  rw[hq]at hL;rw[kh]at hq;have:sw.any (apP m r shi)=false:=by simpa using hq
  simp[zJg,hL,this,zg]
 |some i =>
  rw[hq]at hL;obtain⟨h1,h2,_⟩:=jQ.1 hq;have:sw.any (apP m r shi)=true:=kx.2 ⟨_,je h1,h2⟩;simp[zJg,hL,this,zg]
abbrev rfM(m:zD)(r:List Int)(ps:List Pss)(c:zK8)(u v:Nat)(a b:Pss):Mem:=[bx 14 (zQI m r ps c),bx 4 [I 0,I 0,I 0,I 0],bx 4 [I 0,I 0,I 0,I 0],bxv u 4 (zKF a),bxv v 4 (zKF b)]
abbrev rfE(z:Int)(i:Nat)(is:Bool):Env:=[(10,.w (W i)),(5,.w (Pt 2)),(4,.w (Pt 1)),(1,.w (W z)),(8,.w (Pt 4)),(2,.w (Pt 0)),(7,.w (Pt 3)),(9,.w (Bo is))]
theorem zRu(m:zD)(r:List Int)(ps:List Pss)(hp:ps.length<=1000)(c:zK8)(z:Int):∀(t:List Pss) (i u v:Nat) (w:Pss×Pss×Bool),ps.drop i=t->i<=ps.length ->
  ∃u' v',Y L Cs zI5 (some [10,5,4,1,8,2,7,9]) 5 (rfE z i w.2.2) (rfM m r ps c u v w.1 w.2.1)=some (.exit 0,(15,.w (Bo false))::rfE z ps.length (zLV z t w).2.2,rfM m r ps c u' v' (zLV z t w).1 (zLV z t w).2.1):=by
 intro t;induction t with
 |nil =>
  intro i u v w hd hi;obtain rfl:=zUb hd hi;refine⟨u,v,?_⟩;rw[zj zI5.eq_1];simp[rfE,rfM,zLV]
 |cons p t ih =>
  intro i u v w hd hi;obtain⟨hil,hx,hd'⟩:=zL hd;have hw:=zB (i:=i) (by omega);obtain⟨w1,w2,w3⟩:=w;by_cases c1:p.kD=z
  ·cases w3 with
   |true =>
    obtain⟨u',v',h⟩:=ih (i+1) u (v+1) (w1,p,true) hd' hil;refine⟨u',v',?_⟩;have e:zLV z (p::t) (w1,w2,true)=zLV z t (w1,p,true):=by rw[zLV,if_pos c1];rfl
    rw[e,<-h,zj zI5.eq_1];clear h ih e;simp[rfE,rfM,zKF,hil,hx,hw,c1]
   |false =>
    obtain⟨u',v',h⟩:=ih (i+1) (u+1) (v+1) (p,p,true) hd' hil;refine⟨u',v',?_⟩;have e:zLV z (p::t) (w1,w2,false)=zLV z t (p,p,true):=by rw[zLV,if_pos c1];rfl
    rw[e,<-h,zj zI5.eq_1];clear h ih e;simp[rfE,rfM,zKF,hil,hx,hw,c1]
  ·have c2:(p.kD !=z)=true:=by simp[c1]
   obtain⟨u',v',h⟩:=ih (i+1) u v (w1,w2,w3) hd' hil;refine⟨u',v',?_⟩;have e:zLV z (p::t) (w1,w2,w3)=zLV z t (w1,w2,w3):=by rw[zLV,if_neg c1]
   rw[e,<-h,zj zI5.eq_1];clear h ih e;simp[rfE,rfM,zKF,hil,hx,hw,c1,c2]
theorem zRi(m:zD)(r:List Int)(ps:List Pss)(hp:ps.length<=1000)(c:zK8)(z:Int) :
  R L Cs zQO [.a (zQI m r ps c),W z] []=some (.t [.a (zKF (zNx ps z).1),.a (zKF (zNx ps z).2.1),Bo (zNx ps z).2.2],[]):=by
 obtain⟨u,v,h⟩:=zRu m r ps hp c z ps 0 0 0 (zKw,zKw,false) rfl (jt _);unfold zNx;generalize zLV z ps (zKw,zKw,false)=y at *;simp only[rfE,rfM,zKF,jg]at h;rw[zUa zQS rfl];simp[zJe,zKF,h,zg]
abbrev rcM(m:zD)(r:List Int)(ps:List Pss)(c:zK8)(q:Zon)(a b:Pss):Mem:=[bx 14 (zQI m r ps c),bxv 1 2 (zdP q),bxv 1 4 (zKF a),bxv 1 4 (zKF b)]
abbrev zRg(sw:List Swp)(i k:Nat):Env:=[(8,.w (Pt 2)),(1,.w (.c (.jb (zbf sw)))),(7,.w (Pt 1)),(11,.w (W i)),(12,.w (W k))]
abbrev rcE(sw:List Swp)(i:Nat):Env:=[(8,.w (Pt 2)),(1,.w (.c (.jb (zbf sw)))),(7,.w (Pt 1)),(11,.w (W i))]
theorem zRs(m:zD)(r:List Int)(ps:List Pss)(c:zK8)(sw:List Swp)(hs:sw.length<=100000000000)(q:Zon)(a b:Pss)(i:Nat)(hi:i<q.parts.length)(hne:¬(i:Int)=a.part):∀(t:List Swp) (k:Nat),sw.drop k=t->k<=sw.length ->
  (t.any (inS q.parts[i])=true->∃X Z,Y L Cs zI7 (some [8,1,7,11,12]) 4 (zRg sw i k) (rcM m r ps c q a b)=some (.ret,[(6,.w (Bo false))],rcM m r ps c q a b++[bxv 1 4 X,bxv 1 4 Z])) /\
  (t.any (inS q.parts[i])=false->Y L Cs zI7 (some [8,1,7,11,12]) 4 (zRg sw i k) (rcM m r ps c q a b)=some (.exit 2,[(44,.w (Bo false)),(11,.w (W i)),(7,.w (Pt 1)),(1,.w (.c (.jb (zbf sw)))),(8,.w (Pt 2)),(12,.w (W sw.length))],rcM m r ps c q a b)):=by
 intro t;have hnb:((i:Int) !=a.part)=true:=by simpa using hne
 induction t with
 |nil =>
  intro k hd hk;obtain rfl:=zUb hd hk;refine⟨fun q=>(by cases q),fun _=>?_⟩;rw[zj zI7.eq_1];simp
 |cons s t ih =>
  intro k hd hk;obtain⟨hkl,hx,hd'⟩:=zL hd;have hw:=zB (i:=k) (by omega);obtain⟨i1,i2⟩:=ih (k+1) hd' hkl;have hp:(zkl q.parts)[i]'(by simpa using hi)=zeB q.parts[i]:=by simp
  generalize hpp:q.parts[i]=p at *;rw[uN];cases hb:inS p s with
  |true =>
   simp only[inS,jl,decide_eq_true_eq,kK]at hb;obtain⟨⟨⟨b1,b2⟩,b3⟩,b4⟩:=hb;refine⟨fun _=>⟨swC s,zeB p,?_⟩,fun q=>by simp at q⟩;clear i1 i2 ih;rw[zj zI7.eq_1];simp[zRg,rcM,zdP,zKF,swC,zeB,hkl,hx,hi,hpp,hne,hnb,hw,b1,b2,b3,b4,zg,zH]
  |false =>
   rw[k8];have step:Y L Cs zI7 (some [8,1,7,11,12]) 4 (zRg sw i k) (rcM m r ps c q a b)=Y L Cs zI7 (some [8,1,7,11,12]) 4 (zRg sw i (k+1)) (rcM m r ps c q a b):=by
    clear i1 i2 ih;rw[zj zI7.eq_1];unfold inS at hb;by_cases b2:s.lane=p.lane
    ·cases b1:s.cap with
     |true=>simp[zRg,rcM,zdP,zKF,swC,zeB,hkl,hx,hi,hpp,hne,hnb,hw,b1,b2,zg,zH]
     |false =>
      by_cases b3:s.lo<=p.hi
      ·have b4:¬p.lo<=s.hi:=by simpa [b1,b2,b3]using hb
       simp[zRg,rcM,zdP,zKF,swC,zeB,hkl,hx,hi,hpp,hne,hnb,hw,b1,b2,b3,b4,zg,zH]
      ·simp[zRg,rcM,zdP,zKF,swC,zeB,hkl,hx,hi,hpp,hne,hnb,hw,b1,b2,b3,zg,zH]
    ·have b2':(s.lane==p.lane)=false:=by simpa using b2
     simp[zRg,rcM,zdP,zKF,swC,zeB,hkl,hx,hi,hpp,hne,hnb,hw,b2,b2',zg,zH]
   rw[step];exact⟨i1,i2⟩
theorem zRv(m:zD)(r:List Int)(ps:List Pss)(c:zK8)(sw:List Swp)(q:Zon)(a b:Pss)(i:Nat)(he:(i:Int)=a.part) :
  Y L Cs zI7 (some [8,1,7,11,12]) 4 (zRg sw i 0) (rcM m r ps c q a b)=some (.exit 2,[(44,.w (Bo false)),(11,.w (W i)),(7,.w (Pt 1)),(1,.w (.c (.jb (zbf sw)))),(8,.w (Pt 2)),(12,.w (W 0))],rcM m r ps c q a b):=by
 have hnb:((i:Int) !=a.part)=false:=by simpa using he
 rw[zj zI7.eq_1];cases sw with
 |nil=>simp[zRg,rcM,zdP,zKF]
 |cons s sw=>simp[zRg,rcM,zdP,zKF,he,hnb]
theorem zRr(m:zD)(r:List Int)(ps:List Pss)(c:zK8)(sw:List Swp)(hs:sw.length<=100000000000)(q:Zon)(hq:q.parts.length<=1000)(a b:Pss):∀(t:List Prt) (i:Nat),q.parts.drop i=t->i<=q.parts.length ->
  (zNK sw a.part i t=true->∃X Z,Y L Cs zI6 (some [8,1,7,11]) 4 (rcE sw i) (rcM m r ps c q a b)=some (.ret,[(6,.w (Bo false))],rcM m r ps c q a b++[bxv 1 4 X,bxv 1 4 Z])) /\
  (zNK sw a.part i t=false->Y L Cs zI6 (some [8,1,7,11]) 4 (rcE sw i) (rcM m r ps c q a b)=some (.exit 0,[(32,.w (Bo false)),(8,.w (Pt 2)),(1,.w (.c (.jb (zbf sw)))),(7,.w (Pt 1)),(11,.w (W q.parts.length))],rcM m r ps c q a b)):=by
 intro t;induction t with
 |nil =>
  intro i hd hi;obtain rfl:=zUb hd hi;refine⟨fun q=>(by cases q),fun _=>?_⟩;rw[zj zI6.eq_1];simp[rcM,zdP]
 |cons p t ih =>
  intro i hd hi;obtain⟨hil,hx,hd'⟩:=zL hd;have hw:=zB (i:=i) (by omega);obtain⟨i1,i2⟩:=ih (i+1) hd' hil;have hii:(i:Int)<q.parts.length:=by omega
  by_cases he:(i:Int)=a.part
  ·have hk:=zRv m r ps c sw q a b i he;have e:zNK sw a.part i (p::t)=zNK sw a.part (i+1) t:=by rw[zNK];simp[he]
   rw[e];have step:Y L Cs zI6 (some [8,1,7,11]) 4 (rcE sw i) (rcM m r ps c q a b)=Y L Cs zI6 (some [8,1,7,11]) 4 (rcE sw (i+1)) (rcM m r ps c q a b):=by
    clear i1 i2 ih;simp only[zRg,rcM,zdP,zKF,jg]at hk;rw[zj zI6.eq_1];simp[rcE,rcM,zdP,zKF,hil,hii,hk,hw]
   rw[step];exact⟨i1,i2⟩
  ·obtain⟨k1,k2⟩:=zRs m r ps c sw hs q a b i hil he sw 0 rfl (jt _);rw[hx]at k1 k2;cases hb:sw.any (inS p)with
   |true =>
    have e:zNK sw a.part i (p::t)=true:=by rw[zNK];simp[he,hb]
    rw[e];obtain⟨X,Z,hk⟩:=k1 hb;refine⟨fun _=>⟨X,Z,?_⟩,fun q=>by cases q⟩;clear i1 i2 ih k1 k2;simp only[zRg,rcM,zdP,zKF,jg,jh,jf]at hk;rw[zj zI6.eq_1];simp[rcE,rcM,zdP,zKF,hil,hii,hk,hw]
   |false =>
    have e:zNK sw a.part i (p::t)=zNK sw a.part (i+1) t:=by rw[zNK];simp[hb]
    rw[e];have hk:=k2 hb;have step:Y L Cs zI6 (some [8,1,7,11]) 4 (rcE sw i) (rcM m r ps c q a b)=Y L Cs zI6 (some [8,1,7,11]) 4 (rcE sw (i+1)) (rcM m r ps c q a b):=by
     clear i1 i2 ih k1 k2;simp only[zRg,rcM,zdP,zKF,jg]at hk;rw[zj zI6.eq_1];simp[rcE,rcM,zdP,zKF,hil,hii,hk,hw]
    rw[step];exact⟨i1,i2⟩
theorem zRy{m:zD}{zs:List Zon}(hz:m.qE=zk8 zs)(hpf:∀z∈zs,z.parts.length<=6)(r:List Int)(ps:List Pss)(hp:ps.length<=1000)(c:zK8)(sw:List Swp)(hs:sw.length<=100000000000)(z:Int)(hzz:0<=z/\z<zs.length) :
  R L Cs zQP [.a (zQI m r ps c),.c (.jb (zbf sw)),W z] []=some (.w (Bo (!zNK sw (zNx ps z).1.part 0 (zMh zs z))),[]):=by
 obtain⟨j,rfl⟩:=js hzz.1;have hzl:j<zs.length:=by omega
 have hzi:(j:Int)<zs.length:=hzz.2;have hzp:zMh zs j=zs[j].parts:=by simp[zMh,hzl]
 have h1:=zRi m r ps hp c j;obtain⟨k1,k2⟩:=zRr m r ps c sw hs zs[j] (by have:=hpf _ (je hzl);omega) (zNx ps j).1 (zNx ps j).2.1 zs[j].parts 0 rfl (jt _);rw[hzp];generalize zNx ps j=y at *;simp only[zQI,zKF]at h1;rw[zUa zQT rfl];cases hb:zNK sw y.1.part 0 zs[j].parts with
 |true =>
  obtain⟨X,Z,hk⟩:=k1 hb;clear k1 k2;simp only[rcE,rcM,zQI,zdP,zKF,hz,jg,jh,jf]at hk;simp only[hz]at h1;simp[zJf,zQI,zdP,zKF,hz,hzl,hzi,h1,hk,zg]
 |false =>
  have hk:=k2 hb;clear k1 k2;simp only[rcE,rcM,zQI,zdP,zKF,hz,jg,jh,jf]at hk;simp only[hz]at h1;simp[zJf,zQI,zdP,zKF,hz,hzl,hzi,h1,hk,zg]
def znP(zs:List Zon)(ps:List Pss)(sw:List Swp)(high low:Int)(p:Pss):Bool:=decide (p.lo<=high)&&decide (low<=p.hi)&&zNK sw (zNx ps p.kD).1.part 0 (zMh zs p.kD)
theorem zRS{m:zD}{zs:List Zon}(hz:m.qE=zk8 zs)(hpf:∀z∈zs,z.parts.length<=6)(r:List Int)(ps:List Pss)(hp:ps.length<=1000)(hpo:∀p∈ps,zPn zs p)(c:zK8)(sw:List Swp)(hs:sw.length<=100000000000)(low high:Int) :
  R L Cs zQN [.a (zQI m r ps c),.c (.jb (zbf sw)),W low,W high] []=some (.w (Bo (!ps.any (znP zs ps sw high low))),[]):=by
 have hL:=zxf (L:=L) (Cs:=Cs) (b:=zI4) (live:=some [3,2,1,4,9]) (n0:=1) ps (fun i=>[(3,.w (W high)),(2,.w (W low)),(1,.w (.c (.jb (zbf sw)))),(4,.w (Pt 0)),(9,.w (W i))]) (roM m r ps c) (znP zs ps sw high low) (fun i=>(.ret,[(8,.w (Bo false))],roM m r ps c)) (.exit 0,[(14,.w (Bo false)),(4,.w (Pt 0)),(1,.w (.c (.jb (zbf sw)))),(2,.w (W low)),(3,.w (W high)),(9,.w (W ps.length))],roM m r ps c)
  (fun i hi hb=>by
   have hw:=zB (i:=i) (by omega);have ho:=hpo ps[i] (je hi);have hC:=zRy hz hpf r ps hp c sw hs ps[i].kD ho.1;unfold znP at hb;generalize zNK sw (zNx ps ps[i].kD).1.part 0 (zMh zs ps[i].kD)=y at *;generalize hpi:ps[i]=p at *;simp only[zQI]at hC;rw[zj zI4.eq_1];by_cases c1:p.lo<=high
   ·by_cases c2:low<=p.hi
    ·have c3:y=false:=by simpa [c1,c2]using hb
     subst c3;simp[roM,zKF,hi,hpi,hw,c1,c2,hC]
    ·simp[roM,zKF,hi,hpi,hw,c1,c2]
   ·simp[roM,zKF,hi,hpi,hw,c1])
  (fun i hi hb=>by
   have ho:=hpo ps[i] (je hi);have hC:=zRy hz hpf r ps hp c sw hs ps[i].kD ho.1;unfold znP at hb;generalize zNK sw (zNx ps ps[i].kD).1.part 0 (zMh zs ps[i].kD)=y at *;generalize hpi:ps[i]=p at *;simp only[jl,decide_eq_true_eq]at hb;obtain⟨⟨c1,c2⟩,c3⟩:=hb;subst c3;simp only[zQI]at hC;rw[zj zI4.eq_1];simp[roM,zKF,hi,hpi,c1,c2,hC])
  (by rw[zj zI4.eq_1];simp[roM])
 rw[zUa zQR rfl];simp only[jg,roM]at hL;cases hq:ps.findIdx? (znP zs ps sw high low)with
 |none =>
  rw[hq]at hL;rw[kh]at hq;have:ps.any (znP zs ps sw high low)=false:=by simpa using hq
  simp[zJc,hL,this,zg]
 |some i =>
  rw[hq]at hL;obtain⟨h1,h2,_⟩:=jQ.1 hq;have:ps.any (znP zs ps sw high low)=true:=kx.2 ⟨_,je h1,h2⟩;simp[zJc,hL,this,zg]
theorem zRq(n:Nat)(p:Nat->Bool)(h:(List.range n).findIdx? p=none):(List.range n).any p=false:=by
 rw[kh]at h;simpa using h
theorem zRn(n:Nat)(p:Nat->Bool){i:Nat}(h:(List.range n).findIdx? p=some i):(List.range n).any p=true:=by
 obtain⟨h1,h2,_⟩:=jQ.1 h;exact kx.2 ⟨_,je h1,h2⟩
def enP(ps:List Pss)(len shi slo:Int)(z:Nat):Bool:=(zNx ps z).2.2&&decide ((zNx ps z).1.lo<=shi)&&decide (slo-len<=(zNx ps z).2.1.hi)
theorem zR2{m:zD}{zs:List Zon}(hz:m.qE=zk8 zs)(hzn:zs.length<=100)(r:List Int)(ps:List Pss)(hp:ps.length<=1000)(c:zK8)(hc:0<=c.len/\c.len<=20000)(e:Ego)(he:znd e) :
  R L Cs zQW [.a (zQI m r ps c),.a (zch e)] []=some (.w (Bo (!(List.range zs.length).any (enP ps c.len e.shi e.slo)&&decide (e.vhi=0))),[]):=by
 have he1:=he.s;have w1:=kg (e.slo-c.len);have hL:=zxf (L:=L) (Cs:=Cs) (b:=zI9) (live:=some [3,2,5]) (n0:=2) (List.range zs.length) (fun i=>[(3,.w (Pt 1)),(2,.w (Pt 0)),(5,.w (W i))]) [bx 14 (zQI m r ps c),bx 4 (zch e)] (enP ps c.len e.shi e.slo) (fun i=>(.ret,[(4,.w (Bo false))],[bx 14 (zQI m r ps c),bx 4 (zch e),bxv 1 4 (zKF (zNx ps i).1),bxv 1 4 (zKF (zNx ps i).2.1)])) (.exit 0,[(14,.w (Bo false)),(2,.w (Pt 0)),(3,.w (Pt 1)),(5,.w (W zs.length))],[bx 14 (zQI m r ps c),bx 4 (zch e)])
  (fun i hi hb=>by
   rw[vl]at hi;have hw:=zB (i:=i) (by omega);have hF:=zRi m r ps hp c i;rw[uZ]at hb;unfold enP at hb;generalize zNx ps i=y at *;obtain⟨a,b,is⟩:=y;simp only[zQI,zKF,hz]at hF;simp only at hb;rw[zj zI9.eq_1];cases is with
   |false=>simp[zQI,zKF,zch,hz,hi,hw,hF,zg,zH]
   |true =>
    by_cases c1:a.lo<=e.shi
    ·have c2:¬e.slo-c.len<=b.hi:=by simpa [c1]using hb
     simp[zQI,zKF,zch,hz,hi,hw,hF,c1,w1,c2,zg,zH]
    ·simp[zQI,zKF,zch,hz,hi,hw,hF,c1,zg,zH])
  (fun i hi hb=>by
   rw[vl]at hi;have hF:=zRi m r ps hp c i;rw[uZ]at hb;unfold enP at hb;generalize zNx ps i=y at *;obtain⟨a,b,is⟩:=y;simp only[zQI,zKF,hz]at hF;simp only[jl,decide_eq_true_eq]at hb;obtain⟨⟨rfl,c1⟩,c2⟩:=hb;rw[zj zI9.eq_1];simp[zQI,zKF,zch,hz,hi,hF,c1,w1,c2,zg,zH])
  (by rw[zj zI9.eq_1];simp[hz])
 rw[zUa zQX rfl];simp only[jg,zch,zKF]at hL;cases hq:(List.range zs.length).findIdx? (enP ps c.len e.shi e.slo)with
 |none =>
  rw[hq]at hL;rw[zRq _ _ hq];by_cases h0:e.vhi=0
  ·obtain⟨e1,e2,e3,e4⟩:=e;simp only at h0 hL;subst h0;simp[zJj,hL,zch,zg]
  ·have hb:(e.vhi==0)=false:=by simp[h0]
   simp[zJj,hL,zch,h0,hb,zg]
 |some i =>
  rw[hq]at hL;rw[zRn _ _ hq];simp[zJj,hL,zch,zg]
theorem zR0{m:zD}(h:zcp m)(x:Int):R L Cs zD9 [.a (zf m),W x] []=some (.w (Bo (decide (0<=x)&&decide (x<m.jc.length))),[]):=by
 have hk:=h.AP;rw[zUa zEa rfl];simp only[zf]at hk;by_cases c1:0<=x
 ·by_cases c2:x<m.jc.length
  ·simp[zDW,zf,hk,c1,c2]
  ·simp[zDW,zf,hk,c1,c2]
 ·simp[zDW,zf,hk,c1]
theorem zRT{m:zD}{zs:List Zon}{ss:List Sgn}(hf:zmq m zs ss)(j:Nat)(hj:j<ss.length)(x:Int)(hx:0<=x/\x<m.jc.length)(tick:Int)(ht:0<=tick) :
  R L Cs zRa [.a (zf m),W j,W x,W tick] []=some (.w (Bo (zfA ss[j] x tick)),[]):=by
 have h1:=zR0 hf.qF x;have h2:=zrO ss[j] x tick (hf.zd.ph _ (je hj));have hs:=hf.zd.s;have hji:(j:Int)<ss.length:=by omega
 simp only[zf,hx.1,hx.2,decide_true,Bool.and_self]at h1;simp only[zeq]at h2;rw[hs]at h1;rw[zUa zRd rfl];simp[zJV,zf,zeq,hs,h1,h2,hj,hji,ht]
def grP(zs:List Zon)(ss:List Sgn)(ps:List Pss)(shi slo tick:Int)(z:Nat):Bool:=(zNx ps z).2.2&&decide (0<zPp zs z)&&decide ((zNx ps z).1.lo<=shi)&&decide (slo<(zNx ps z).1.lo) && !zfA (ss.getD (zPp zs z-1).toNat ztn) (zPX zs z (zNx ps z).1.part) tick
theorem zRI{m:zD}{zs:List Zon}{ss:List Sgn}(hf:zmq m zs ss)(r:List Int)(ps:List Pss)(hp:ps.length<=1000)(hpo:∀z,(zNx ps z).2.2=true->zPn zs (zNx ps z).1/\(zNx ps z).1.kD=z)(c:zK8)(slo shi tick:Int)(ht:0<=tick) :
  R L Cs zQL [.a (zQI m r ps c),W slo,W shi,W tick] []=some (.w (Bo (!(List.range zs.length).any (grP zs ss ps shi slo tick))),[]):=by
 have hz:=hf.zd.z;have hzn:=hf.zd.few;have main:∀(i:Nat) (hi:i<zs.length),Y L Cs zI3 (some [9,2,1,3,4]) 1 [(9,.w (W i)),(2,.w (W shi)),(1,.w (W slo)),(3,.w (W tick)),(4,.w (Pt 0))] (roM m r ps c)=if grP zs ss ps shi slo tick i=true then some (.ret,[(8,.w (Bo false))],roM m r ps c++[bxv 1 4 (zKF (zNx ps i).1),bxv 1 4 (zKF (zNx ps i).2.1)]) else Y L Cs zI3 (some [9,2,1,3,4]) 1 [(9,.w (W (i+1:Nat))),(2,.w (W shi)),(1,.w (W slo)),(3,.w (W tick)),(4,.w (Pt 0))] (roM m r ps c):=by
  intro i hi;have hw:=zB (i:=i) (by omega);have hii:(i:Int)<zs.length:=by omega
  have hF:=zRi m r ps hp c i;have hO:=hpo i;have hzp:zMh zs (i:Int)=zs[i].parts:=by simp[zMh,hi]
  have hzg:zPp zs (i:Int)=zs[i].qc:=by simp[zPp,hi]
  have hsig:=hf.zd.sig zs[i] (je hi);have hsf:=hf.zd.Cc;unfold grP;rw[hzg];generalize zNx ps i=y at *;obtain⟨a,b,is⟩:=y;simp only[zQI,zKF,hz]at hF;simp only at hO;cases is with
  |false =>
   rw[if_neg (by simp),zj zI3.eq_1];simp[roM,zQI,zKF,hz,hi,hii,hw,hF,zg,zH]
  |true =>
   obtain⟨⟨o1,o2,o3⟩,o4⟩:=hO rfl;rw[o4,hzp]at o3;obtain⟨e,he⟩:=js o2;have hel:e<zs[i].parts.length:=by omega
   have hei:(e:Int)<zs[i].parts.length:=by omega
   have hpl:zPX zs (i:Int) a.part=zs[i].parts[e].lane:=by unfold zPX;rw[hzp,he];simp[hel]
   rw[hpl];by_cases c1:zs[i].qc=0
   ·rw[if_neg (by simp[c1]),zj zI3.eq_1];simp[roM,zQI,zKF,zdP,hz,hi,hii,hw,hF,c1,zg,zH]
   ·have b1:(zs[i].qc==0)=false:=by simp[c1]
    have p1:0<zs[i].qc:=by omega
    by_cases c2:a.lo<=shi
    ·have b2:¬shi<a.lo:=by omega
     by_cases c3:slo<a.lo
     ·have b3:¬a.lo<=slo:=by omega
      obtain⟨j,hj⟩:∃j:Nat,zs[i].qc=j+1:=⟨(zs[i].qc-1).toNat,by omega⟩;have hjl:j<ss.length:=by omega
      have wj:IntKind.i64.wrap (zs[i].qc-1)=j:=by rw[hj];rw[zTd _ (by omega) (by omega)];omega
      have hgd:ss.getD (zs[i].qc-1).toNat ztn=ss[j]:=by
       rw[show(zs[i].qc-1).toNat=j by omega];simp[jm,hjl]
      have hG:=zRT hf j hjl zs[i].parts[e].lane (hf.pv _ (je hi) _ (je hel)).1 tick ht;rw[hgd];simp only[zf,hz]at hG;cases hg:zfA ss[j] zs[i].parts[e].lane tick with
      |true =>
       rw[hg]at hG;rw[if_neg (by simp),zj zI3.eq_1];simp[roM,zQI,zf,zKF,zdP,zeB,hz,hi,hii,hw,hF,c1,b1,c2,b2,c3,b3,he,hel,hei,wj,hG,zg,zH]
      |false =>
       rw[hg]at hG;rw[if_pos (by simp[p1,c2,c3]),zj zI3.eq_1];simp[roM,zQI,zf,zKF,zdP,zeB,hz,hi,hii,hw,hF,c1,b1,c2,b2,c3,b3,he,hel,hei,wj,hG,zg,zH]
     ·have b3:a.lo<=slo:=by omega
      rw[if_neg (by simp[c3]),zj zI3.eq_1];simp[roM,zQI,zKF,zdP,hz,hi,hii,hw,hF,c1,b1,c2,b2,c3,b3,zg,zH]
    ·have b2:shi<a.lo:=by omega
     rw[if_neg (by simp[c2]),zj zI3.eq_1];simp[roM,zQI,zKF,zdP,hz,hi,hii,hw,hF,c1,b1,c2,b2,zg,zH]
 have hL:=zxf (L:=L) (Cs:=Cs) (b:=zI3) (live:=some [9,2,1,3,4]) (n0:=1) (List.range zs.length) (fun i=>[(9,.w (W i)),(2,.w (W shi)),(1,.w (W slo)),(3,.w (W tick)),(4,.w (Pt 0))]) (roM m r ps c) (grP zs ss ps shi slo tick) (fun i=>(.ret,[(8,.w (Bo false))],roM m r ps c++[bxv 1 4 (zKF (zNx ps i).1),bxv 1 4 (zKF (zNx ps i).2.1)])) (.exit 0,[(18,.w (Bo false)),(9,.w (W zs.length)),(2,.w (W shi)),(1,.w (W slo)),(3,.w (W tick)),(4,.w (Pt 0))],roM m r ps c)
  (fun i hi hb=>by
   rw[vl]at hi;rw[uZ]at hb;rw[main i hi,hb];simp)
  (fun i hi hb=>by
   rw[vl]at hi;rw[uZ]at hb;rw[main i hi,hb];simp)
  (by rw[zj zI3.eq_1];simp[roM,hz])
 rw[zUa zQM rfl];simp only[jg,roM,zKF,jh,jf]at hL;cases hq:(List.range zs.length).findIdx? (grP zs ss ps shi slo tick)with
 |none =>
  rw[hq]at hL;rw[zRq _ _ hq];simp[zJa,hL,zg]
 |some i =>
  rw[hq]at hL;rw[zRn _ _ hq];simp[zJa,hL,zg]
theorem zR5{m:zD}{zs:List Zon}{r:List Int}(z:Int)(h:(zNx (zKh m zs 0 r) z).2.2=true):zPn zs (zNx (zKh m zs 0 r) z).1/\(zNx (zKh m zs 0 r) z).1.kD=z:=by
 obtain⟨p,h1,h2,h3⟩:=zPt z _ _ h rfl;unfold zNx;rw[h3];exact⟨zNh m zs r 0 p h1,h2⟩
theorem zRt(z:Int):∀(t:List Pss) (w:Pss×Pss×Bool),(w.2.2=true\/∃p∈t,p.kD=z)->(zLV z t w).2.2=true
 |[],w,h=>by
  rcases h with h |⟨p,hp,_⟩
  ·exact h
  ·cases hp
 |q::t,w,h=>by
  unfold zLV;by_cases c:q.kD=z
  ·rw[if_pos c];exact zRt z t _ (.inl rfl)
  ·rw[if_neg c];refine zRt z t w ?_;rcases h with h |⟨p,hp,hz⟩
   ·exact .inl h
   ·rcases jy.1 hp with rfl|hp
    ·exact absurd hz c
    ·exact .inr ⟨p,hp,hz⟩
theorem zRk(m:zD)(zs:List Zon)(r:List Int)(y:Nat):0<=(zKn (zKh m zs 0 r) y).entry<->(zNx (zKh m zs 0 r) y).2.2=true:=by
 obtain⟨_,h2,h3,_⟩:=zOR (zKh m zs 0 r) (fun p hp=>(zNh m zs r 0 p hp).2.1) y;cases hb:(zNx (zKh m zs 0 r) y).2.2 with
 |true=>exact⟨fun _=>rfl,fun _=>(h2 hb).1⟩
 |false=>rw[h3 hb];exact⟨fun h=>absurd h (by decide),fun h=>by cases h⟩
theorem zRC(m:zD)(zs:List Zon)(r:List Int)(p:Vis->Bool)(q:Nat->Bool)(h:∀y:Nat,y<zs.length->q y=((zNx (zKh m zs 0 r) y).2.2&&p (zKn (zKh m zs 0 r) y))):(pvV m zs r).any p=(List.range zs.length).any q:=by
 rw[Bool.eq_iff_iff,kx,kx];constructor
 ·rintro⟨v,hv,hp⟩;obtain⟨y,_,hy,he,rfl⟩:=(zNn _ _ _ _).1 hv;refine⟨y,qN.2 (by omega),?_⟩;rw[h y (by omega),hp,(zRk m zs r y).1 he];rfl
 ·rintro⟨y,hy,hq⟩;have hy:=qN.1 hy;rw[h y hy,jl]at hq;exact⟨zKn (zKh m zs 0 r) y,(zNn _ _ _ _).2 ⟨y,by omega,by omega,(zRk m zs r y).2 hq.1,rfl⟩,hq.2⟩
theorem zRZ(m:zD)(zs:List Zon)(r:List Int)(len:Int)(e:Ego):(pvV m zs r).any (zOS len e)=(List.range zs.length).any (enP (zKh m zs 0 r) len e.shi e.slo):=by
 refine zRC m zs r _ _ fun y hy=>?_
 obtain⟨_,_,_,h4,h5⟩:=zOR (zKh m zs 0 r) (fun p hp=>(zNh m zs r 0 p hp).2.1) y;unfold enP zOS;rw[h4,h5,Bool.and_assoc]
theorem zRE(m:zD)(zs:List Zon)(ss:List Sgn)(r:List Int)(shi slo tick:Int):(pvV m zs r).any (zNj zs ss shi slo tick)=(List.range zs.length).any (grP zs ss (zKh m zs 0 r) shi slo tick):=by
 refine zRC m zs r _ _ fun y hy=>?_
 obtain⟨h1,h2,_,h4,h5⟩:=zOR (zKh m zs 0 r) (fun p hp=>(zNh m zs r 0 p hp).2.1) y;unfold grP zNj zP1 zP0;cases hb:(zNx (zKh m zs 0 r) y).2.2 with
 |false=>simp
 |true =>
  rw[h1,h4,(h2 hb).2];simp only[uO,Bool.and_assoc]
theorem zRJ(m:zD)(zs:List Zon)(r:List Int)(sw:List Swp)(high low:Int):(pvV m zs r).any (alP zs (zKh m zs 0 r) sw high low)=(zKh m zs 0 r).any (znP zs (zKh m zs 0 r) sw high low):=by
 rw[Bool.eq_iff_iff,kx,kx];constructor
 ·rintro⟨v,hv,hp⟩;obtain⟨y,_,hy,he,rfl⟩:=(zNn _ _ _ _).1 hv;obtain⟨h1,h2,_,h4,h5⟩:=zOR (zKh m zs 0 r) (fun p hp=>(zNh m zs r 0 p hp).2.1) y;unfold alP zNf at hp;rw[h1,jl,kx]at hp;obtain⟨⟨p,hp1,hp2⟩,hp3⟩:=hp;unfold zM4 at hp2;simp only[jl,decide_eq_true_eq]at hp2;refine⟨p,hp1,?_⟩;unfold znP;rw[hp2.1.1,<-(h2 ((zRk m zs r y).1 he)).2,hp3];simp[hp2]
 ·rintro⟨p,hp,hq⟩;obtain⟨o1,_,_⟩:=zNh m zs r 0 p hp;obtain⟨y,hy⟩:=js o1.1;have hf:(zNx (zKh m zs 0 r) y).2.2=true:=zRt _ _ _ (.inr ⟨p,hp,hy⟩);obtain⟨h1,h2,_,h4,h5⟩:=zOR (zKh m zs 0 r) (fun p hp=>(zNh m zs r 0 p hp).2.1) y;refine⟨zKn (zKh m zs 0 r) y,(zNn _ _ _ _).2 ⟨y,by omega,by omega,(zRk m zs r y).2 hf,rfl⟩,?_⟩;unfold znP at hq;rw[hy,jl,jl,decide_eq_true_eq,decide_eq_true_eq]at hq;unfold alP zNf;rw[h1,(h2 hf).2,hq.2,Bool.and_true,kx];exact⟨p,hp,by simp[zM4,hy,hq.1]⟩
theorem zR1{m:zD}{zs:List Zon}{ss:List Sgn}(hF:zKj m zs ss){r:List Int}(hr:zdA m r=0)(c:zK8)(hc:0<=c.len/\c.len<=20000)(was now:zci)(hw:KJ m was)(ht:0<=was.tick)(hn:KJ m now)(hsh:now.ego.shi<=10000000000\/zmd m 0 r<now.ego.shi)(sw:List Swp)(hs:sw.length<=100000000000)(hok:∀s∈sw,zPI m s) :
  R L Cs zQV [.a (zQI m r (zKh m zs 0 r) c),.a (zG was),.a (zG now),.c (.jb (zbf sw))] []=some (.w (W (zMi m zs ss r c.len (zKh m zs 0 r) (pvV m zs r) was now sw)),[]):=by
 have hf:=hF.full;have h:=hf.qF;obtain⟨hon,hne,hl8⟩:=zg1 h hr;have hp:=hF.few r hr;have he:=hw.ego.s;have hen:=hn.ego;have hes:=hen.s;have hev:=hen.v;have hz:=hf.zd.z;have w1:=kg (was.ego.slo-c.len);have h3:=zRU h r hl8 hon (zKh m zs 0 r) c sw hs hok now.ego.shi;have h4:=zRS hz hf.zd.BA r (zKh m zs 0 r) (by omega) (zNh m zs r 0) c sw hs (was.ego.slo-c.len) now.ego.shi;have h5:=zRI (ss:=ss) hf r (zKh m zs 0 r) (by omega) (fun z hz=>zR5 z hz) c was.ego.slo now.ego.shi was.tick ht;rw[<-zRJ]at h4;rw[<-zRE]at h5;unfold zMi;simp only[zKs,zMG,zMH,zMF];have hEb:=zFu h r hl8 hon;by_cases c1:zmd m 0 r<now.ego.shi
 ·have e:onW m r now=3:=by rw[onW,if_pos c1]
  rw[e,if_neg (by decide),zUa zQH rfl];simp[zJi,zG,c1,zg]
 ·have e:onW m r now=0:=by rw[onW,if_neg c1]
  have hsh:=hsh.resolve_right c1;have h2:=zRA h hF.kE r (by omega) hon now.ego.slo now.ego.shi now.tick (by omega) (by omega);rw[e,if_pos rfl];unfold zMt;rw[Int.max_comm]at h2;generalize max (zNU m now.ego.slo now.ego.shi now.tick 0 (-1) r) 0=q at *;simp only[zQI,zf]at h2 h3 h4 h5;by_cases c2:q<now.ego.vhi
  ·rw[if_pos c2,if_neg (by decide),zUa zQH rfl];simp[zJi,zG,c1,h2,c2,zg]
  ·rw[if_neg c2,if_pos rfl];rcases uP ((pvV m zs r).any (alP zs (zKh m zs 0 r) sw now.ego.shi (was.ego.slo-c.len)))with q4|q4<;>rcases uP ((pvV m zs r).any (zNj zs ss now.ego.shi was.ego.slo was.tick))with q5|q5<;>rw[q4]at h4<;>rw[q5]at h5<;>simp only[q4,q5]
   all_goals
    by_cases c0:now.ego.vhi=0
    ·have g0:¬0<now.ego.vhi:=by omega
     rw[if_pos c0,zUa zQH rfl];clear c0;simp (maxSteps:=1000000) [zJi,zG,c1,h2,c2,g0,h4,h5,w1,zg]
    ·have g0:0<now.ego.vhi:=by omega
     rw[if_neg c0];clear c0;rcases uP (sw.any (apP m r now.ego.shi))with q3|q3<;>rw[q3]at h3<;>simp only[q3]<;>rw[zUa zQH rfl]<;>simp (maxSteps:=1000000) [zJi,zG,c1,h2,c2,g0,h3,h4,h5,w1,zg]
def zRj(m:zD)(zs:List Zon)(ss:List Sgn)(r:List Int)(len:Int)(signals:Bool):List Int->Nat->zci->Option (Nat×Int)×zci
 |[],i,k=>(none,k)
 |a::t,i,k=>if zV2 m r k.tick k.ego a then(some (0,1),k) else if zMi m zs ss r len (zKh m zs 0 r) (pvV m zs r) k (zEt m zs ss r len signals k a) (zKu m zs ss r len signals k a)=0 then zRj m zs ss r len signals t (i+1) (zEt m zs ss r len signals k a) else(some (i+1,zMi m zs ss r len (zKh m zs 0 r) (pvV m zs r) k (zEt m zs ss r len signals k a) (zKu m zs ss r len signals k a)),k)
abbrev rvM(m:zD)(r:List Int)(ps:List Pss)(c:zK8)(kv:Nat)(k:zci)(jM:List Int)(rv:Nat)(x:Bool×Int×Int):Mem:=[bx 5 (zf m),bx 5 (Pl.jH c),bxv kv 6 (zG k),bx 1 [.jb (zu jM)],bxv rv 3 (zJ4 x),bxv 1 3 [.bool false,I 0,I 1],bxv 1 14 (zQI m r ps c)]
abbrev rvE(r:List Int)(signals:Bool)(i:Nat):Env:=[(17,.w (W i)),(9,.w (Pt 2)),(16,.w (Pt 6)),(6,.w (Pt 0)),(5,.w (Bo signals)),(10,.w (Pt 3)),(8,.w (Pt 1)),(1,.w (.c (.jb (zu r)))),(13,.w (Pt 5)),(12,.w (Pt 4))]
theorem zRz{m:zD}(h:zcp m){r:List Int}(hr:zdA m r=0)(e:Ego)(a:Int):(zaN m r e a).shi<=e.shi+2000:=by
 obtain⟨hon,hne,hl8⟩:=zg1 h hr;obtain⟨x0,r',rfl⟩:∃x r',r=x::r':=by cases r with|nil=>exact absurd rfl hne|cons x r'=>exact⟨x,r',rfl⟩
 have:=zge h r' (hon x0 (jr ..)) a e.vhi;simp only[zaN];omega
theorem zRV{m:zD}{zs:List Zon}{ss:List Sgn}(hF:zKj m zs ss){r:List Int}(hr:zdA m r=0)(c:zK8)(hc:c.ok)(signals:Bool)(jM:List Int)(hin:∀a∈jM,zk0 a)(hal:jM.length<=1000):∀(t:List Int) (i kv:Nat) (k:zci),jM.drop i=t->i<=jM.length->zdf m k=0 ->
  ((zRj m zs ss r c.len signals t i k).1=none->znd (zRj m zs ss r c.len signals t i k).2.ego/\∃kv',Y L Cs zJm (some [17,9,16,6,5,10,8,1,13,12]) 7 (rvE r signals i) (rvM m r (zKh m zs 0 r) c kv k jM 0 (false,0,0))=some (.exit 0,(77,.w (Bo false))::rvE r signals jM.length,rvM m r (zKh m zs 0 r) c kv' (zRj m zs ss r c.len signals t i k).2 jM 0 (false,0,0))) /\
  (∀at' why,(zRj m zs ss r c.len signals t i k).1=some (at',why)->∃kv' k' T,Y L Cs zJm (some [17,9,16,6,5,10,8,1,13,12]) 7 (rvE r signals i) (rvM m r (zKh m zs 0 r) c kv k jM 0 (false,0,0))=some (.ret,[(12,.w (Pt 4))],rvM m r (zKh m zs 0 r) c kv' k' jM 1 (false,(at':Int),why)++T)):=by
 have hf:=hF.full;have h:=hf.qF;obtain⟨hon,hne,hl8⟩:=zg1 h hr;have hEb:=zFu h r hl8 hon;have hcl:300<=c.len/\c.len<=20000:=⟨hc.1,hc.2.1⟩;intro t;induction t with
 |nil =>
  intro i kv k hd hi hck;obtain rfl:=zUb hd hi;refine⟨fun _=>⟨(zte hck).1,kv,?_⟩,fun _ _ q=>(by cases q)⟩;rw[zj zJm.eq_1];simp[rvE,rvM,zRj]
 |cons a t ih =>
  intro i kv k hd hi hck;obtain⟨hil,hx,hd'⟩:=zL hd;have hw:=zB (i:=i) (by omega);have ha:zk0 a:=hin a (by rw[<-hx];exact je hil);have hke:=zte hck;have hko:=zFp h hf.ye hck;have hkj:=zPP h hck;have hS:=zy6 hf r (by omega) c.len k hko.len hko.ok a ha signals;have hG:=zDw hf hr c.len (by omega) k (zN7 h hf.ye hkj) (by omega) hkj.ego hkj.vb a ha signals;have hd2:=zRz h hr k.ego a;have hEe:zm6 m r c.len k a=0<->¬zV2 m r k.tick k.ego a:=by
   unfold zm6 zV2;rw[if_pos hck,if_pos hr];constructor
   ·intro q;split at q
    ·omega
    ·cases q
   ·intro q;rw[if_pos ⟨hcl,by omega,by omega⟩]
  have hE2:zV2 m r k.tick k.ego a->zm6 m r c.len k a=2:=by
   intro q;unfold zV2 at q;unfold zm6;rw[if_pos hck,if_pos hr,if_neg (by omega)]
  unfold zRj;by_cases hb:zV2 m r k.tick k.ego a
  ·rw[if_pos hb];refine⟨fun q=>(by cases q),fun at' why q=>?_⟩;simp only[ji,jx]at q;obtain⟨rfl,rfl⟩:=q;clear ih hG;have e2:=hE2 hb;unfold zsH at hS;rw[if_neg (by omega),e2]at hS;unfold zV2 at hb;refine⟨kv,k,[bxv 1 6 (zG ⟨0,[],⟨0,0,0,0⟩⟩)],?_⟩;simp only[zf,zG]at hS;rw[zj zJm.eq_1];by_cases g1:k.tick=1099511627776
   ·rw[g1]at hS;simp (maxSteps:=1000000) [rvE,rvM,zf,zG,Pl.jH,zJ4,zJY,hil,hx,g1,hS,zg,zH]
   ·have g1b:(k.tick==1099511627776)=false:=by simp[g1]
    have g2:1099511625776<k.ego.shi:=by omega
    simp (maxSteps:=1000000) [rvE,rvM,zf,zG,Pl.jH,zJ4,zJY,hil,hx,g1,g1b,g2,hS,zg,zH]
  ·rw[if_neg hb];have e0:=hEe.2 hb;have hnk:=zFh hf (zs:=zs) (ss:=ss) e0 signals;have hnj:=zPP h hnk;have hso:=zOa hf (zs:=zs) (ss:=ss) r c.len signals hkj a;have hsl:=zNq hf (zs:=zs) (ss:=ss) hr c.len signals hkj a;have hR:=zR1 hF hr c (by omega) k (zEt m zs ss r c.len signals k a) hkj (by omega) hnj (by by_cases q:zmd m 0 r<(zEt m zs ss r c.len signals k a).ego.shi;exact .inr q;exact .inl (by omega)) (zKu m zs ss r c.len signals k a) hsl hso;unfold zsH at hS;rw[if_pos e0]at hS;unfold zV2 at hb;have ih':=ih (i+1) (kv+1) (zEt m zs ss r c.len signals k a) hd' hil hnk;clear ih;generalize zMi m zs ss r c.len (zKh m zs 0 r) (pvV m zs r) k (zEt m zs ss r c.len signals k a) (zKu m zs ss r c.len signals k a)=wy at *;generalize hkk:zEt m zs ss r c.len signals k a=K at *;unfold zEt at hkk;rw[hkk]at hS hG;generalize hss:zKu m zs ss r c.len signals k a=sw at *;unfold zKu at hss;rw[hss]at hS hG;clear hkk hss hso hsl hnj hnk hEe hE2;generalize zKh m zs 0 r=ps at *;simp only[zf,zG,zQI]at hS hG hR;by_cases c1:wy=0
   ·rw[if_pos c1];subst c1;have step:Y L Cs zJm (some [17,9,16,6,5,10,8,1,13,12]) 7 (rvE r signals i) (rvM m r ps c kv k jM 0 (false,0,0))=Y L Cs zJm (some [17,9,16,6,5,10,8,1,13,12]) 7 (rvE r signals (i+1)) (rvM m r ps c (kv+1) K jM 0 (false,0,0)):=by
     clear ih';rw[zj zJm.eq_1];have g1:¬k.tick=1099511627776:=by omega
     have g1b:(k.tick==1099511627776)=false:=by simp[g1]
     by_cases g2:1099511625776<k.ego.shi
     ·simp (maxSteps:=1000000) [rvE,rvM,zf,zG,Pl.jH,zJ4,zJY,hil,hx,hw,g1,g1b,g2,hS,hG,hR,zg,zH]
     ·simp (maxSteps:=1000000) [rvE,rvM,zf,zG,Pl.jH,zJ4,zJY,hil,hx,hw,g1,g1b,g2,hG,hR,zg,zH]
    rw[step];exact ih'
   ·rw[if_neg c1];refine⟨fun q=>(by cases q),fun at' why q=>?_⟩;simp only[ji,jx]at q;obtain⟨rfl,rfl⟩:=q;have cb:(wy==0)=false:=by simp[c1]
    clear ih';have g1:¬k.tick=1099511627776:=by omega
    have g1b:(k.tick==1099511627776)=false:=by simp[g1]
    by_cases g2:1099511625776<k.ego.shi
    ·refine⟨kv,k,[bxv 1 6 (zG K),bxv 1 6 (zG K)],?_⟩;rw[zj zJm.eq_1];simp (maxSteps:=1000000) [rvE,rvM,zf,zG,Pl.jH,zJ4,zJY,hil,hx,hw,g1,g1b,g2,hS,hG,hR,c1,cb,zg,zH]
    ·refine⟨kv,k,[bxv 1 6 (zG K)],?_⟩;rw[zj zJm.eq_1];simp (maxSteps:=1000000) [rvE,rvM,zf,zG,Pl.jH,zJ4,zJY,hil,hx,hw,g1,g1b,g2,hG,hR,c1,cb,zg,zH]
abbrev zGv:=Go.PlanLaw.Car
abbrev jH(c:zGv):List Cl:=Pl.jH c
@[simp] theorem zHc(k:zci):(zG k).length=6:=rfl
abbrev zHe:Sh:=.st [zmN,zmN,zmN,zmN,zmN]
theorem zG9{cs:List Cl}(h:zfo zHe cs):∃c:zGv,cs=jH c:=by
 simp only[zfo,znD]at h;obtain⟨_,_,rfl,⟨a1,rfl,_⟩,_,_,rfl,⟨a2,rfl,_⟩,_,_,rfl,⟨a3,rfl,_⟩,_,_,rfl,⟨a4,rfl,_⟩,_,_,rfl,⟨a5,rfl,_⟩,rfl⟩:=h;exact⟨⟨a1,a2,a3,a4,a5⟩,rfl⟩
def zRB(m:zD)(zs:List Zon)(ss:List Sgn)(r:List Int)(c:zK8)(k:zci)(jM:List Int)(signals:Bool):Bool×Int×Int :=
 if zKW m r c k=true/\Go.PlanLaw.qy c jM=0 then zLH c.len (pvV m zs r) jM (zRj m zs ss r c.len signals jM 0 k) else(false,0,1)
theorem zRD(m:zD)(zs:List Zon)(r:List Int)(len:Int)(k:zci):zLQ len (pvV m zs r) k=(!(List.range zs.length).any (enP (zKh m zs 0 r) len k.ego.shi k.ego.slo)&&decide (k.ego.vhi=0)):=by
 unfold zLQ;rw[zRZ,Bool.and_comm]
theorem zRF{m:zD}{zs:List Zon}{ss:List Sgn}(hF:zKj m zs ss)(r:List Int)(hl:r.length<=1000)(c:zK8)(k:zci)(hk:k.j8.length<=100000000000)(hok:∀b∈k.j8,OKB b)(jM:List Int)(hin:∀a∈jM,zk0 a)(hal:jM.length<=1000)(signals:Bool) :
  R L Cs zQ1 [.a (zf m),.c (.jb (zu r)),.a (Pl.jH c),.a (zG k),.a [.jb (zu jM)],Bo signals] []=some (.w (.a (zJ4 (zRB m zs ss r c k jM signals))),[]):=by
 have hf:=hF.full;have h:=hf.qF;have h1:=zR6 h hF.fit.2;have h2:=zp0 m h.small h.AP r hl;have h3:=Pl.yT c jM hal;have h4:=yT h k hk hok;unfold zRB zKW;by_cases hr:zdA m r=0
 ·obtain⟨hon,hne,hl8⟩:=zg1 h hr;rw[hr]at h2;obtain⟨x0,r',rfl⟩:∃x r',r=x::r':=by cases r with|nil=>exact absurd rfl hne|cons x r'=>exact⟨x,r',rfl⟩
  have hx0:=hon x0 (jr ..);obtain⟨n,rfl⟩:=js hx0.1;have hn:n<m.jc.length:=by omega
  have hni:(n:Int)<m.jc.length:=hx0.2;have hkd:zaK m (((n:Int)::r').headD 0)=m.jc[n].kind:=by simp[zaK,hn]
  rw[hkd];by_cases c1:m.jc[n].kind=1
  ·by_cases c2:Go.PlanLaw.qy c jM=0
   ·obtain⟨hc,hne2,hal2⟩:=zVR c2;have hcf:Pl.yS c=0:=by rw[Pl.yS,if_pos hc]
    rw[c2]at h3;by_cases c3:zdf m k=0
    ·rw[c3]at h4;rw[if_pos (by simp[hr,c1,hcf,c3,c2])];have hBg:=zvX h hl hon;have hP:=zRH hf hr (hF.srt _ hr) (hF.few _ hr);obtain⟨g1,g2⟩:=zRV hF hr c hc signals jM hin hal jM 0 0 k rfl (jt _) c3;have hE:=fun e he=>zR2 hf.zd.z (by have:=hF.two;omega) ((n:Int)::r') (zKh m zs 0 ((n:Int)::r')) (by have:=hF.few _ hr;omega) c (by have:=hc.1;have:=hc.2.1;omega) e he
     generalize hrl:zRj m zs ss ((n:Int)::r') c.len signals jM 0 k=y at *;obtain⟨o,k2⟩:=y;cases o with
     |none =>
      obtain⟨he2,kv,g⟩:=g1 rfl;have hE:=hE k2.ego he2;clear g1 g2;have e:zLH c.len (pvV m zs ((n:Int)::r')) jM (none,k2)=if zLQ c.len (pvV m zs ((n:Int)::r')) k2 then(true,0,0) else(false,(jM.length:Int),7):=rfl
      rw[e,zRD];generalize (!(List.range zs.length).any (enP (zKh m zs 0 ((n:Int)::r')) c.len k2.ego.shi k2.ego.slo)&&decide (k2.ego.vhi=0))=q at *;generalize zKh m zs 0 ((n:Int)::r')=ps at *;simp only[zf,zG,Pl.jH,zJ4,zJY,zQI,zch,rvE,rvM,zaP,jg]at h1 h2 h3 h4 hBg hP g hE;cases q<;>rw[zUa zQG rfl]<;>simp (maxSteps:=1000000) [zJJ,zf,zo,zG,Pl.jH,zJ4,zJY,zch,h1,h2,h3,h4,hn,hni,c1,hBg,hP,g,hE,zg,zH]
     |some aw =>
      obtain⟨at',why⟩:=aw;obtain⟨kv,k',T,g⟩:=g2 at' why rfl;clear g1 g2;have e:zLH c.len (pvV m zs ((n:Int)::r')) jM (some (at',why),k2)=(false,(at':Int),why):=rfl;rw[e];generalize zKh m zs 0 ((n:Int)::r')=ps at *;simp only[zf,zG,Pl.jH,zJ4,zJY,zQI,zch,rvE,rvM,zaP,jg,jh,jf]at h1 h2 h3 h4 hBg hP g;rw[zUa zQG rfl];simp (maxSteps:=1000000) [zJJ,zf,zo,zG,Pl.jH,zJ4,zJY,h1,h2,h3,h4,hn,hni,c1,hBg,hP,g,zg,zH]
    ·have cb:(zdf m k !=0)=true:=by simp[c3]
     rw[if_neg (by simp[c3])];simp only[zf,zG,Pl.jH,zaP]at h1 h2 h3 h4;generalize zdf m k=e at *;rw[zUa zQG rfl];simp (maxSteps:=1000000) [zJJ,zf,zo,zG,Pl.jH,zJ4,zJY,h1,h2,h3,h4,hn,hni,c1,c3,cb,zg,zH]
   ·have cb:(Go.PlanLaw.qy c jM !=0)=true:=by simp[c2]
    rw[if_neg (fun q=>c2 q.2)];simp only[zf,zG,Pl.jH,zaP]at h1 h2 h3 h4;generalize Go.PlanLaw.qy c jM=e at *;rw[zUa zQG rfl];simp (maxSteps:=1000000) [zJJ,zf,zo,zG,Pl.jH,zJ4,zJY,h1,h2,h3,hn,hni,c1,c2,cb,zg,zH]
  ·have cb:(m.jc[n].kind !=1)=true:=by simp[c1]
   rw[if_neg (by simp[c1])];simp only[zf,zaP]at h1 h2;rw[zUa zQG rfl];simp (maxSteps:=1000000) [zJJ,zf,zo,zG,Pl.jH,zJ4,zJY,h1,h2,hn,hni,c1,cb,zg,zH]
 ·have hb:(zdA m r !=0)=true:=by simp[hr]
  rw[if_neg (by simp[hr])];simp only[zf]at h1 h2;generalize zdA m r=rv at *;rw[zUa zQG rfl];simp (maxSteps:=1000000) [zJJ,zf,zG,Pl.jH,zJ4,zJY,h1,h2,hr,hb,zg,zH]
theorem zRK(m:zD)(zs:List Zon)(ss:List Sgn)(r:List Int)(len:Int)(ps:List Pss)(vs:List Vis)(was now:zci)(sw:List Swp):zMi m zs ss r len ps vs was now sw≠7:=by
 unfold zMi onW zMt zMF zMG zMH;simp only[zKs]
 repeat' split
 all_goals first |omega |(intro q;omega)
theorem zRY{m:zD}{zs:List Zon}{ss:List Sgn}{r:List Int}(len:Int)(signals:Bool)(all:List Int):∀(t:List Int) (n:Nat) (k:zci),n+t.length=all.length ->
  zLH len (pvV m zs r) all (zRj m zs ss r len signals t n k)=zKX (zLH len (pvV m zs r) all (zKr m zs ss r len (zKh m zs 0 r) (pvV m zs r) signals t n k)) ((fbF m r t k.tick k.ego).map (· + n)):=by
 intro t;induction t with
 |nil=>intro n k hn;rfl
 |cons a t ih =>
  intro n k hn;have at_le:∀(t:List Int) (n:Nat) (k:zci),0<(zLH len (pvV m zs r) all (zKr m zs ss r len (zKh m zs 0 r) (pvV m zs r) signals t n k)).2.1->(zLH len (pvV m zs r) all (zKr m zs ss r len (zKh m zs 0 r) (pvV m zs r) signals t n k)).2.2≠7->(n:Int)<(zLH len (pvV m zs r) all (zKr m zs ss r len (zKh m zs 0 r) (pvV m zs r) signals t n k)).2.1:=by
   intro t;induction t with
   |nil =>
    intro n k h1 h2;rw[show zKr m zs ss r len (zKh m zs 0 r) (pvV m zs r) signals [] n k=(none,k) from rfl]at h1 h2;simp only[zLH]at h1 h2;by_cases hs:zLQ len (pvV m zs r) k=true
    ·rw[if_pos hs]at h1;exact absurd h1 (by decide)
    ·rw[if_neg hs]at h2;exact absurd rfl h2
   |cons b t ih2 =>
    intro n k h1 h2;unfold zKr at h1 h2 ⊢;split at h1
    ·rename_i hc;rw[if_pos hc]at h2;have:=ih2 (n+1) _ h1 h2;rw[if_pos hc];omega
    ·rename_i hc;rw[if_neg hc];simp only[zLH];omega
  by_cases hb:zV2 m r k.tick k.ego a
  ·have e1:zRj m zs ss r len signals (a::t) n k=(some (0,1),k):=by rw[zRj,if_pos hb]
   have e2:fbF m r (a::t) k.tick k.ego=some 0:=by rw[fbF,if_pos hb]
   rw[e1,e2];have h:=at_le (a::t) n k;generalize zLH len (pvV m zs r) all (zKr m zs ss r len (zKh m zs 0 r) (pvV m zs r) signals (a::t) n k)=x at *;simp only[qD,jB,zKX];rw[if_neg]
   ·rfl
   ·rintro⟨q1,q2,q3⟩;have:=h q1 q3;omega
  ·rw[zRj,if_neg hb,zKr,fbF,if_neg hb];by_cases hw:zMi m zs ss r len (zKh m zs 0 r) (pvV m zs r) k (zEt m zs ss r len signals k a) (zKu m zs ss r len signals k a)=0
   ·have hon:=zNe hw;rw[if_pos hw,if_pos hw,if_neg (by show ¬zmd m 0 r<(zEt m zs ss r len signals k a).ego.shi;omega),ih (n+1) _ (by simp only[jk]at hn;omega),Option.map_map];have e:(fun x=>x+(n+1))=((fun x=>x+n)∘fun x=>x+1:Nat->Nat):=by funext x;simp only[Function.comp];omega
    rw[e];rfl
   ·rw[if_neg hw,if_neg hw];have h7:=zRK m zs ss r len (zKh m zs 0 r) (pvV m zs r) k (zEt m zs ss r len signals k a) (zKu m zs ss r len signals k a);simp only[zLH];by_cases Br:zmd m 0 r<(zaN m r k.ego a).shi
    ·rw[if_pos Br];rfl
    ·rw[if_neg Br];cases fbF m r t (k.tick+1) (zaN m r k.ego a)with
     |none=>rfl
     |some b =>
      simp only[qD,zKX];rw[if_pos ⟨by omega,by omega,h7⟩]
theorem zR4(m:zD)(zs:List Zon)(ss:List Sgn)(r:List Int)(c:zK8)(k:zci)(jM:List Int)(signals:Bool):zRB m zs ss r c k jM signals=zOk m zs ss r c k jM signals:=by
 unfold zRB zOk zNw;rw[zRY c.len signals jM jM 0 k (by omega)];have:(fun x:Nat=>x+0)=id:=by funext x;rfl
 rw[this,Option.map_id];rfl
abbrev up8:List Int:=[6,6,3,3,1,1,0,0]
abbrev ho8:List Int:=[4,0,4,0,4,0,4,0]
abbrev slP(id:Nat)(l:List (List Int)):WV:=.c (.slice id l.length 1 0 l.length none)
abbrev zSN(q:List Int)(last v:Int)(i:Nat)(o:List (List Int)):Env:=[(11,.w (slP 4 o)),(12,.w (W i)),(1,.w (.c (.jb (zu q)))),(2,.w (W last)),(3,.w (W v)),(9,.w (.c (.slice 2 8 1 0 8 none))),(10,.w (.c (.slice 3 8 1 0 8 none))),(4,.w (Pl.Pt 0))]
abbrev lit8(l:List Int):Option Blk:=some { box:=false,esz:=1,rows:=zu l,gen:=8,fz:=false,ver:=8 }
abbrev zSM(c:Car)(U H:List Int)(o:List (List Int)):Mem:=[bx 5 (Pl.jH c),gb 1,lit8 U,lit8 H,some (own 1 (Pl.qj o))]
@[simp] theorem zSW(o:List (List Int)):(Pl.qj o).length=o.length:=by simp[Pl.qj]
theorem zSp(c:Car)(U H:List Int)(hU:U.length=8)(hH:H.length=8)(q:List Int)(last v:Int)(i:Nat)(hi:i<8)(o:List (List Int))(ho:o.length=i)(p:List Int)(hp:R L Cs zSq [.a (Pl.jH c),.c (.jb (zu q)),W last,W v,W (U[i]'(by omega)),W (H[i]'(by omega))] []=some (.w (.a [.jb (zu p)]),[])) :
  Y L Cs zR9 (some [11,12,1,2,3,9,10,4]) 5 (zSN q last v i o) (zSM c U H o)=Y L Cs zR9 (some [11,12,1,2,3,9,10,4]) 5 (zSN q last v (i+1) (o++[p])) (zSM c U H (o++[p])):=by
 have hw:=zB (i:=i) (by omega);have h8:(i:Int)<8:=by omega
 have jX:(o.length+1)*24<=140737488355328:=by omega
 have hiU:i<U.length:=by omega
 have hiH:i<H.length:=by omega
 generalize hu:U[i]=u at *;generalize hh:H[i]=h at *;simp only[Pl.jH]at hp;have hT:List.take o.length (List.map (fun p:List Int=>[Cl.jb (zu p)]) o)=List.map (fun p:List Int=>[Cl.jb (zu p)]) o:=jG (by simp);rw[zj zR9.eq_1];simp[zSN,zSM,slP,own,Pl.qj,Pl.jH,hT,hi,h8,hiU,hiH,hu,hh,hp,hw,jX]
theorem zSX(c:Car)(U H:List Int)(hU:U.length=8)(hH:H.length=8)(q:List Int)(last v:Int)(o:List (List Int)) :
  Y L Cs zR9 (some [11,12,1,2,3,9,10,4]) 5 (zSN q last v 8 o) (zSM c U H o)=some (.exit 0,(21,.w (Bo false))::zSN q last v 8 o,zSM c U H o):=by
 rw[zj zR9.eq_1];simp[zSN,zSM,slP,own,Pl.qj,Pl.jH,hU,hH]
theorem zSV{c:Car}(hc:c.ok)(q:List Int)(hql:q.length<=1000)(last v:Int):Y L Cs zR9 (some [11,12,1,2,3,9,10,4]) 5 (zSN q last v 0 []) (zSM c up8 ho8 [])=some (.exit 0,(21,.w (Bo false))::zSN q last v 8 (Pl.uy c q last (max 0 (min v 2000))),zSM c up8 ho8 (Pl.uy c q last (max 0 (min v 2000)))):=by
 have hp:=fun(up hold:Nat) (hu:up<=20) (hh:hold<=20)=>zSO hc q hql last v up hold hu hh
 rw[zSp c up8 ho8 rfl rfl q last v 0 (by decide) [] rfl _ (hp 6 4 (by decide) (by decide)),
  zSp c up8 ho8 rfl rfl q last v 1 (by decide) _ rfl _ (hp 6 0 (by decide) (by decide)),
  zSp c up8 ho8 rfl rfl q last v 2 (by decide) _ rfl _ (hp 3 4 (by decide) (by decide)),
  zSp c up8 ho8 rfl rfl q last v 3 (by decide) _ rfl _ (hp 3 0 (by decide) (by decide)),
  zSp c up8 ho8 rfl rfl q last v 4 (by decide) _ rfl _ (hp 1 4 (by decide) (by decide)),
  zSp c up8 ho8 rfl rfl q last v 5 (by decide) _ rfl _ (hp 1 0 (by decide) (by decide)),
  zSp c up8 ho8 rfl rfl q last v 6 (by decide) _ rfl _ (hp 0 4 (by decide) (by decide)),
  zSp c up8 ho8 rfl rfl q last v 7 (by decide) _ rfl _ (hp 0 0 (by decide) (by decide))]
 exact zSX c up8 ho8 rfl rfl q last v _
theorem zSG{c:Car}(hc:c.ok)(q:List Int)(hql:q.length<=1000)(last v:Int) :
  R L Cs zSn [.a (Pl.jH c),.c (.jb (zu q)),W last,W v] []=some (.w (.c (.jb (Pl.qj (Pl.uy c q last (max 0 (min v 2000)))))),[]):=by
 have h0:=Pl.vQ hc;have h1:=zSV hc q hql last v;have hl:(Pl.uy c q last (max 0 (min v 2000))).length=8:=rfl;generalize Pl.uy c q last (max 0 (min v 2000))=o at *;simp only[zSN,zSM,lit8,slP,own,Pl.jH,zSW,Pl.qj,vk,jp,jg,up8,ho8,zaP,zay,hl]at h0 h1;rw[zUa zSo rfl];simp[zSg,Pl.jH,h0,h1,hl,zg,zX];exact jG (by simp[hl])
abbrev zSK(m:zD)(c:zK8)(k:zci):Mem:=[bx 5 (zf m),bx 5 (Pl.jH c),bx 6 (zG k),bx 1 [.jd]]
abbrev zSL(r:List Int)(l:List (List Int))(kl:Int)(signals:Bool)(i:Nat):Env:=[(20,.w (W i)),(6,.w (W kl)),(1,.w (.c (.jb (zu r)))),(7,.w (Bo signals)),(8,.w (Pt 0)),(10,.w (Pt 1)),(11,.w (Pt 2)),(19,.w (.c (.jb (Pl.qj l)))),(21,.w (W i)),(16,.w (Pt 3))]
abbrev zSZ(r:List Int)(l:List (List Int))(kl:Int)(signals:Bool)(i:Nat):Env:=[(37,.w (Bo false)),(20,.w (W i)),(11,.w (Pt 2)),(10,.w (Pt 1)),(8,.w (Pt 0)),(7,.w (Bo signals)),(1,.w (.c (.jb (zu r)))),(6,.w (W kl)),(19,.w (.c (.jb (Pl.qj l)))),(21,.w (W i)),(16,.w (Pt 3))]
theorem zSY{m:zD}{zs:List Zon}{ss:List Sgn}(hF:zKj m zs ss)(r:List Int)(hl:r.length<=1000)(c:zK8)(k:zci)(hk:k.j8.length<=100000000000)(hok:∀b∈k.j8,OKB b)(signals:Bool)(kl:Int)(l:List (List Int))(hll:l.length<=100)(hin:∀p∈l,(∀a∈p,zk0 a)/\p.length<=1000):∀(t:List (List Int)) (i:Nat),l.drop i=t->i<=l.length ->
  ((zK5 kl (okC m zs ss r c k signals (zKW m r c k)) t i).1=-1/\∃n:Nat,(zK5 kl (okC m zs ss r c k signals (zKW m r c k)) t i).2=n/\Y L Cs zR8 (some [20,6,1,7,8,10,11,19,21,16]) 4 (zSL r l kl signals i) (zSK m c k)=some (.exit 0,zSZ r l kl signals n,zSK m c k)) \/
  (∃f:Nat,zK5 kl (okC m zs ss r c k signals (zKW m r c k)) t i=((f:Int),((f+1:Nat):Int))/\∃T v,Y L Cs zR8 (some [20,6,1,7,8,10,11,19,21,16]) 4 (zSL r l kl signals i) (zSK m c k)=some (.ret,[(16,.w (Pt 3)),(17,.w (W (f+1:Nat))),(18,.w (Bo true))],[bx 5 (zf m),bx 5 (Pl.jH c),bx 6 (zG k),bxv v 1 [.jb (zu (zMT l f))]]++T)):=by
 intro t;induction t with
 |nil =>
  intro i hd hi;obtain rfl:=zUb hd hi;refine .inl ⟨rfl,l.length,rfl,?_⟩;rw[zj zR8.eq_1];simp[zSL,zSZ,zSK]
 |cons p t ih =>
  intro i hd hi;obtain⟨hil,hx,hd'⟩:=zL hd;have hw:=zB (i:=i) (by omega);obtain⟨p1,p2⟩:=hin p (by rw[<-hx];exact je hil);have hV:=zRF hF r hl c k hk hok p p1 p2 signals;rw[zR4]at hV;have hy:=zN9 m zs ss r c k p signals;generalize zOk m zs ss r c k p signals=y at *;obtain⟨y1,y2,y3⟩:=y;simp only[]at hy;unfold zK5;rw[<-hy];have hii:(i:Int)<l.length:=by omega
  by_cases c1:kl<=(i:Int)
  ·rw[if_pos c1];refine .inl ⟨rfl,i,rfl,?_⟩;have c1':¬(i:Int)<kl:=by omega
   rw[zj zR8.eq_1];simp[zSL,zSZ,zSK,Pl.qj,hil,hii,c1',c1]
  ·rw[if_neg c1];have c1':(i:Int)<kl:=by omega
   cases y1 with
   |false =>
    rw[if_neg (by decide)];rcases ih (i+1) hd' hil with⟨h1,n,h2,h3⟩ |⟨f,h1,T,v,h3⟩
    ·refine .inl ⟨h1,n,h2,?_⟩;rw[<-h3,zj zR8.eq_1];simp only[zf,zG,Pl.jH,zJ4,zJY]at hV;simp (maxSteps:=1000000) [zSL,zSK,zf,zG,Pl.jH,Pl.qj,hil,hii,hx,c1',c1,hV,hw,zg,zH]
    ·refine .inr ⟨f,h1,T,v,?_⟩;rw[<-h3,zj zR8.eq_1];simp only[zf,zG,Pl.jH,zJ4,zJY]at hV;simp (maxSteps:=1000000) [zSL,zSK,zf,zG,Pl.jH,Pl.qj,hil,hii,hx,c1',c1,hV,hw,zg,zH]
   |true =>
    rw[if_pos rfl];have hsp:zMT l i=p:=by
     unfold zMT;rw[if_neg (by omega),Int.toNat_natCast,jm,jq hil,hx];rfl
    refine .inr ⟨i,rfl,[],1,?_⟩;rw[hsp,zj zR8.eq_1];simp only[zf,zG,Pl.jH,zJ4,zJY]at hV;simp (maxSteps:=1000000) [zSL,zSK,zf,zG,Pl.jH,Pl.qj,hil,hii,hx,c1',c1,hV,hw,zg,zH]
theorem zSU{m:zD}{zs:List Zon}{ss:List Sgn}(hF:zKj m zs ss)(r:List Int)(hl:r.length<=1000)(c:zK8)(hc:c.ok)(k:zci)(hk:k.j8.length<=100000000000)(hok:∀b∈k.j8,OKB b)(q:List Int)(hq:q.length<=5)(last kl:Int)(hin:∀p∈zLj c q last k,(∀a∈p,zk0 a)/\p.length<=1000)(signals:Bool) :
  R L Cs zSr [.a (zf m),.c (.jb (zu r)),.a (Pl.jH c),.a (zG k),.c (.jb (zu q)),W last,W kl,Bo signals] [] =
    some (.t [.a [.jb (zu (zMT (zLj c q last k) (zOU m zs ss r c k q last kl signals).1))],W (zOU m zs ss r c k q last kl signals).2,Bo (decide (0<=(zOU m zs ss r c k q last kl signals).1))],[]):=by
 have h2:=zSG hc q (by omega) last k.ego.vhi;have hlen:(zLj c q last k).length=8:=rfl;have h3:=zSY hF r hl c k hk hok signals kl (zLj c q last k) (by omega) hin (zLj c q last k) 0 rfl (jt _);unfold zOU;simp only[zLj]at *;generalize zK5 kl (okC m zs ss r c k signals (zKW m r c k)) (Pl.uy c q last (max 0 (min k.ego.vhi 2000))) 0=y at *;generalize Pl.uy c q last (max 0 (min k.ego.vhi 2000))=ws at *;obtain⟨y1,y2⟩:=y;rcases h3 with⟨e1,n,e2,h3⟩ |⟨f,e1,T,v,h3⟩
 ·simp only at e1 e2;subst e1;subst e2;simp only[zSL,zSZ,zSK,zf,zG,Pl.jH,jg]at h2 h3;rw[zUa zSj rfl];simp (maxSteps:=1000000) [zSc,zMT,zf,zG,Pl.jH,h2,h3,zg,zH]
 ·obtain⟨rfl,rfl⟩:=Prod.mk.inj e1;have j2:(0:Int)<=f:=by omega
  simp only[zSL,zSZ,zSK,zf,zG,Pl.jH,jg,jh,jf]at h2 h3;rw[zUa zSj rfl];simp (maxSteps:=1000000) [zSc,zf,zG,Pl.jH,h2,h3,j2,zg,zH]
theorem zSE{c:zK8}(hc:¬c.ok)(q:List Int)(last v:Int):R L Cs zL0 [.a (Pl.jH c),.c (.jb (zu q)),W last,W v] []=some (.w (.c (.jb [])),[]):=by
 have h0:=Pl.yl c;rw[Pl.yS,if_neg hc]at h0;simp only[Pl.jH]at h0;rw[zUa zL4 rfl];simp[zIl,Pl.jH,h0,zg,zX]
theorem zSC{c:zK8}(hc:¬c.ok)(q:List Int)(last v:Int):R L Cs zSn [.a (Pl.jH c),.c (.jb (zu q)),W last,W v] []=some (.w (.c (.jb [])),[]):=by
 have h0:=Pl.uz c;rw[Pl.yS,if_neg hc]at h0;simp only[Pl.jH]at h0;rw[zUa zSo rfl];simp[zSg,Pl.jH,h0,zg,zX]
theorem zSP(m:zD)(r:List Int){c:zK8}(hc:¬c.ok)(k:zci)(q:List Int)(last kl:Int)(signals:Bool) :
  R L Cs zMZ [.a (zf m),.c (.jb (zu r)),.a (Pl.jH c),.a (zG k),.c (.jb (zu q)),W last,W kl,Bo signals] []=some (.t [.a [.jb []],W 0,Bo false],[]):=by
 have h2:=zSE hc q last k.ego.vhi;simp only[Pl.jH]at h2;rw[zUa zLc rfl];simp (maxSteps:=1000000) [zIS,zIx,zrL,zf,zG,Pl.jH,h2,zg,zH]
theorem zSF(m:zD)(r:List Int){c:zK8}(hc:¬c.ok)(k:zci)(q:List Int)(last kl:Int)(signals:Bool) :
  R L Cs zSr [.a (zf m),.c (.jb (zu r)),.a (Pl.jH c),.a (zG k),.c (.jb (zu q)),W last,W kl,Bo signals] []=some (.t [.a [.jb []],W 0,Bo false],[]):=by
 have h2:=zSC hc q last k.ego.vhi;simp only[Pl.jH]at h2;rw[zUa zSj rfl];simp (maxSteps:=1000000) [zSc,zR8,zrL,zf,zG,Pl.jH,h2,zg,zH]
theorem zS4{c:zK8}(hc:c.ok)(q:List Int)(hq:∀a∈q,zk0 a)(last v:Int)(hv:0<=v/\v<=2000):∀p∈Pl.uy c q last v,(∀a∈p,zk0 a)/\p.length<=1000:=by
 intro p hp;have hl:=zNa hc q last v hv p hp;refine⟨?_,by omega⟩;have hcc:=hc;obtain⟨q1,q2,q3,q4,q5,q6,q7,q8,q9,q10⟩:=hcc;have hr:∀(w:Int) (n:Nat) (s:Drv),(∀a∈s.l,zk0 a)->∀a∈(Drv.qm c w n s).l,zk0 a:=by
  intro w n;induction n with
  |zero=>intro s h;exact h
  |succ n ih =>
   intro s h;refine ih _ fun a ha=>?_
   simp only[Drv.qV,jD,jJ]at ha;rcases ha with ha|rfl
   ·exact h a ha
   ·have:=zNt hc s.last w;exact⟨by omega,by omega⟩
 have hs:∀(m:Nat) (f:Bool) (last v:Int) (l:List Int),zGI c m f last v=some l->∀a∈l,zk0 a:=by
  intro m;induction m with
  |zero=>intro f last v l h;cases h
  |succ m ih =>
   intro f last v l h;rw[zF7]at h;split at h
   ·obtain⟨l',h',rfl⟩:=ja.1 h;intro a ha;rcases jy.1 ha with rfl|ha
    ·have:=zNt hc last (-c.ky);exact⟨by omega,by omega⟩
    ·exact ih _ _ _ _ h' a ha
   ·obtain rfl:=v5 h;intro a ha;cases ha
 have h:∀(up hold:Nat),up<=20->hold<=20->∀a∈zJ2 c q last v up hold,zk0 a:=fun up hold hu hh a ha=>by
  unfold zJ2 at ha;simp only[jD]at ha;have g1:=zMg (q:=q.take 5) (s:=Drv.mk last v []) hv;have g2:=zLx (c:=c) (w:=c.kO) (n:=up) g1;have g3:=zLx (c:=c) (w:=0) (n:=hold) g2;rcases ha with ha|ha
  ·refine hr _ _ _ (hr _ _ _ fun a ha=>?_) a ha;rw[Drv.B0,jf]at ha;exact hq a (qe ha)
  ·exact hs _ _ _ _ _ (zMs hc _ _ g3.1 g3.2).1 a ha
 simp only[Pl.uy,jy,kW,or_false]at hp;rcases hp with rfl|rfl|rfl|rfl|rfl|rfl|rfl|rfl<;>exact h _ _ (by omega) (by omega)
theorem zSB{m:zD}{zs:List Zon}{ss:List Sgn}(hF:zKj m zs ss)(n rt a0 a1 a2 a3 last b:Int)(c:zK8)(l:List Bit)(c1:l.length<=6)(hl:∀x∈l,zk0 x.hold)(q:List Int)(c2:q.length<=3)(hq:∀a∈q,zk0 a)(signals:Bool)(hM:R L Cs zY [W n] []=some (.w (.a (zf m)),[]))(AD:c.ok->60<=c.ky/\20<=c.qS) :
  R L Cs zSb [W n,W rt,.a (Pl.jH c),.c (.jb (zDS l)),.a [I a0,I a1,I a2,I a3],.c (.jb (zu q)),W last,W b,Bo signals] []=some (.w (Bo true),[]):=by
 have hm:=hF.full.qF;have hp:=hF.pos;obtain⟨kk,hR⟩:=zES hm rt;have hrl:=zEm m kk;have hon:=zEy hm kk;generalize zDT m kk=r at *;have hK:=zFz hm hp r hrl l (by omega) hl a0 a1 (a2 % 270) a3;obtain⟨v1,v2,v3⟩:=zEM hm hp r hrl hon l a0 a1 (a2 % 270) a3;have hKl:(zD1 m r l a0 a1 (a2 % 270) a3).j8.length<=6:=by
  have:=zkq (l.map (zDN m));rw[qr]at this;simp only[zD1];omega
 have hmd:=zD0 a2 270 (by omega) (by omega);generalize a2 % 270=aa at *;generalize zD1 m r l a0 a1 aa a3=K at *;have hok:∀z∈K.j8,OKB z:=fun z hz=>zFo hm (zxJ hm v1 z hz)
 have h0:=Pl.uz c;have ha:=Pl.Cb;have d1:¬(6:Int)<l.length:=by omega
 have d1':¬6<l.length:=by omega
 have d2:¬(3:Int)<q.length:=by omega
 have d2':¬3<q.length:=by omega
 by_cases hc:c.ok
 ·obtain⟨b1,b2⟩:=AD hc;have b1':¬c.ky<60:=by omega
  have b2':¬c.qS<20:=by omega
  rw[Pl.yS,if_pos hc]at h0;have hci:=zS4 hc q hq last (max 0 (min K.ego.vhi 2000)) (by omega);have hS:=zPl hF r (by omega) c hc K (by omega) q (by omega) last b signals;have hT:=zSU hF r (by omega) c hc K (by omega) hok q (by omega) last b hci signals;have hsl:(zMT (zLj c q last K) (zOU m zs ss r c K q last b signals).1).length<=1000:=by
   unfold zMT;split
   ·simp
   ·by_cases e:(zOU m zs ss r c K q last b signals).1.toNat<(zLj c q last K).length
    ·rw[jm,jq e];exact(hci _ (je e)).2
    ·rw[jm,jV (by omega)];simp
  have hQ:=Pl.Bl (zMT (zLj c q last K) (zOU m zs ss r c K q last b signals).1) (zMT (zLj c q last K) (zOU m zs ss r c K q last b signals).1) hsl hsl;generalize zMT (zLj c q last K) (zOU m zs ss r c K q last b signals).1=p at *;generalize zOU m zs ss r c K q last b signals=y at *;simp only[zf,zG,Pl.jH,decide_true]at hM hR hK h0 hS hT hQ;rw[zUa zSa rfl];simp (maxSteps:=1000000) [zR7,zf,zG,Pl.jH,hM,hR,hK,hS,hT,hQ,h0,hmd,ha,d1,d1',d2,d2',b1',b2',zg,zH]
 ·rw[Pl.yS,if_neg hc]at h0;have hS:=zSP m r hc K q last b signals;have hT:=zSF m r hc K q last b signals;have hQ:=Pl.Bl [] [] (by simp) (by simp);simp only[zf,zG,Pl.jH,decide_true,zay]at hM hR hK h0 hS hT hQ;rw[zUa zSa rfl];simp (maxSteps:=1000000) [zR7,zf,zG,Pl.jH,hM,hR,hK,hS,hT,hQ,h0,hmd,ha,d1,d1',d2,d2',zg,zH]
theorem zSI(n rt a0 a1 a2 a3 last b:Int)(c:zK8)(l:List Bit)(hl:∀x∈l,zk0 x.hold)(q:List Int)(hq:∀a∈q,zk0 a)(signals:Bool) :
  R L Cs zSb [W n,W rt,.a (Pl.jH c),.c (.jb (zDS l)),.a [I a0,I a1,I a2,I a3],.c (.jb (zu q)),W last,W b,Bo signals] []=some (.w (Bo true),[]):=by
 obtain⟨m,zs,ss,hF,hM⟩:=zN6 n;have ha:=Pl.Cb;by_cases c1:(6:Int)<l.length
 ·have c1':6<l.length:=by omega
  rw[zUa zSa rfl];simp[zR7,Pl.jH,c1,c1',ha,zg]
 have c1':¬6<l.length:=by omega
 by_cases c2:(3:Int)<q.length
 ·have c2':3<q.length:=by omega
  rw[zUa zSa rfl];simp[zR7,Pl.jH,c1,c1',c2,c2',ha,zg]
 have c2':¬3<q.length:=by omega
 have h0:=Pl.uz c;by_cases hc:c.ok
 ·rw[Pl.yS,if_pos hc]at h0;simp only[Pl.jH]at h0;by_cases b1:c.ky<60
  ·rw[zUa zSa rfl];simp[zR7,Pl.jH,c1,c1',c2,c2',h0,b1,ha,zg]
  by_cases b2:c.qS<20
  ·rw[zUa zSa rfl];simp[zR7,Pl.jH,c1,c1',c2,c2',h0,b1,b2,ha,zg]
  exact zSB hF n rt a0 a1 a2 a3 last b c l (by omega) hl q (by omega) hq signals hM fun _=>⟨by omega,by omega⟩
 ·exact zSB hF n rt a0 a1 a2 a3 last b c l (by omega) hl q (by omega) hq signals hM fun h=>absurd h hc
theorem zSJ:∀xs,zot [zmN,zmN,zHe,.slice zFC,.st [zmN,zmN,zmN,zmN],.slice zmN,zmN,zmN,.bool] xs->∃M',R L Cs zSb xs []=some (.w (.c (.bool true)),M'):=by
 intro xs h;simp only[zot]at h;obtain⟨c1,_,rfl,h1,c2,_,rfl,h2,c3,_,rfl,h3,c4,_,rfl,h4,c5,_,rfl,h5,c6,_,rfl,h6,c7,_,rfl,h7,c8,_,rfl,h8,c9,_,rfl,h9,rfl⟩:=h;obtain⟨c,rfl⟩:=zG9 h3;simp only[zfo,znD]at h1 h2 h4 h5 h6 h7 h8 h9;obtain⟨n,rfl,_⟩:=h1;obtain⟨rt,rfl,_⟩:=h2;obtain⟨rows,rfl,_,Au⟩:=h4;obtain⟨l,rfl,hl⟩:=zE2 (rows:=rows) (fun r hr=>by simp only[zfo,znD];exact Au r hr);obtain⟨_,_,rfl,⟨a0,rfl,_⟩,_,_,rfl,⟨a1,rfl,_⟩,_,_,rfl,⟨a2,rfl,_⟩,_,_,rfl,⟨a3,rfl,_⟩,rfl⟩:=h5;obtain⟨ya,rfl,_,Ao⟩:=h6;obtain⟨q,rfl,hq⟩:=zxB (rows:=ya) (fun r hr=>by simp only[zfo];exact Ao r hr);obtain⟨last,rfl,_⟩:=h7;obtain⟨b,rfl,_⟩:=h8;obtain⟨s,rfl⟩:=h9;exact⟨[],zSI n rt a0 a1 a2 a3 last b c l hl q hq s⟩
theorem zq2(a:Int):R L [] zlc [W a] []=some (.w (Bo false),[]):=by
 rw[zUa zle rfl];simp[zfU]
theorem zn3(a:Int):R L [] zi5 [W a] []=some (.w (Bo false),[]):=by
 rw[zUa zi9 rfl];simp[ze6]
theorem zuB(a b:Int):R L [] zi6 [W a,W b] []=some (.w (W (zgQ a b)),[]):=by
 have h1:=zq2 a;have h2:=zq2 b;rw[zUa zja rfl];unfold zgQ;by_cases h:a<b
 ·simp[zb3,h1,h2,h]
 ·by_cases h':b<a
  ·simp[zb3,h1,h2,h,h']
  ·simp[zb3,h1,h2,h,h']
theorem zmv(a b:Int):R L [] zhQ [W a,W b] []=some (.w (W (zgQ a b)),[]):=by
 have h1:=zn3 a;have h2:=zn3 b;rw[zUa zhS rfl];unfold zgQ;by_cases h:a<b
 ·simp[zbq,h1,h2,h]
 ·by_cases h':b<a
  ·simp[zbq,h1,h2,h,h']
  ·simp[zbq,h1,h2,h,h']
theorem zxz(b:Bool):R L [] zhB [Bo b] []=some (.w (W (if b then 1 else 0)),[]):=by
 rw[zUa zp4 rfl];cases b<;>simp[zhF]
def orI(a b c d:Int):Int:=if a=0 then(if b=0 then(if c=0 then d else c) else b) else a
abbrev orE(a b c d:Int)(i:Int):Env:=[(7,.w (W 4)),(6,.w (.c (.jb [[I a],[I b],[I c],[I d]]))),(3,.w (W 0)),(8,.w (W i))]
theorem or0(a b c d:Int):R L [] zob [.c (.jb [[I a],[I b],[I c],[I d]])] []=some (.w (W (orI a b c d)),[]):=by
 have w1:IntKind.i64.wrap 1=1:=rfl;have w2:IntKind.i64.wrap 2=2:=rfl;have w3:IntKind.i64.wrap 3=3:=rfl;have w4:IntKind.i64.wrap 4=4:=rfl;have h4:Y L [] zab (some [7,6,3,8]) 0 (orE a b c d 4) []=some (.exit 0,[(9,.w (Bo false)),(3,.w (W 0)),(6,.w (.c (.jb [[I a],[I b],[I c],[I d]]))),(7,.w (W 4)),(8,.w (W 4))],[]):=by
  rw[zj zab.eq_1];simp
 have h3:Y L [] zab (some [7,6,3,8]) 0 (orE a b c d 3) []=if d=0 then Y L [] zab (some [7,6,3,8]) 0 (orE a b c d 4) [] else some (.ret,[(2,.w (W d))],[]):=by
  rw[zj zab.eq_1];by_cases h:d=0
  ·simp[h,w4]
  ·have h':(d !=0)=true:=by simp[h]
   simp[h,h']
 have h2:Y L [] zab (some [7,6,3,8]) 0 (orE a b c d 2) []=if c=0 then Y L [] zab (some [7,6,3,8]) 0 (orE a b c d 3) [] else some (.ret,[(2,.w (W c))],[]):=by
  rw[zj zab.eq_1];by_cases h:c=0
  ·simp[h,w3]
  ·have h':(c !=0)=true:=by simp[h]
   simp[h,h']
 have h1:Y L [] zab (some [7,6,3,8]) 0 (orE a b c d 1) []=if b=0 then Y L [] zab (some [7,6,3,8]) 0 (orE a b c d 2) [] else some (.ret,[(2,.w (W b))],[]):=by
  rw[zj zab.eq_1];by_cases h:b=0
  ·simp[h,w2]
  ·have h':(b !=0)=true:=by simp[h]
   simp[h,h']
 have h0:Y L [] zab (some [7,6,3,8]) 0 (orE a b c d 0) []=if a=0 then Y L [] zab (some [7,6,3,8]) 0 (orE a b c d 1) [] else some (.ret,[(2,.w (W a))],[]):=by
  rw[zj zab.eq_1];by_cases h:a=0
  ·simp[h,w1]
  ·have h':(a !=0)=true:=by simp[h]
   simp[h,h']
 rw[h4]at h3;rw[h3]at h2;rw[h2]at h1;rw[h1]at h0;rw[zUa zow rfl];unfold orI;by_cases c1:a=0<;>by_cases c2:b=0<;>by_cases c3:c=0<;>by_cases c4:d=0<;>simp only[c1,c2,c3,c4,if_true,if_false]at h0 ⊢<;>simp[zfw,h0]
def zoG(b:Bool):Int:=if b then 1 else 0
def zu6(a b:Swp):Int:=orI (zgQ a.lane b.lane) (zgQ a.lo b.lo) (zgQ a.hi b.hi) (zoG a.cap-zoG b.cap)
theorem less0(a b:Swp):R L [] zar [.a (swC a),.a (swC b)] []=some (.w (W (zu6 a b)),[]):=by
 have h1:=zuB a.lane b.lane;have h2:=zmv a.lo b.lo;have h3:=zmv a.hi b.hi;have h4:R L [] zhB [Bo a.cap] []=some (.w (W (zoG a.cap)),[]):=zxz a.cap;have h5:R L [] zhB [Bo b.cap] []=some (.w (W (zoG b.cap)),[]):=zxz b.cap;have h6:=or0 (zgQ a.lane b.lane) (zgQ a.lo b.lo) (zgQ a.hi b.hi) (zoG a.cap-zoG b.cap);have w:IntKind.i64.wrap (zoG a.cap-zoG b.cap)=zoG a.cap-zoG b.cap:=by
  cases a.cap<;>cases b.cap<;>rfl
 unfold zu6;generalize zgQ a.lane b.lane=x1 at *;generalize zgQ a.lo b.lo=x2 at *;generalize zgQ a.hi b.hi=x3 at *;generalize zoG a.cap=o1 at *;generalize zoG b.cap=o2 at *;rw[zUa zsv rfl];simp[zjq,swC,h1,h2,h3,h4,h5,h6,w,zg,zX]
theorem zz5(a b:Swp):(zu6 a b<0)<->ltS a b=true:=by
 rw[zz2];unfold zu6 orI zgQ zoG;by_cases h1:a.lane<b.lane
 ·simp[h1]
 ·by_cases h2:b.lane<a.lane
  ·have:¬a.lane=b.lane:=by omega
   simp[h1,h2,this]
  ·have e1:a.lane=b.lane:=by omega
   by_cases h3:a.lo<b.lo
   ·simp[e1,h3]
   ·by_cases h4:b.lo<a.lo
    ·have:¬a.lo=b.lo:=by omega
     simp[e1,h3,h4,this]
    ·have e2:a.lo=b.lo:=by omega
     by_cases h5:a.hi<b.hi
     ·simp[e1,e2,h5]
     ·by_cases h6:b.hi<a.hi
      ·have:¬a.hi=b.hi:=by omega
       simp[e1,e2,h5,h6,this]
      ·have e3:a.hi=b.hi:=by omega
       cases a.cap<;>cases b.cap<;>simp[e1,e2,e3]
end Go.TrRun
namespace Go.Eng
open Go
theorem zsf [zb0]{P:Program}{cf:za4}(hcf:FnS P cf){f:FuncId}(hf:f<zb0.base){args:List WV}{vs:Array Value}{w:World}{σ:zP}{j:Inj}{M':Mem}{c:Int}(h:cf f args []=some (.w (.c (.int .i64 c)),M'))
  (hag:zM σ w) (hvs:zac σ j args vs.toList) (hm:MR (fun b=>w.heap.size<=b) σ j [] w) :
  Calls P f vs w fun e w'=>e=.returned (.int .i64 c)/\∃q os',w'=Go.Sort.grow (w.drewN q) os':=by
 obtain⟨_,_,_,_,hc⟩:=(hcf f args [] _ _ h (fun id hid=>by simp at hid)).1 hf;refine Calls.yI (hc (fun b=>w.heap.size<=b) σ j w vs (fun _ h=>h) hag hm hvs) ?_;rintro e w' ⟨v,σ',j',rfl,hr,_,_,hst⟩;have hr:VC σ' j' (.int .i64 c) v:=hr;cases hr;refine⟨rfl,w'.drawn-w.drawn,w'.heap.extract w.heap.size w'.heap.size,?_⟩;have h1:=hst.side.os;have h2:=hst.side.output;have h3:=hst.side.tape;have h4:=hst.side.drawn;have h5:=hst.frame;have h6:=hst.size;cases w' with |mk heap tape drawn os output =>
 simp only at h1 h2 h3 h4 h5 h6;subst h1;subst h2;subst h3;unfold Go.Sort.grow World.drewN;simp only[World.mk.injEq,and_true,true_and];refine⟨?_,by omega⟩;apply Array.ext_getElem?;intro i;by_cases hi:i<w.heap.size
 ·rw[kA hi];exact h5 i hi (by omega)
 ·rw[yc (by omega),uk];by_cases hi2:i<heap.size
  ·rw[if_pos (by omega)]
   congr 1;omega
  ·rw[if_neg (by omega)];exact qJ (by omega)
end Go.Eng
namespace Go.TrRun
open Go Go.Eng
theorem zxp(σ:zP)(j:Inj)(x:List Int):WVR σ j (.a (swC (zik x))) (.agg (ziq 4 7 x).toArray):=by
 refine⟨_,rfl,?_⟩;have e:(ziq 4 7 x).toArray.toList=[.int .i64 (x.getD 0 0),.int .i64 (x.getD 1 0),.int .i64 (x.getD 2 0),.bool (x.getD 3 0 !=0)]:=rfl;rw[e];refine⟨rfl,fun n c v hc hv=>?_⟩
 match n with
 |0=>cases hc;cases hv;exact .int _ _ _
 |1=>cases hc;cases hv;exact .int _ _ _
 |2=>cases hc;cases hv;exact .int _ _ _
 |3=>cases hc;cases hv;exact .bool _ _
 |n+4=>cases hc
def zAw(x y:List Int):Int:=zu6 (zik x) (zik y)
theorem zBC:(fun x y=>decide (zAw x y<0))=ltZ 4 7:=by
 funext x y;have h:=zz5 (zik x) (zik y);have e:ltS (zik x) (zik y)=ltZ 4 7 x y:=by
  have k1:∀z:List Int,zji (zik z)=zsY 4 7 z:=fun z=>by
   simp[zji,zik,zsY,List.range,List.range.loop,zgk]
  simp only[ltS,ltZ,k1,if_true]
 rw[e]at h;unfold zAw;cases hz:ltZ 4 7 x y with
 |true=>exact decide_eq_true (h.2 hz)
 |false =>
  refine decide_eq_false fun h'=>?_
  rw[h.1 h']at hz;cases hz
theorem zwK{P:Program}(uD:P.follows .mixedOrders=true)(hL:(L.map fun p=>zcF P an true p.1)=L.map fun p=>some p.2)(hV:zql P L=true)(hf:zar<P.funcs.size)(x y:List Int)(W:World) :
  Calls P zar #[.agg (ziq 4 7 x).toArray,.agg (ziq 4 7 y).toArray] W fun e w'=>e=.returned (.int .i64 (zAw x y))/\∃q os',w'=Go.Sort.grow (W.drewN q) os':=by
 letI:=zww P fun f=>L.lookup f
 obtain⟨n,hn⟩:=zah.1 (less0 (zik x) (zik y));exact zsf (zsT uD hL hV (Cs:=[]) rfl (fun c hc=>by cases hc) n) (f:=zar) hf hn (zml (W:=W) fun g row hr=>by cases hr) (.cons (zxp _ _ x) (.cons (zxp _ _ y) .nil)) MR.nil
end Go.TrRun
