/- This text proves what functions of this seat's program answer, run by the evaluator; no condition. -/
import Derived.Test.YtjmaghejnagjeaaGreatTTx1
set_option maxHeartbeats 8000000
set_option linter.unusedVariables false
set_option linter.unusedSimpArgs false
set_option linter.unusedSectionVars false
set_option maxRecDepth 10000
namespace Go.TrRun
open Go Go.Eng
def zet(v b:Int):Int:=if v<1 then 0 else(v-1) / b*v-b*(((v-1) / b)*((v-1) / b+1) / 2)
theorem zzj(n:Int):(n+1)*(n+1+1) / 2=n*(n+1) / 2+(n+1):=by
 have e:(n+1)*(n+1+1)=n*(n+1)+(n+1)*2:=by simp only[Int.add_mul,Int.mul_add];omega
 rw[e,Int.add_mul_ediv_right _ _ (by decide)]
theorem zsG{v b:Int}(hb:1<=b)(h:b<v):zet v b=(v-b)+zet (v-b) b:=by
 have e:(v-b-1) / b=(v-1) / b-1:=by
  rw[show v-b-1=(v-1)+(-1)*b by omega,Int.add_mul_ediv_right _ _ (by omega)];omega
 unfold zet;rw[if_neg (by omega),if_neg (by omega),e];generalize (v-1) / b=n;have t:=zzj (n-1);rw[show n-1+1=n by omega]at t ⊢;rw[t];generalize (n-1)*n / 2=q;simp only[Int.mul_add,Int.mul_sub,Int.sub_mul,Int.one_mul];rw[Int.mul_comm b n];omega
theorem zki{v b:Int}(hb:1<=b)(h:v<=b):zet v b=0:=by
 unfold zet;split
 ·rfl
 ·have:(v-1) / b=0:=Int.ediv_eq_zero_of_lt (by omega) (by omega);rw[this];simp
theorem ztT{a b A B:Int}(ha:0<=a/\a<=A)(hb:0<=b/\b<=B):0<=a*b/\a*b<=A*B :=
 ⟨vu ha.1 hb.1,Int.mul_le_mul ha.2 hb.2 hb.1 (by omega)⟩
theorem zBV(v b:Int)(hv:v<=10000)(hb:1<=b/\b<=1000):R L Cs zua [W v,W b] []=some (.w (W (zet v b)),[]):=by
 rw[zUa zuy rfl];by_cases c:v<1
 ·simp[zh2,c,zet]
 ·have n1:0<=(v-1) / b:=yP (by omega) (by omega);have n2:(v-1) / b<=10000:=Int.le_trans (Int.ediv_le_self _ (by omega)) (by omega);have et:(v-1).tdiv b=(v-1) / b:=kq (by omega);have hz:b≠0:=by omega
  have m1:min v 1000000=v:=by omega
  have m2:min b 1000000=b:=by omega
  have c2:¬b<1:=by omega
  have w1:=kg (v-1);unfold zet;rw[if_neg c];generalize (v-1) / b=n at *;have w2:=kg n;have p1:=ztT ⟨n1,n2⟩ (show 0<=v/\v<=10000 by omega);have p2:=ztT ⟨n1,n2⟩ (show 0<=n+1/\n+1<=10001 by omega);have p3:0<=n*(n+1) / 2/\n*(n+1) / 2<=100010000:=by omega
  have e2:(n*(n+1)).tdiv 2=n*(n+1) / 2:=kq (by omega);have w3:=kg (n*v);have w4:=kg (n+1);have w5:=kg (n*(n+1));have w6:=kg (n*(n+1) / 2);have p4:=ztT (show 0<=b/\b<=1000 by omega) p3;generalize hx:n*v=x at *;generalize n*(n+1) / 2=y at *;have w7:=kg (b*y);have w8:=kg (x-b*y);simp[zh2,c,c2,m1,m2,w1,et,hz,w2,hx,w3,w4,w5,e2,w6,w7,w8]
theorem zwo(b:Int)(hb:1<=b/\b<=1000):∀(f:Nat) (v s:Int),v<=f->-1000000000<=v->f<=10000->0<=s/\s+10000*f<=200000000->∃v',
  Y L Cs zcb (some [0,5,1]) 0 [(0,.w (W v)),(5,.w (W s)),(1,.w (W b))] []=some (.exit 0,[(18,.w (Bo false)),(0,.w (W v')),(5,.w (W (s+zet v b))),(1,.w (W b))],[]):=by
 intro f;induction f with
 |zero =>
  intro v s h1 h2 h3 h4;refine⟨v,?_⟩;have c:¬b<v:=by omega
  rw[zki hb.1 (by omega),Int.add_zero,zj zcb.eq_1];simp[c]
 |succ f ih =>
  intro v s h1 h2 h3 h4;by_cases c:b<v
  ·obtain⟨v',h⟩:=ih (v-b) (s+(v-b)) (by omega) (by omega) (by omega) (by omega);refine⟨v',?_⟩;have w1:=kg (v-b);have w2:=kg (s+(v-b));rw[zsG hb.1 c,<-Int.add_assoc,<-h,zj zcb.eq_1];clear ih h;simp[c,w1,w2]
  ·refine⟨v,?_⟩;rw[zki hb.1 (by omega),Int.add_zero,zj zcb.eq_1];simp[c]
theorem zBX(v b:Int)(hv:-1000000000<=v/\v<=10000)(hb:1<=b/\b<=1000):R L Cs zlo [W v,W b] []=some (.w (W (zet v b)),[]):=by
 rw[zUa zlE rfl];have m1:min v 1000000=v:=by omega
 have m2:min b 1000000=b:=by omega
 have c2:¬b<1:=by omega
 by_cases c:v<1
 ·have:zet v b=0:=by rw[zet,if_pos c]
  simp[zdI,c,m1,m2,this]
 ·obtain⟨v',h⟩:=zwo b hb 10000 v 0 (by omega) (by omega) (by omega) (by omega);rw[uN]at h;simp[zdI,c,c2,m1,m2,h]
def zgH(m:zD)(l:List Int)(act:Int):Int:=max (-zd4 (zaK m (l.getD 0 0))) (min act (zif (zaK m (l.getD 0 0))))
def zcD(m:zD)(l:List Int)(act v:Int):Int:=max 0 (min (v+zgH m l act) (zeR (zaK m (l.getD 0 0))))
def zaN(m:zD)(l:List Int)(e:Ego)(act:Int):Ego:=⟨e.slo+zcD m l act e.vlo,e.shi+zcD m l act e.vhi,zcD m l act e.vlo,zcD m l act e.vhi⟩
theorem ztm(v act top:Int)(p q:Nat)(hv:-100000<=v/\v<=100000)(ha:-100000<=act/\act<=100000):R L Cs zjL [W v,Pt 0,Pt 1] [bxv p 1 [I act],bxv q 1 [I top]]=some (.w (W (max 0 (min (v+act) top))),[bxv p 1 [I act],bxv q 1 [I top]]):=by
 have w1:=kg (v+act);rw[zUa zj6 rfl];simp[zel,w1]
theorem tops{k:Int}(h:k=1\/k=2\/k=3):1<=zd4 k/\zd4 k<=300/\1<=zif k/\zif k<=100/\300<=zeR k/\zeR k<=2000:=by
 rcases h with rfl|rfl|rfl<;>simp[zd4,zif,zeR]
theorem zu9{m:zD}(h:zcp m){x:Int}(hx:0<=x/\x<m.jb.length):zaK m x=1\/zaK m x=2\/zaK m x=3:=by
 obtain⟨n,rfl⟩:=jt hx.1;have hn:n<m.jb.length:=by omega
 have:=h.kind _ (jf hn);simpa [zaK,hn]using this
structure znd(e:Ego):Prop where
 s:0<=e.slo/\e.slo<=e.shi/\e.shi<=1099511627776
 v:0<=e.vlo/\e.vlo<=e.vhi/\e.vhi<=2000
theorem zge{m:zD}(h:zcp m){x:Int}(r:List Int)(hx:0<=x/\x<m.jb.length)(act v:Int):0<=zcD m (x::r) act v/\zcD m (x::r) act v<=2000:=by
 have:=tops (zu9 h hx);unfold zcD;simp only[k9];omega
theorem zvQ{m:zD}(h:zcp m)(x:Int)(r:List Int)(len:Int)(hx:0<=x/\x<m.jb.length)(e:Ego)(he:znd e)(act:Int)(ha:zk0 act):R L Cs zgW [.a (zh m (x::r) len),.a (zch e),W act] []=some (.w (.a (zch (zaN m (x::r) e act))),[]):=by
 obtain⟨n,rfl⟩:=jt hx.1;have hn:n<m.jb.length:=by omega
 have hk:=h.kind _ (jf hn);have hB:=zmo hk;have ek:zaK m n=m.jb[n].kind:=by simp[zaK,hn]
 have ht:=tops hk;have hs1:=zge h r hx act e.vlo;have hs2:=zge h r hx act e.vhi;have es:=he.s;have ev:=he.v;have hc:zgH m ((n:Int)::r) act=max (-zd4 m.jb[n].kind) (min act (zif m.jb[n].kind)):=by simp only[zgH,k9,ek]
 have hcb:-300<=zgH m ((n:Int)::r) act/\zgH m ((n:Int)::r) act<=100:=by rw[hc];omega
 have hD1:=fun p q=>ztm e.vlo (zgH m ((n:Int)::r) act) (zeR m.jb[n].kind) p q (by omega) (by omega)
 have hD2:=fun p q=>ztm e.vhi (zgH m ((n:Int)::r) act) (zeR m.jb[n].kind) p q (by omega) (by omega)
 have e1:max 0 (min (e.vlo+zgH m ((n:Int)::r) act) (zeR m.jb[n].kind))=zcD m ((n:Int)::r) act e.vlo:=by simp only[zcD,k9,ek]
 have e2:max 0 (min (e.vhi+zgH m ((n:Int)::r) act) (zeR m.jb[n].kind))=zcD m ((n:Int)::r) act e.vhi:=by simp only[zcD,k9,ek]
 rw[e1]at hD1;rw[e2]at hD2;have wB:=kg (-zd4 m.jb[n].kind);have w1:=kg (e.slo+zcD m ((n:Int)::r) act e.vlo);have w2:=kg (e.shi+zcD m ((n:Int)::r) act e.vhi);unfold zaN;generalize hS1:zcD m ((n:Int)::r) act e.vlo=s1 at *;generalize hS2:zcD m ((n:Int)::r) act e.vhi=s2 at *;rw[hc]at hD1 hD2;rw[zUa zly rfl];simp[zeZ,zh,zi,zo,hn,hB,wB,hD1,hD2,w1,w2,zch]
theorem zvP{m:zD}(h:zcp m)(x:Int)(r:List Int)(hx:0<=x/\x<m.jb.length)(e:Ego)(he:znd e)(act:Int)(ha:zk0 act):R L Cs zgB [.a (zf m),.c (.jc (zu (x::r))),.a (zch e),W act] []=some (.w (.a (zch (zaN m (x::r) e act))),[]):=by
 obtain⟨n,rfl⟩:=jt hx.1;have hn:n<m.jb.length:=by omega
 have hk:=h.kind _ (jf hn);have hB:=zhv hk;have ek:zaK m n=m.jb[n].kind:=by simp[zaK,hn]
 have ht:=tops hk;have hs1:=zge h r hx act e.vlo;have hs2:=zge h r hx act e.vhi;have es:=he.s;have ev:=he.v;have hc:zgH m ((n:Int)::r) act=max (-zd4 m.jb[n].kind) (min act (zif m.jb[n].kind)):=by simp only[zgH,k9,ek]
 have hcb:-300<=zgH m ((n:Int)::r) act/\zgH m ((n:Int)::r) act<=100:=by rw[hc];omega
 have e1:max 0 (min (e.vlo+zgH m ((n:Int)::r) act) (zeR m.jb[n].kind))=zcD m ((n:Int)::r) act e.vlo:=by simp only[zcD,k9,ek]
 have e2:max 0 (min (e.vhi+zgH m ((n:Int)::r) act) (zeR m.jb[n].kind))=zcD m ((n:Int)::r) act e.vhi:=by simp only[zcD,k9,ek]
 have wB:=kg (-zd4 m.jb[n].kind);have w1:=kg (e.slo+zcD m ((n:Int)::r) act e.vlo);have w2:=kg (e.shi+zcD m ((n:Int)::r) act e.vhi);have w3:=kg (e.vlo+zgH m ((n:Int)::r) act);have w4:=kg (e.vhi+zgH m ((n:Int)::r) act);unfold zaN;generalize hS1:zcD m ((n:Int)::r) act e.vlo=s1 at *;generalize hS2:zcD m ((n:Int)::r) act e.vhi=s2 at *;rw[hc]at w3 w4 e1 e2;rw[zUa zk3 rfl];simp[zeI,zf,zo,hn,hB,wB,w1,w2,w3,w4,e1,e2,zch]
structure VB(m:zD)(b:zk):Prop where
 lane:0<=b.lane/\b.lane<m.jb.length
 lo:0<=b.lo
 le:b.lo<=b.hi
 hi:b.hi<=z8 m b.lane
 vlo:0<=b.vlo
 vle:b.vlo<=b.vhi
 vhi:b.vhi<=zeR (zaK m b.lane)
 hold:0<=b.hold/\b.hold<=z8 m b.lane
def zcY(m:zD)(b:zk)(line:Int):Bool:=decide (b.hi<line)&&(decide (b.hi+zet b.vhi (zd4 (zaK m b.lane))<line)||(decide (b.hold≠0)&&decide (b.hold<=line)))
def zcW(m:zD)(b:zk):Int:=max 0 (b.vlo-zd4 (zaK m b.lane))
def zde(m:zD)(b:zk):Int:=min (zeR (zaK m b.lane)) (b.vhi+zif (zaK m b.lane))
def zdC(m:zD)(red:List Int)(b:zk)(signals src:Bool):zk :=
 { lane:=b.lane,lo:=if src=true/\b.lo=0 then 0 else b.lo+zcW m b,
   hi:=match (if signals then red.find? (zcY m b) else none)with |some l=>min (b.hi+zde m b) (l-1) |none=>b.hi+zde m b,
   vlo:=zcW m b,vhi:=zde m b,hold:=((if signals then red.find? (zcY m b) else none)).getD 0 }
theorem zqp:∀(s:List Int) (l:List Bool) (i:Nat),i<l.length->(∀x∈s,0<=x)->(zkj l s).getD i false=(l.getD i false||decide ((i:Int)∈s))
 |[],l,i,_,_=>by simp[zkj]
 |x::s,l,i,hi,hs=>by
  have h0:=hs x (jo ..);show(zkj (l.set x.toNat true) s).getD i false=_;rw[zqp s _ i (by simpa using hi) fun y hy=>hs y (jq _ hy)];by_cases c:x.toNat=i
  ·have e:x=(i:Int):=by omega
   subst c;simp[jp,hi,<-e]
  ·have e:¬(i:Int)=x:=by omega
   simp[jp,jG c,e]
theorem zzq{v b:Int}(hv:v<=10000)(hb:1<=b/\b<=1000):∀(f:Nat),v<=f->f<=10000->0<=zet v b/\zet v b<=10000*f:=by
 intro f;induction f generalizing v with
 |zero=>intro h _;rw[zki hb.1 (by omega)];omega
 |succ f ih =>
  intro h1 h2;by_cases c:b<v
  ·have:=ih (v:=v-b) (by omega) (by omega) (by omega);rw[zsG hb.1 c];omega
  ·rw[zki hb.1 (by omega)];omega
structure zDx(m:zD)(b:zk):Prop where
 k:zaK m b.lane=1\/zaK m b.lane=2\/zaK m b.lane=3
 t:1<=zd4 (zaK m b.lane)/\zd4 (zaK m b.lane)<=300/\1<=zif (zaK m b.lane)/\zif (zaK m b.lane)<=100/\300<=zeR (zaK m b.lane)/\zeR (zaK m b.lane)<=2000
 s:0<=zcW m b/\zcW m b<=2000
 f:0<=zde m b/\zde m b<=2000
 sf:zcW m b<=zde m b
 pos:b.lo<=1000000/\b.hi<=1000000
 st:0<=zet b.vhi (zd4 (zaK m b.lane))/\zet b.vhi (zd4 (zaK m b.lane))<=100000000
theorem zqQ{m:zD}(h:zcp m){b:zk}(hb:VB m b):zDx m b:=by
 have hk:=zu9 h hb.lane;have ht:=tops hk;have hl:=zcX h hb.lane;have a1:=hb.lo;have a2:=hb.le;have a3:=hb.hi;have a4:=hb.vlo;have a5:=hb.vle;have a6:=hb.vhi;have hs:=zzq (v:=b.vhi) (b:=zd4 (zaK m b.lane)) (by omega) (by omega) 10000 (by omega) (by omega);exact⟨hk,ht,by unfold zcW;omega,by unfold zde;omega,by unfold zcW zde;omega,by omega,hs.1,by omega⟩
theorem zyu{m:zD}(h:zcp m){b:zk}(hb:VB m b)(src:Bool)(red:List Int):(zdC m red b false src).lo<=(zdC m red b false src).hi:=by
 have ho:=zqQ h hb;have a1:=hb.lo;have a2:=hb.le;have a3:=ho.sf;have a4:=ho.f;simp only[zdC,jD,if_false];split<;>omega
def zpT(m:zD)(b x:zk)(rr:List Int):zk:=match rr.find? (zcY m b)with |some l=>{ x with hi:=min x.hi (l-1),hold:=l } |none=>x
theorem zwF{m:zD}(r:List Int)(len:Int)(b x z:zk)(v:Nat)(hb:OKB b)(red:List Int)(BD:∀l∈red,-1000000000<=l/\l<=1000000000)(hlen:red.length<=1000):∀(rr:List Int) (i:Nat),red.drop i=rr->i<=red.length->∃E v',
  Y L Cs zb7 (some [85,84,14,5,86,13,8]) 4 [(85,.w (W red.length)),(84,.w (.c (.jc (zu red)))),(14,.w (W (b.hi+zet b.vhi (zd4 (zaK m b.lane))))),(5,.w (Pt 1)),(86,.w (W i)),(13,.w (Pt 3)),(8,.w (Pt 2))] [bx 11 (zh m r len),bx 6 (ze b),bx 6 (ze z),bxv v 6 (ze x)] =
    some (.exit 0,E,[bx 11 (zh m r len),bx 6 (ze b),bx 6 (ze z),bxv v' 6 (ze (zpT m b x rr))])/\E.get 13=some (.w (Pt 3))/\E.get 8=some (.w (Pt 2)):=by
 intro rr;induction rr with
 |nil =>
  intro i hd hi;obtain rfl:=zUb hd hi;rw[show zpT m b x []=x from rfl];refine⟨[(87,.w (Bo false)),(5,.w (Pt 1)),(14,.w (W (b.hi+zet b.vhi (zd4 (zaK m b.lane))))),(84,.w (.c (.jc (zu red)))),(85,.w (W red.length)),(86,.w (W red.length)),(13,.w (Pt 3)),(8,.w (Pt 2))],v,?_,by simp⟩;rw[zj zb7.eq_1];simp
 |cons l rr ih =>
  intro i hd hi;obtain⟨hil,hl,hd'⟩:=zL hd;have hw:=zB (i:=i) (by omega);have hlb:=BD l (hl ▸ jf hil);by_cases c:zcY m b l=true
  ·rw[show zpT m b x (l::rr)={ x with hi:=min x.hi (l-1),hold:=l } by rw[zpT,List.find?_cons_of_pos c]];refine⟨[(13,.w (Pt 3)),(8,.w (Pt 2))],v+1+1,?_,by simp⟩;have w1:=kg (l-1);rw[zj zb7.eq_1];clear ih;unfold zcY at c;simp only[jg,qL,decide_eq_true_eq]at c;obtain⟨c1,c2⟩:=c;by_cases c3:b.hi+zet b.vhi (zd4 (zaK m b.lane))<l
   ·simp[hil,hl,hw,w1,c1,c3,ze]
   ·have c2:=c2.resolve_left c3;have c4:(b.hold !=0)=true:=by simp[c2.1]
    simp[hil,hl,hw,w1,c1,c3,c2.1,c2.2,c4,ze]
  ·rw[show zpT m b x (l::rr)=zpT m b x rr by rw[zpT,vn c];rfl];obtain⟨E,v',h1,h2⟩:=ih (i+1) hd' hil;refine⟨E,v',?_,h2⟩;rw[<-h1,zj zb7.eq_1];clear ih h1 h2;have c:zcY m b l=false:=by simpa using c
   unfold zcY at c;by_cases c1:b.hi<l
   ·by_cases c2:b.hi+zet b.vhi (zd4 (zaK m b.lane))<l
    ·simp[c1,c2]at c
    ·by_cases c3:b.hold=0
     ·simp[hil,hl,hw,c1,c2,c3,ze]
     ·have c4:¬b.hold<=l:=by simp[c1,c2,c3]at c;omega
      have c3':(b.hold !=0)=true:=by simp[c3]
      simp[hil,hl,hw,c1,c2,c3,c3',c4,ze]
   ·simp[hil,hl,hw,c1,ze]
def zeA(zs:List Zon)(ss:List Sgn)(lane tick:Int):List Int:=zs.flatMap (zff ss lane tick)
theorem zBp{m:zD}{zs:List Zon}{ss:List Sgn}(h:zmq m zs ss)(lane tick:Int):zpN zs ss lane tick=zeA zs ss lane tick:=by
 unfold zpN zeA;have key:∀l:List Zon,(∀z∈l,(z.parts.map Prt.lane).Nodup)->l.flatMap (zqJ ss lane tick)=l.flatMap (zff ss lane tick):=by
  intro l;induction l with
  |nil=>intro _;rfl
  |cons z l ih=>intro hn;rw[jP,jP,zyf ss lane tick z (hn z (jo ..)),ih fun y hy=>hn y (jq _ hy)]
 exact key zs h.nd
theorem zqK(zs:List Zon)(ss:List Sgn)(lane tick:Int):(zeA zs ss lane tick).length<=zs.length:=by
 unfold zeA;induction zs with
 |nil=>simp
 |cons z l ih =>
  rw[jP,jv,jl];rcases zlX ss lane tick z with e |⟨p,_,e⟩<;>(rw[e];simp only[ju,jl];omega)
theorem zuT{m:zD}{zs:List Zon}{ss:List Sgn}(h:zmq m zs ss){lane tick l:Int}(hl:l∈zeA zs ss lane tick):0<=l/\l<z8 m lane:=by
 unfold zeA at hl;rw[ks]at hl;obtain⟨z,hz,hl⟩:=hl;rcases zlX ss lane tick z with e |⟨p,hp,e⟩
 ·rw[e]at hl;cases hl
 ·rw[e]at hl;simp at hl;subst hl;have h1:=qK hp;have h2:=kP hp;have h3:=h.pv z hz p h2;simp at h1;rw[h1]at h3;omega
theorem zBW{m:zD}{zs:List Zon}{ss:List Sgn}(h:zmq m zs ss)(lane tick:Int):R L Cs zpy [.a (zf m),W lane,W tick] []=some (.w (.c (.jc (zu (zeA zs ss lane tick)))),[]):=by
 have e:=zBp h lane tick;have ha:=h.asc lane tick;have hl:=zqK zs ss lane tick;have hf:=h.zd.few;have:=zCQ h.zd lane tick (by rw[e];exact ha) (by rw[e];omega);rw[e]at this;exact this
theorem zy9{m:zD}{zs:List Zon}{ss:List Sgn}(h:zmq m zs ss)(lane tick:Int):R L Cs zgC [.a (zf m),W lane,W tick] []=some (.w (.c (.jc (zu (zeA zs ss lane tick)))),[]):=zAT h.zd lane tick (h.asc lane tick)
theorem zqo(m:zD):∀(r:List zfn) (i:Nat),∀x∈zbK m i r,0<=x/\x<i+r.length
 |[],i,x,h=>by simp[zbK]at h
 |y::r,i,x,h=>by
  unfold zbK at h;rw[jl];split at h
  ·rcases jy.1 h with h|h
   ·subst h;omega
   ·have:=zqo m r (i+1) x h;omega
  ·have:=zqo m r (i+1) x h;omega
theorem zAU{m:zD}{zs:List Zon}{ss:List Sgn}(hf:zmq m zs ss)(r:List Int)(len:Int)(b:zk)(hb:VB m b)(tick:Int)(signals:Bool):R L Cs zgV [.a (zh m r len),.a (ze b),W tick,Bo signals] [] =
  some (.t [.a (ze (zdC m (zeA zs ss b.lane tick) b signals (decide (b.lane∈zbK m 0 m.jb)))),Bo (decide ((zdC m (zeA zs ss b.lane tick) b signals (decide (b.lane∈zbK m 0 m.jb))).lo<=(zdC m (zeA zs ss b.lane tick) b signals (decide (b.lane∈zbK m 0 m.jb))).hi))],[]):=by
 have h:=hf.qH;have ho:=zqQ h hb;have hle:=zyu h hb (decide (b.lane∈zbK m 0 m.jb)) (zeA zs ss b.lane tick);obtain⟨n,hn0⟩:=jt hb.lane.1;have hn:n<m.jb.length:=by have:=hb.lane.2;omega
 have hk:=h.kind _ (jf hn);have hB:=zmo hk;have ek:zaK m b.lane=m.jb[n].kind:=by rw[hn0];simp[zaK,hn]
 have a1:=hb.lo;have a2:=hb.le;have a4:=hb.vlo;have a5:=hb.vle;have a6:=hb.vhi;have ht:=ho.t;have hp:=ho.pos;have hs:=ho.s;have hff:=ho.f;have hst:=ho.st;have w1:IntKind.i64.wrap (b.vlo-zd4 m.jb[n].kind)=b.vlo-zd4 m.jb[n].kind:=by rw[ek]at ht a6;exact zTd _ (by omega) (by omega)
 have w2:IntKind.i64.wrap (b.vhi+zif m.jb[n].kind)=b.vhi+zif m.jb[n].kind:=by rw[ek]at ht a6;exact zTd _ (by omega) (by omega)
 have e1:max 0 (b.vlo-zd4 m.jb[n].kind)=zcW m b:=by rw[zcW,ek]
 have e2:min (zeR m.jb[n].kind) (b.vhi+zif m.jb[n].kind)=zde m b:=by rw[zde,ek]
 have w3:=kg (b.lo+zcW m b);have w4:=kg (b.hi+zde m b);have hsrc:(zkj (List.replicate m.jb.length false) (zbK m 0 m.jb))[n]?=some (decide (b.lane∈zbK m 0 m.jb)):=by
  have hl:n<(zkj (List.replicate m.jb.length false) (zbK m 0 m.jb)).length:=by rw[znN];simpa using hn
  have:=zqp (zbK m 0 m.jb) (List.replicate m.jb.length false) n (by simpa using hn) (fun x hx=>(zqo m m.jb 0 x hx).1);rw[jr hl];simp only[jp,jr hl,qT]at this;rw[this,hn0];simp[hn]
 have hsl:n<(zkj (List.replicate m.jb.length false) (zbK m 0 m.jb)).length:=(jJ.1 hsrc).1;have hsg:(zkj (List.replicate m.jb.length false) (zbK m 0 m.jb))[n]=decide (b.lane∈zbK m 0 m.jb):=(jJ.1 hsrc).2;have BD:=fun l hl=>zuT hf (lane:=b.lane) (tick:=tick) (l:=l) hl
 have hrl:=zqK zs ss b.lane tick;have hzf:=hf.zd.few;have hln:=zcX h hb.lane;have hR:=zBW hf b.lane tick;have hS:=zBV b.vhi (zd4 m.jb[n].kind) (by omega) (by rw[ek]at ht;omega);have w5:IntKind.i64.wrap (b.hi+zet b.vhi (zd4 m.jb[n].kind))=b.hi+zet b.vhi (zd4 m.jb[n].kind):=by rw[ek]at hst;exact zTd _ (by omega) (by omega)
 generalize hsrcE:decide (b.lane∈zbK m 0 m.jb)=src at *;rw[zUa zlx rfl];cases signals with
 |false =>
  have hb1:decide ((zdC m (zeA zs ss b.lane tick) b false src).lo<=(zdC m (zeA zs ss b.lane tick) b false src).hi)=true:=by simpa using hle
  rw[hb1];by_cases c:b.lo=0
  ·cases src with
   |true=>simp[za9,zh,zi,zo,ze,hn0,hn,hB,w1,w2,e1,e2,w3,w4,hsg,hsl,c,zdC]
   |false =>
    rw[c,uN]at w3;simp[za9,zh,zi,zo,ze,hn0,hn,hB,w1,w2,e1,e2,w3,w4,hsg,hsl,c,zdC]
  ·have c':(b.lo==0)=false:=by simp[c]
   simp[za9,zh,zi,zo,ze,hn0,hn,hB,w1,w2,e1,e2,w3,w4,hsg,hsl,c,c',zdC]
 |true =>
  rw[ek]at hst;have hmv:zdC m (zeA zs ss b.lane tick) b true src=zpT m b ⟨b.lane,if src=true/\b.lo=0 then 0 else b.lo+zcW m b,b.hi+zde m b,zcW m b,zde m b,0⟩ (zeA zs ss b.lane tick):=by
   simp only[zdC,zpT,if_true];cases (zeA zs ss b.lane tick).find? (zcY m b)<;>rfl
  have Aw:=fun x v=>zwF (m:=m) r len b x z9 v ⟨by omega,by omega,by omega,by omega⟩ (zeA zs ss b.lane tick) (fun l hl=>by have:=BD l hl;omega) (by omega) (zeA zs ss b.lane tick) 0 rfl (jx _)
  rw[hmv];generalize zeA zs ss b.lane tick=red at *;rw[hn0]at hR;simp only[zf]at hR;by_cases c:b.lo=0
  ·cases src with
   |true =>
    obtain⟨E,v',h1,h2,h3⟩:=Aw ⟨b.lane,0,b.hi+zde m b,zcW m b,zde m b,0⟩ 7;have hx:(if true=true/\b.lo=0 then 0 else b.lo+zcW m b)=0:=if_pos ⟨rfl,c⟩;rw[hx];generalize zpT m b ⟨b.lane,0,b.hi+zde m b,zcW m b,zde m b,0⟩ red=y at *;rw[ek]at h1;simp only[ji,zh,zi,ze,hn0,c]at h1;simp[za9,zh,zi,zo,ze,zf,hn0,hn,hB,w1,w2,e1,e2,w3,w4,w5,hsg,hsl,c,hR,hS,h1,h2,h3]
   |false =>
    obtain⟨E,v',h1,h2,h3⟩:=Aw ⟨b.lane,b.lo+zcW m b,b.hi+zde m b,zcW m b,zde m b,0⟩ 6;have hx:(if false=true/\b.lo=0 then 0 else b.lo+zcW m b)=b.lo+zcW m b:=if_neg (fun h=>by cases h.1);rw[hx];generalize zpT m b ⟨b.lane,b.lo+zcW m b,b.hi+zde m b,zcW m b,zde m b,0⟩ red=y at *;rw[ek]at h1;simp only[ji,zh,zi,ze,hn0,c,uN]at h1;rw[c,uN]at w3;simp[za9,zh,zi,zo,ze,zf,hn0,hn,hB,w1,w2,e1,e2,w3,w4,w5,hsg,hsl,c,hR,hS,h1,h2,h3]
  ·have c':(b.lo==0)=false:=by simp[c]
   obtain⟨E,v',h1,h2,h3⟩:=Aw ⟨b.lane,b.lo+zcW m b,b.hi+zde m b,zcW m b,zde m b,0⟩ 6;have hx:(if src=true/\b.lo=0 then 0 else b.lo+zcW m b)=b.lo+zcW m b:=if_neg (fun h=>c h.2);rw[hx];generalize zpT m b ⟨b.lane,b.lo+zcW m b,b.hi+zde m b,zcW m b,zde m b,0⟩ red=y at *;rw[ek]at h1;simp only[ji,zh,zi,ze,hn0]at h1;simp[za9,zh,zi,zo,ze,zf,hn0,hn,hB,w1,w2,e1,e2,w3,w4,w5,hsg,hsl,c,c',hR,hS,h1,h2,h3]
theorem zuQ{m:zD}(h:zcp m)(b:zk)(hb:VB m b)(z:zk)(src:Bool)(red:List Int)(BD:∀l∈red,-1000000000<=l/\l<=1000000000)(hlen:red.length<=1000):∀(j:Nat) (L0:Int),j<=red.length->∃i',
  Y L Cs zaW (some [15,17,3,10,4,13,12,14,6,16]) 3 [(15,.w (W L0)),(17,.w (W ((j:Int)-1))),(3,.w (Bo true)),(10,.w (Pt 2)),(4,.w (Bo src)),(13,.w (W (zif (zaK m b.lane)))),(12,.w (W (zeR (zaK m b.lane)))),(14,.w (W (zd4 (zaK m b.lane)))),(6,.w (Pt 1)),(16,.w (.c (.jc (zu red))))] [bx 5 (zf m),bx 6 (ze b),bx 6 (ze z)] =
    some (.exit 0,[(43,.w (Bo false)),(15,.w (W (((red.take j).find? (zcY m b)).getD L0))),(17,.w (W i')),(3,.w (Bo true)),(10,.w (Pt 2)),(4,.w (Bo src)),(13,.w (W (zif (zaK m b.lane)))),(12,.w (W (zeR (zaK m b.lane)))),(14,.w (W (zd4 (zaK m b.lane)))),(6,.w (Pt 1)),(16,.w (.c (.jc (zu red))))],[bx 5 (zf m),bx 6 (ze b),bx 6 (ze z)]):=by
 have ho:=zqQ h hb;have hp:=ho.pos;have ht:=ho.t;have hst:=ho.st;have a4:=hb.vlo;have a5:=hb.vle;have a6:=hb.vhi;have a2:=hb.le;have a1:=hb.lo;have hS:=zBX b.vhi (zd4 (zaK m b.lane)) (by omega) (by omega);have wS:=kg (b.hi+zet b.vhi (zd4 (zaK m b.lane)));intro j;induction j with
 |zero =>
  intro L0 hj;refine⟨-1,?_⟩;rw[zj zaW.eq_1];simp
 |succ j ih =>
  intro L0 hj;have hjl:j<red.length:=by omega
  have hlb:=BD red[j] (jf hjl);have ht1:red.take (j+1)=red.take j++[red[j]]:=by rw[vk hjl]
  obtain⟨i',hi'⟩:=ih (if zcY m b red[j]=true then red[j] else L0) (by omega);refine⟨i',?_⟩;have er:((red.take (j+1)).find? (zcY m b)).getD L0=((red.take j).find? (zcY m b)).getD (if zcY m b red[j]=true then red[j] else L0):=by
   rw[ht1,List.find?_append];cases (red.take j).find? (zcY m b)with
   |some l=>rfl
   |none =>
    simp only[Option.none_or,v5,List.find?_nil];cases zcY m b red[j]<;>simp
  rw[er,<-hi',zj zaW.eq_1];clear ih hi' er;have e0:((j+1:Nat):Int)-1=(j:Int):=by omega
  have w0:=kg ((j:Int)-1);rw[e0];by_cases c1:b.hi<red[j]
  ·by_cases c2:b.hi+zet b.vhi (zd4 (zaK m b.lane))<red[j]
   ·have c:zcY m b red[j]=true:=by simp[zcY,c1,c2]
    rw[c];simp[hjl,w0,c1,c2,hS,wS,ze]
   ·by_cases c3:b.hold=0
    ·have c:zcY m b red[j]=false:=by simp[zcY,c1,c2,c3]
     rw[c];simp[hjl,w0,c1,c2,c3,hS,wS,ze]
    ·have c3':(b.hold !=0)=true:=by simp[c3]
     by_cases c4:b.hold<=red[j]
     ·have c:zcY m b red[j]=true:=by simp[zcY,c1,c2,c3,c4]
      rw[c];simp[hjl,w0,c1,c2,c3,c3',c4,hS,wS,ze]
     ·have c:zcY m b red[j]=false:=by simp[zcY,c1,c2,c3,c4]
      rw[c];simp[hjl,w0,c1,c2,c3,c3',c4,hS,wS,ze]
  ·have c:zcY m b red[j]=false:=by simp[zcY,c1]
   rw[c];simp[hjl,w0,c1,ze]
theorem zws{m:zD}(b z:zk)(src:Bool)(red:List Int)(hlen:red.length<=1000)(i u v w:Int) :
  Y L Cs zaW (some [15,17,3,10,4,13,12,14,6,16]) 3 [(15,.w (W 0)),(17,.w (W i)),(3,.w (Bo false)),(10,.w (Pt 2)),(4,.w (Bo src)),(13,.w (W u)),(12,.w (W v)),(14,.w (W w)),(6,.w (Pt 1)),(16,.w (.c (.jc (zu red))))] [bx 5 (zf m),bx 6 (ze b),bx 6 (ze z)] =
    some (.exit 0,[(43,.w (Bo false)),(15,.w (W 0)),(17,.w (W i)),(3,.w (Bo false)),(10,.w (Pt 2)),(4,.w (Bo src)),(13,.w (W u)),(12,.w (W v)),(14,.w (W w)),(6,.w (Pt 1)),(16,.w (.c (.jc (zu red))))],[bx 5 (zf m),bx 6 (ze b),bx 6 (ze z)]):=by
 rw[zj zaW.eq_1];by_cases c:0<=i<;>simp[c]
theorem zAS{m:zD}{zs:List Zon}{ss:List Sgn}(hf:zmq m zs ss)(b:zk)(hb:VB m b)(tick:Int)(signals src:Bool):R L Cs zgA [.a (zf m),.a (ze b),W tick,Bo signals,Bo src] [] =
  some (.t [.a (ze (zdC m (zeA zs ss b.lane tick) b signals src)),Bo (decide ((zdC m (zeA zs ss b.lane tick) b signals src).lo<=(zdC m (zeA zs ss b.lane tick) b signals src).hi))],[]):=by
 have h:=hf.qH;have ho:=zqQ h hb;obtain⟨n,hn0⟩:=jt hb.lane.1;have hn:n<m.jb.length:=by have:=hb.lane.2;omega
 have hk:=h.kind _ (jf hn);have hB:=zhv hk;have ek:zaK m b.lane=m.jb[n].kind:=by rw[hn0];simp[zaK,hn]
 have a1:=hb.lo;have a2:=hb.le;have a4:=hb.vlo;have a5:=hb.vle;have a6:=hb.vhi;have ht:=ho.t;have hp:=ho.pos;have hs:=ho.s;have hff:=ho.f;have w1:IntKind.i64.wrap (b.vlo-zd4 m.jb[n].kind)=b.vlo-zd4 m.jb[n].kind:=by rw[ek]at ht a6;exact zTd _ (by omega) (by omega)
 have w2:IntKind.i64.wrap (b.vhi+zif m.jb[n].kind)=b.vhi+zif m.jb[n].kind:=by rw[ek]at ht a6;exact zTd _ (by omega) (by omega)
 have e1:max 0 (b.vlo-zd4 m.jb[n].kind)=zcW m b:=by rw[zcW,ek]
 have e2:min (zeR m.jb[n].kind) (b.vhi+zif m.jb[n].kind)=zde m b:=by rw[zde,ek]
 have w3:=kg (b.lo+zcW m b);have w4:=kg (b.hi+zde m b);have BD:=fun l hl=>zuT hf (lane:=b.lane) (tick:=tick) (l:=l) hl
 have hrl:=zqK zs ss b.lane tick;have hzf:=hf.zd.few;have hln:=zcX h hb.lane;have hR:=zy9 hf b.lane tick;have hmv:∀l:Int,(l=0/\(if signals then(zeA zs ss b.lane tick).find? (zcY m b) else none)=none)\/(0<l/\l<=1000000/\(if signals then(zeA zs ss b.lane tick).find? (zcY m b) else none)=some l)->zdC m (zeA zs ss b.lane tick) b signals src=⟨b.lane,if src=true/\b.lo=0 then 0 else b.lo+zcW m b,if 0<l then min (b.hi+zde m b) (l-1) else b.hi+zde m b,zcW m b,zde m b,l⟩:=by
  rintro l (⟨rfl,e⟩ |⟨hl,_,e⟩)
  ·simp[zdC,e]
  ·simp[zdC,e,hl]
 have hline:∃(l i':Int) (E0:Int),Y L Cs zaW (some [15,17,3,10,4,13,12,14,6,16]) 3 [(15,.w (W 0)),(17,.w (W (((zeA zs ss b.lane tick).length:Int)-1))),(3,.w (Bo signals)),(10,.w (Pt 2)),(4,.w (Bo src)),(13,.w (W (zif (zaK m b.lane)))),(12,.w (W (zeR (zaK m b.lane)))),(14,.w (W (zd4 (zaK m b.lane)))),(6,.w (Pt 1)),(16,.w (.c (.jc (zu (zeA zs ss b.lane tick)))))] [bx 5 (zf m),bx 6 (ze b),bx 6 (ze z9)] =
   some (.exit 0,[(43,.w (Bo false)),(15,.w (W l)),(17,.w (W i')),(3,.w (Bo signals)),(10,.w (Pt 2)),(4,.w (Bo src)),(13,.w (W (zif (zaK m b.lane)))),(12,.w (W (zeR (zaK m b.lane)))),(14,.w (W (zd4 (zaK m b.lane)))),(6,.w (Pt 1)),(16,.w (.c (.jc (zu (zeA zs ss b.lane tick)))))],[bx 5 (zf m),bx 6 (ze b),bx 6 (ze z9)])/\((l=0/\(if signals then(zeA zs ss b.lane tick).find? (zcY m b) else none)=none)\/(0<l/\l<=1000000/\(if signals then(zeA zs ss b.lane tick).find? (zcY m b) else none)=some l)):=by
  cases signals with
  |false=>exact⟨0,_,0,zws b z9 src _ (by omega) _ _ _ _,.inl ⟨rfl,rfl⟩⟩
  |true =>
   obtain⟨i',hi'⟩:=zuQ h b hb z9 src (zeA zs ss b.lane tick) (fun l hl=>by have:=BD l hl;omega) (by omega) (zeA zs ss b.lane tick).length 0 (jm _);rw[vN]at hi';refine⟨_,i',0,hi',?_⟩;cases hq:(zeA zs ss b.lane tick).find? (zcY m b)with
   |none=>exact .inl ⟨rfl,rfl⟩
   |some l =>
    have h1:=qK hq;have h2:=BD l (kP hq);unfold zcY at h1;simp at h1;exact .inr ⟨by simp;omega,by simp;omega,rfl⟩
 obtain⟨l,i',_,hY,hl⟩:=hline;have hm:=hmv l hl;have hlb:0<=l/\l<=1000000:=by rcases hl with⟨h,_⟩ |⟨h,h',_⟩<;>omega
 rw[hm];clear hm hmv hl;have wl:=kg (l-1);have wr:=kg (((zeA zs ss b.lane tick).length:Int)-1);rw[ek]at hY;generalize zeA zs ss b.lane tick=red at *;rw[hn0]at hR;simp only[zf,ze,hn0]at hR hY;rw[zUa zk2 rfl];by_cases c:b.lo=0
 ·have cb:(b.lo==0)=true:=by simp[c]
  rw[c,uN]at w3;rw[c]at hY;cases src with
  |true=>by_cases d:0<l<;>simp[zbQ,zo,ze,zf,hn0,hn,hB,w1,w2,e1,e2,w3,w4,c,hR,hY,d,wl,wr]
  |false=>by_cases d:0<l<;>simp[zbQ,zo,ze,zf,hn0,hn,hB,w1,w2,e1,e2,w3,w4,c,hR,hY,d,wl,wr]
 ·have c':(b.lo==0)=false:=by simp[c]
  cases src with
  |true=>by_cases d:0<l<;>simp[zbQ,zo,ze,zf,hn0,hn,hB,w1,w2,e1,e2,w3,w4,c,c',hR,hY,d,wl,wr]
  |false=>by_cases d:0<l<;>simp[zbQ,zo,ze,zf,hn0,hn,hB,w1,w2,e1,e2,w3,w4,c,c',hR,hY,d,wl,wr]
def zgo(l:List Int)(x:Int):Option Nat:=l.findIdx? fun y=>decide (y=x)
theorem zfT{l:List Int}{x:Int}{i:Nat}(h:zgo l x=some i):∃hi:i<l.length,l[i]=x:=by
 obtain⟨h1,h2,_⟩:=kl.1 h;exact⟨h1,by simpa using h2⟩
theorem zoq(l:List Int)(x:Int)(hl:l.length<=100000):R L Cs zf1 [.c (.jc (zu l)),W x] []=some (.w (W (zbe (zgo l x))),[]):=by
 obtain⟨h1,h2⟩:=zpv l x hl l 0 rfl (jx _);simp only[ji]at h1 h2;by_cases h:x∈l
 ·obtain⟨k,hk,hk1,hk2⟩:=h2 h;obtain⟨hkl,hkx⟩:=jJ.1 hk1;have e:zgo l x=some k:=by
   refine kl.2 ⟨hkl,by simp[hkx],fun j hj=>?_⟩;have:=hk2 j (jx _) hj;rw[jr (by omega)]at this;simpa using this
  rw[e,zUa zeL rfl];simp[zcI,hk,zbe]
 ·obtain⟨E',hE⟩:=h1 h;have e:zgo l x=none:=kG.2 fun y hy=>by
   have:y≠x:=fun e=>h (e ▸ hy)
   simp[this]
  rw[e,zUa zeL rfl];simp[zcI,hE,zbe]
def kS(m:zD)(r:List Int)(i:Nat):Int:=(zW m 0 r).getD i 0
def zcV(r:List Int)(lane:Int)(cap:Bool):Bool:=cap&&(zgo r lane).isSome
def zcj(m:zD)(r:List Int)(bar lane hi:Int)(cap:Bool):Int:=match zgo r lane with
 |some i=>if cap then min hi (min (z8 m lane) (bar-kS m r i)) else min hi (z8 m lane)
 |none=>min hi (z8 m lane)
abbrev LB:=zk×Bool
def lbC(x:LB):List Cl:=[I x.1.lane,I x.1.lo,I x.1.hi,I x.1.vlo,I x.1.vhi,I x.1.hold,.bool x.2]
def zdz(l:List LB):List (List Cl):=l.map lbC
@[simp] theorem zx8(l:List LB):(zdz l).length=l.length:=by simp[zdz]
@[simp] theorem zgf:zdz []=[]:=rfl
@[simp] theorem zfd(x:LB)(l:List LB):zdz (x::l)=lbC x::zdz l:=rfl
@[simp] theorem zx9(l k:List LB):zdz (l++k)=zdz l++zdz k:=by simp[zdz]
@[simp] theorem zBc{l:List LB}{i:Nat}(h:i<(zdz l).length):(zdz l)[i]=lbC (l[i]'(by simpa using h)):=by simp[zdz]
@[simp] theorem zCs(l:List LB):(zdz l).take l.length=zdz l:=jU (by simp)
def zhO(m:zD)(r:List Int)(bar:Int)(b:zk)(lo hi:Int)(cap:Bool):zk:=⟨b.lane,max 0 lo,zcj m r bar b.lane hi cap,b.vlo,b.vhi,b.hold⟩
def stays(m:zD)(r:List Int)(bar:Int)(b:zk)(lo hi:Int)(cap:Bool):Bool:=decide (lo<=z8 m b.lane)&&decide (max 0 lo<=zcj m r bar b.lane hi cap)
def zbA(m:zD)(r:List Int)(bar:Int)(b:zk)(lo hi:Int)(cap:Bool):List LB :=
 if stays m r bar b lo hi cap=true then [(zhO m r bar b lo hi cap,zcV r b.lane cap)] else []
def zm(m:zD)(r:List Int)(len bar:Int)(e:Ego):List Cl:=zh m r len++[I bar,I e.slo,I e.shi,I e.vlo,I e.vhi]
abbrev zbt(j:Nat):Option Blk:=some { box:=true,esz:=1,rows:=[[.fn zcg [] [.ptr 0 0 0 0,.ptr 1 0 0 0,.ptr j 0 0 0]]],gen:=0,fz:=false,ver:=1 }
structure ziO(m:zD)(r:List Int)(bar:Int):Prop where
 qH:zcp m
 len:r.length<=8
 on:zj2 m r
 bar:-4000000000000<=bar/\bar<=4000000000000
theorem zqm{m:zD}(h:zcp m):∀(r:List Int),zj2 m r->∀(a:Int) (i:Nat),0<=a->i<r.length->a<=(zW m a r).getD i 0/\(zW m a r).getD i 0<=a+1000000*i
 |[],_,a,i,_,hi=>by simp at hi
 |x::r,hon,a,0,ha,_=>by simp[zW]
 |x::r,hon,a,i+1,ha,hi=>by
  have hx:=zcX h (hon x (jo ..));have:=zqm h r (fun y hy=>hon y (jq _ hy)) (a+z8 m x) i (by omega) (by simpa using hi);simp only[zW,List.getD_cons_succ];omega
theorem zmA{m:zD}{r:List Int}{bar:Int}(h:ziO m r bar){i:Nat}(hi:i<r.length):0<=kS m r i/\kS m r i<=8000000:=by
 have:=zqm h.qH r h.on 0 i (jL _) hi;have h8:=h.len;unfold kS;omega
theorem zz6{m:zD}{r:List Int}{bar:Int}(h:ziO m r bar)(len:Int)(e:Ego)(b:zk)(hb:0<=b.lane/\b.lane<m.jb.length)(hn:zS m b.lane=[])(lo hi:Int)(hlo:-100000000<=lo/\lo<=100000000)(hhi:-100000000<=hi/\hi<=100000000)(cap:Bool)(l:List LB)(hl:l.length<=1000)(v:Nat) :
  R L Cs zcg [.a (ze b),W lo,W hi,Bo cap,Pt 0,Pt 1,Pt 3] [bx 16 (zm m r len bar e),bxv v 1 [.slice 2 l.length 7 0 l.length none],some (own 7 (zdz l)),zbt 3] =
    some (.t [],[bx 16 (zm m r len bar e),bxv (if stays m r bar b lo hi cap=true then v+1 else v) 1 [.slice 2 (l++zbA m r bar b lo hi cap).length 7 0 (l++zbA m r bar b lo hi cap).length none],some (own 7 (zdz (l++zbA m r bar b lo hi cap))),zbt 3]):=by
 obtain⟨n,hn0⟩:=jt hb.1;have hnl:n<m.jb.length:=by omega
 have hI:=zoq r b.lane (by have:=h.len;omega);have hlen:=zcX h.qH hb;have el:z8 m b.lane=m.jb[n].len:=by rw[hn0];simp[z8,hnl]
 have en:m.jb[n].next=[]:=by rw[<-hn,hn0];simp[zS,hnl]
 have hY:∀(n0:Nat) (a c d e1 f g q s u1:AV) (M:Mem),Y L Cs zU (some [89,88,87,7,12,4,6,1,2,11,3]) n0 [(89,.w (W 0)),(88,.w (W 0)),(87,a),(7,c),(12,d),(4,e1),(6,f),(1,g),(2,q),(11,s),(3,u1)] M=some (.exit 0,[(90,.w (Bo false)),(89,.w (W 0)),(88,.w (W 0)),(87,a),(7,c),(12,d),(4,e1),(6,f),(1,g),(2,q),(11,s),(3,u1)],M):=by
  intro n0 a c d e1 f g q s u1 M;rw[zj zU.eq_1];simp
 have hrm:(l.length+1)*56<=140737488355328:=by omega
 rw[el]at hlen;cases hix:zgo r b.lane with
 |none =>
  rw[hix]at hI;simp only[hn0,zbe]at hI;cases cap with
  |true =>
   have ec:zcV r b.lane true=false:=by simp[zcV,hix]
   have et:zcj m r bar b.lane hi true=min hi m.jb[n].len:=by simp[zcj,hix,el]
   unfold zbA stays zhO;rw[ec,et,el,zUa zam rfl];by_cases d1:lo<=m.jb[n].len
   ·by_cases d2:max 0 lo<=min hi m.jb[n].len
    ·by_cases d3:hi<m.jb[n].len
     ·simp[za,zm,zh,zi,ze,zo,hn0,hnl,hI,d1,d2,d3,hrm,en,hY,lbC,zg,zr]
     ·simp[za,zm,zh,zi,ze,zo,hn0,hnl,hI,d1,d2,d3,hrm,en,hY,lbC,zg,zr]
    ·by_cases d3:hi<m.jb[n].len
     ·simp[za,zm,zh,zi,ze,zo,hn0,hnl,hI,d1,d2,d3,hrm,en,hY,lbC,zg,zr]
     ·simp[za,zm,zh,zi,ze,zo,hn0,hnl,hI,d1,d2,d3,hrm,en,hY,lbC,zg,zr]
   ·by_cases d3:hi<m.jb[n].len
    ·simp[za,zm,zh,zi,ze,zo,hn0,hnl,hI,d1,d3,hrm,en,hY,lbC,zg,zr]
    ·simp[za,zm,zh,zi,ze,zo,hn0,hnl,hI,d1,d3,hrm,en,hY,lbC,zg,zr]
  |false =>
   have ec:zcV r b.lane false=false:=by simp[zcV,hix]
   have et:zcj m r bar b.lane hi false=min hi m.jb[n].len:=by simp[zcj,hix,el]
   unfold zbA stays zhO;rw[ec,et,el,zUa zam rfl];by_cases d1:lo<=m.jb[n].len
   ·by_cases d2:max 0 lo<=min hi m.jb[n].len
    ·by_cases d3:hi<m.jb[n].len
     ·simp[za,zm,zh,zi,ze,zo,hn0,hnl,hI,d1,d2,d3,hrm,en,hY,lbC,zg,zr]
     ·simp[za,zm,zh,zi,ze,zo,hn0,hnl,hI,d1,d2,d3,hrm,en,hY,lbC,zg,zr]
    ·by_cases d3:hi<m.jb[n].len
     ·simp[za,zm,zh,zi,ze,zo,hn0,hnl,hI,d1,d2,d3,hrm,en,hY,lbC,zg,zr]
     ·simp[za,zm,zh,zi,ze,zo,hn0,hnl,hI,d1,d2,d3,hrm,en,hY,lbC,zg,zr]
   ·by_cases d3:hi<m.jb[n].len
    ·simp[za,zm,zh,zi,ze,zo,hn0,hnl,hI,d1,d3,hrm,en,hY,lbC,zg,zr]
    ·simp[za,zm,zh,zi,ze,zo,hn0,hnl,hI,d1,d3,hrm,en,hY,lbC,zg,zr]
 |some i =>
  obtain⟨hil,_⟩:=zfT hix;have hsb:=zmA h hil;have Bt:=h.bar;have wS:=kg (bar-kS m r i);have hsl:i<(zW m 0 r).length:=by rw[zcO];exact hil
  have hsi:(zW m 0 r)[i]=kS m r i:=by simp[kS,hsl]
  rw[hix]at hI;simp only[hn0,zbe]at hI;cases cap with
  |true =>
   have ec:zcV r b.lane true=true:=by simp[zcV,hix]
   have et:zcj m r bar b.lane hi true=min hi (min m.jb[n].len (bar-kS m r i)):=by simp[zcj,hix,el]
   unfold zbA stays zhO;rw[ec,et,el,zUa zam rfl];by_cases d1:lo<=m.jb[n].len
   ·by_cases d2:max 0 lo<=min hi (min m.jb[n].len (bar-kS m r i))
    ·by_cases d3:hi<m.jb[n].len
     ·simp[za,zm,zh,zi,ze,zo,hn0,hnl,hI,hil,hsl,hsi,wS,d1,d2,d3,hrm,en,hY,lbC,zg,zr]
     ·simp[za,zm,zh,zi,ze,zo,hn0,hnl,hI,hil,hsl,hsi,wS,d1,d2,d3,hrm,en,hY,lbC,zg,zr]
    ·by_cases d3:hi<m.jb[n].len
     ·simp[za,zm,zh,zi,ze,zo,hn0,hnl,hI,hil,hsl,hsi,wS,d1,d2,d3,hrm,en,hY,lbC,zg,zr]
     ·simp[za,zm,zh,zi,ze,zo,hn0,hnl,hI,hil,hsl,hsi,wS,d1,d2,d3,hrm,en,hY,lbC,zg,zr]
   ·by_cases d3:hi<m.jb[n].len
    ·simp[za,zm,zh,zi,ze,zo,hn0,hnl,hI,hil,hsl,hsi,wS,d1,d3,hrm,en,hY,lbC,zg,zr]
    ·simp[za,zm,zh,zi,ze,zo,hn0,hnl,hI,hil,hsl,hsi,wS,d1,d3,hrm,en,hY,lbC,zg,zr]
  |false =>
   have ec:zcV r b.lane false=false:=by simp[zcV,hix]
   have et:zcj m r bar b.lane hi false=min hi m.jb[n].len:=by simp[zcj,hix,el]
   unfold zbA stays zhO;rw[ec,et,el,zUa zam rfl];by_cases d1:lo<=m.jb[n].len
   ·by_cases d2:max 0 lo<=min hi m.jb[n].len
    ·by_cases d3:hi<m.jb[n].len
     ·simp[za,zm,zh,zi,ze,zo,hn0,hnl,hI,hil,hsl,hsi,wS,d1,d2,d3,hrm,en,hY,lbC,zg,zr]
     ·simp[za,zm,zh,zi,ze,zo,hn0,hnl,hI,hil,hsl,hsi,wS,d1,d2,d3,hrm,en,hY,lbC,zg,zr]
    ·by_cases d3:hi<m.jb[n].len
     ·simp[za,zm,zh,zi,ze,zo,hn0,hnl,hI,hil,hsl,hsi,wS,d1,d2,d3,hrm,en,hY,lbC,zg,zr]
     ·simp[za,zm,zh,zi,ze,zo,hn0,hnl,hI,hil,hsl,hsi,wS,d1,d2,d3,hrm,en,hY,lbC,zg,zr]
   ·by_cases d3:hi<m.jb[n].len
    ·simp[za,zm,zh,zi,ze,zo,hn0,hnl,hI,hil,hsl,hsi,wS,d1,d3,hrm,en,hY,lbC,zg,zr]
    ·simp[za,zm,zh,zi,ze,zo,hn0,hnl,hI,hil,hsl,hsi,wS,d1,d3,hrm,en,hY,lbC,zg,zr]
def zbi(r:List Int)(lane x:Int):Bool:=match zgo r lane,zgo r x with
 |some i,some j=>decide (j=i+1)
 |_,_=>false
def zb2(m:zD)(r:List Int)(slo lane x:Int):Bool:=match zgo r x with
 |some j=>!zbi r lane x&&decide (kS m r j<=slo)
 |none=>false
def zhq(m:zD)(r:List Int)(slo lane x:Int)(cap:Bool):Bool:=(zbi r lane x&&zcV r lane cap)||zb2 m r slo lane x
def za6(b:zk)(x:Int):zk:=⟨x,b.lo,b.hi,b.vlo,b.vhi,0⟩
abbrev lyE(m:zD)(r:List Int)(b:zk)(lo hi:Int)(cap:Bool)(i:Nat):Env:=[(89,.w (W i)),(88,.w (W (zS m b.lane).length)),(87,.w (.c (.jc (zu (zS m b.lane))))),(7,.w (Pt 3)),(12,.w (W (zbe (zgo r b.lane)))),(4,.w (Pt 0)),(6,.w (Pt 2)),(1,.w (W lo)),(2,.w (W hi)),(11,.w (W (z8 m b.lane))),(3,.w (Bo (zcV r b.lane cap)))]
theorem zxc(l:List Int)(x:Int)(hl:l.length<=100000)(M:Mem):zx (R L Cs) ⟨true⟩ (.c (.fn zf1 [] [])) [.c (.jc (zu l)),W x] M=some (.w (W (zbe (zgo l x))),M,.no):=by
 have h:=zoq l x hl;simp[h]
theorem zqW{m:zD}{r:List Int}{bar:Int}(h:ziO m r bar)(len:Int)(e:Ego)(b:zk)(hb:0<=b.lane/\b.lane<m.jb.length)(lo hi:Int)(hlo:-100000000<=lo/\lo<=100000000)(hhi:-100000000<=hi/\hi<=100000000)(cap:Bool)(n0:Nat)(i:Nat)(hi1:i<(zS m b.lane).length)(hi2:i<1000)(O:Option Blk)(T M2:Mem)(fp:FP)
  (qM:zx (R L Cs) ⟨true⟩ (.c (.fn zcg [] [.ptr 0 0 0 0,.ptr 1 0 0 0,.ptr 2 0 0 0])) [.a (ze (za6 b (zS m b.lane)[i])),W (lo-z8 m b.lane),W (hi-z8 m b.lane),Bo (zhq m r e.slo b.lane (zS m b.lane)[i] cap)] (bx 16 (zm m r len bar e)::O::zbt 2::bx 6 (ze b)::(T++[bxv 3 6 (ze (za6 b (zS m b.lane)[i]))]))=some (.t [],M2,fp)) :
  Y L Cs zU (some [89,88,87,7,12,4,6,1,2,11,3]) n0 (lyE m r b lo hi cap i) (bx 16 (zm m r len bar e)::O::zbt 2::bx 6 (ze b)::T) =
    Y L Cs zU (some [89,88,87,7,12,4,6,1,2,11,3]) n0 (lyE m r b lo hi cap (i+1)) (j7 n0 (lyE m r b lo hi cap (i+1)) M2):=by
 have hlen:=zcX h.qH hb;have hw:=zB (i:=i) (by omega);have hI:=zxc r (zS m b.lane)[i] (by have:=h.len;omega);have w1:=kg (lo-z8 m b.lane);have w2:=kg (hi-z8 m b.lane);rw[zj zU.eq_1];generalize hx:(zS m b.lane)[i]=x at *;simp only[zm,zh,zi,ze,za6,jk,jh]at qM ⊢;cases hL:zgo r b.lane with
 |none =>
  have hcT:zcV r b.lane cap=false:=by simp[zcV,hL]
  cases hX:zgo r x with
  |none =>
   rw[hX]at hI;simp only[zbe]at hI;have hc:zhq m r e.slo b.lane x cap=false:=by simp[zhq,zb2,zbi,zcV,hL,hX]
   rw[hc]at qM;simp[lyE,hi1,hx,hw,w1,w2,hI,zbe,zg,qM,hL,hcT,-zx,-j7]
  |some j =>
   obtain⟨hjl,_⟩:=zfT hX;have hsl:j<(zW m 0 r).length:=by rw[zcO];exact hjl
   have hsi:(zW m 0 r)[j]=kS m r j:=by simp[kS,hsl]
   rw[hX]at hI;simp only[zbe]at hI;by_cases d:kS m r j<=e.slo
   ·have hc:zhq m r e.slo b.lane x cap=true:=by simp[zhq,zb2,zbi,zcV,hL,hX,d]
    rw[hc]at qM;simp[lyE,hi1,hx,hw,w1,w2,hI,zbe,zg,qM,hL,hcT,hjl,hsl,hsi,d,-zx,-j7]
   ·have hc:zhq m r e.slo b.lane x cap=false:=by simp[zhq,zb2,zbi,zcV,hL,hX,d]
    rw[hc]at qM;simp[lyE,hi1,hx,hw,w1,w2,hI,zbe,zg,qM,hL,hcT,hjl,hsl,hsi,d,-zx,-j7]
 |some q =>
  obtain⟨hql,_⟩:=zfT hL;have hq8:=h.len;have hwq:IntKind.i64.wrap ((q:Int)+1)=((q+1:Nat):Int):=zB (by omega);have hcT:zcV r b.lane cap=cap:=by simp[zcV,hL]
  cases hX:zgo r x with
  |none =>
   rw[hX]at hI;simp only[zbe]at hI;have hne:((-1:Int)==((q:Int)+1))=false:=by simp;omega
   have hc:zhq m r e.slo b.lane x cap=false:=by simp[zhq,zb2,zbi,zcV,hL,hX]
   rw[hc]at qM;simp[lyE,hi1,hx,hw,w1,w2,hI,zbe,zg,qM,hL,hcT,hwq,hne,-zx,-j7]
  |some j =>
   obtain⟨hjl,_⟩:=zfT hX;have hsl:j<(zW m 0 r).length:=by rw[zcO];exact hjl
   have hsi:(zW m 0 r)[j]=kS m r j:=by simp[kS,hsl]
   rw[hX]at hI;simp only[zbe]at hI;by_cases f:j=q+1
   ·subst f;have hq0:(0:Int)<=(q:Int)+1:=by omega
    cases cap with
    |true =>
     have hc:zhq m r e.slo b.lane x true=true:=by simp[zhq,zb2,zbi,zcV,hL,hX]
     rw[hc]at qM;simp[lyE,hi1,hx,hw,w1,w2,hI,zbe,zg,qM,hL,hcT,hwq,hq0,-zx,-j7]
    |false =>
     have hc:zhq m r e.slo b.lane x false=false:=by simp[zhq,zb2,zbi,zcV,hL,hX]
     rw[hc]at qM;simp[lyE,hi1,hx,hw,w1,w2,hI,zbe,zg,qM,hL,hcT,hwq,hq0,-zx,-j7]
   ·have hne:((j:Int)==((q:Int)+1))=false:=by simp;omega
    by_cases d:kS m r j<=e.slo
    ·have hc:zhq m r e.slo b.lane x cap=true:=by simp[zhq,zb2,zbi,zcV,hL,hX,f,d]
     rw[hc]at qM;simp[lyE,hi1,hx,hw,w1,w2,hI,zbe,zg,qM,hL,hcT,hwq,hne,f,hjl,hsl,hsi,d,-zx,-j7]
    ·have hc:zhq m r e.slo b.lane x cap=false:=by simp[zhq,zb2,zbi,zcV,hL,hX,f,d]
     rw[hc]at qM;simp[lyE,hi1,hx,hw,w1,w2,hI,zbe,zg,qM,hL,hcT,hwq,hne,f,hjl,hsl,hsi,d,-zx,-j7]
abbrev zbT(x:LB):Option Blk:=some { box:=false,esz:=7,rows:=[lbC x],gen:=1,fz:=false,ver:=1 }
theorem zyJ{m:zD}{r:List Int}{bar:Int}(h:ziO m r bar)(len:Int)(e:Ego)(b:zk)(hb:0<=b.lane/\b.lane<m.jb.length)(hn:zS m b.lane=[])(lo hi:Int)(hlo:-100000000<=lo/\lo<=100000000)(hhi:-100000000<=hi/\hi<=100000000)(cap:Bool)(v:Nat) :
  R L Cs zcg [.a (ze b),W lo,W hi,Bo cap,Pt 0,Pt 1,Pt 2] [bx 16 (zm m r len bar e),bxv v 1 [.jd],zbt 2] =
    some (.t [],if stays m r bar b lo hi cap=true then [bx 16 (zm m r len bar e),bxv (v+1) 1 [.slice 3 1 7 0 1 none],zbt 2,zbT (zhO m r bar b lo hi cap,zcV r b.lane cap)] else [bx 16 (zm m r len bar e),bxv v 1 [.jd],zbt 2]):=by
 obtain⟨n,hn0⟩:=jt hb.1;have hnl:n<m.jb.length:=by omega
 have hI:=zoq r b.lane (by have:=h.len;omega);have hlen:=zcX h.qH hb;have el:z8 m b.lane=m.jb[n].len:=by rw[hn0];simp[z8,hnl]
 have en:m.jb[n].next=[]:=by rw[<-hn,hn0];simp[zS,hnl]
 have hY:∀(n0:Nat) (a c d e1 f g q s u1:AV) (M:Mem),Y L Cs zU (some [89,88,87,7,12,4,6,1,2,11,3]) n0 [(89,.w (W 0)),(88,.w (W 0)),(87,a),(7,c),(12,d),(4,e1),(6,f),(1,g),(2,q),(11,s),(3,u1)] M=some (.exit 0,[(90,.w (Bo false)),(89,.w (W 0)),(88,.w (W 0)),(87,a),(7,c),(12,d),(4,e1),(6,f),(1,g),(2,q),(11,s),(3,u1)],M):=by
  intro n0 a c d e1 f g q s u1 M;rw[zj zU.eq_1];simp
 rw[el]at hlen;cases hix:zgo r b.lane with
 |none =>
  rw[hix]at hI;simp only[hn0,zbe]at hI;cases cap with
  |true =>
   have ec:zcV r b.lane true=false:=by simp[zcV,hix]
   have et:zcj m r bar b.lane hi true=min hi m.jb[n].len:=by simp[zcj,hix,el]
   unfold stays zhO;rw[ec,et,el,zUa zam rfl];by_cases d1:lo<=m.jb[n].len
   ·by_cases d2:max 0 lo<=min hi m.jb[n].len
    ·by_cases d3:hi<m.jb[n].len
     ·simp[za,zm,zh,zi,ze,zo,hn0,hnl,hI,d1,d2,d3,en,hY,lbC,zg,zr,List.range,List.range.loop]
     ·simp[za,zm,zh,zi,ze,zo,hn0,hnl,hI,d1,d2,d3,en,hY,lbC,zg,zr,List.range,List.range.loop]
    ·by_cases d3:hi<m.jb[n].len
     ·simp[za,zm,zh,zi,ze,zo,hn0,hnl,hI,d1,d2,d3,en,hY,lbC,zg,zr,List.range,List.range.loop]
     ·simp[za,zm,zh,zi,ze,zo,hn0,hnl,hI,d1,d2,d3,en,hY,lbC,zg,zr,List.range,List.range.loop]
   ·by_cases d3:hi<m.jb[n].len
    ·simp[za,zm,zh,zi,ze,zo,hn0,hnl,hI,d1,d3,en,hY,lbC,zg,zr,List.range,List.range.loop]
    ·simp[za,zm,zh,zi,ze,zo,hn0,hnl,hI,d1,d3,en,hY,lbC,zg,zr,List.range,List.range.loop]
  |false =>
   have ec:zcV r b.lane false=false:=by simp[zcV,hix]
   have et:zcj m r bar b.lane hi false=min hi m.jb[n].len:=by simp[zcj,hix,el]
   unfold stays zhO;rw[ec,et,el,zUa zam rfl];by_cases d1:lo<=m.jb[n].len
   ·by_cases d2:max 0 lo<=min hi m.jb[n].len
    ·by_cases d3:hi<m.jb[n].len
     ·simp[za,zm,zh,zi,ze,zo,hn0,hnl,hI,d1,d2,d3,en,hY,lbC,zg,zr,List.range,List.range.loop]
     ·simp[za,zm,zh,zi,ze,zo,hn0,hnl,hI,d1,d2,d3,en,hY,lbC,zg,zr,List.range,List.range.loop]
    ·by_cases d3:hi<m.jb[n].len
     ·simp[za,zm,zh,zi,ze,zo,hn0,hnl,hI,d1,d2,d3,en,hY,lbC,zg,zr,List.range,List.range.loop]
     ·simp[za,zm,zh,zi,ze,zo,hn0,hnl,hI,d1,d2,d3,en,hY,lbC,zg,zr,List.range,List.range.loop]
   ·by_cases d3:hi<m.jb[n].len
    ·simp[za,zm,zh,zi,ze,zo,hn0,hnl,hI,d1,d3,en,hY,lbC,zg,zr,List.range,List.range.loop]
    ·simp[za,zm,zh,zi,ze,zo,hn0,hnl,hI,d1,d3,en,hY,lbC,zg,zr,List.range,List.range.loop]
 |some i =>
  obtain⟨hil,_⟩:=zfT hix;have hsb:=zmA h hil;have Bt:=h.bar;have wS:=kg (bar-kS m r i);have hsl:i<(zW m 0 r).length:=by rw[zcO];exact hil
  have hsi:(zW m 0 r)[i]=kS m r i:=by simp[kS,hsl]
  rw[hix]at hI;simp only[hn0,zbe]at hI;cases cap with
  |true =>
   have ec:zcV r b.lane true=true:=by simp[zcV,hix]
   have et:zcj m r bar b.lane hi true=min hi (min m.jb[n].len (bar-kS m r i)):=by simp[zcj,hix,el]
   unfold stays zhO;rw[ec,et,el,zUa zam rfl];by_cases d1:lo<=m.jb[n].len
   ·by_cases d2:max 0 lo<=min hi (min m.jb[n].len (bar-kS m r i))
    ·by_cases d3:hi<m.jb[n].len
     ·simp[za,zm,zh,zi,ze,zo,hn0,hnl,hI,hil,hsl,hsi,wS,d1,d2,d3,en,hY,lbC,zg,zr,List.range,List.range.loop]
     ·simp[za,zm,zh,zi,ze,zo,hn0,hnl,hI,hil,hsl,hsi,wS,d1,d2,d3,en,hY,lbC,zg,zr,List.range,List.range.loop]
    ·by_cases d3:hi<m.jb[n].len
     ·simp[za,zm,zh,zi,ze,zo,hn0,hnl,hI,hil,hsl,hsi,wS,d1,d2,d3,en,hY,lbC,zg,zr,List.range,List.range.loop]
     ·simp[za,zm,zh,zi,ze,zo,hn0,hnl,hI,hil,hsl,hsi,wS,d1,d2,d3,en,hY,lbC,zg,zr,List.range,List.range.loop]
   ·by_cases d3:hi<m.jb[n].len
    ·simp[za,zm,zh,zi,ze,zo,hn0,hnl,hI,hil,hsl,hsi,wS,d1,d3,en,hY,lbC,zg,zr,List.range,List.range.loop]
    ·simp[za,zm,zh,zi,ze,zo,hn0,hnl,hI,hil,hsl,hsi,wS,d1,d3,en,hY,lbC,zg,zr,List.range,List.range.loop]
  |false =>
   have ec:zcV r b.lane false=false:=by simp[zcV,hix]
   have et:zcj m r bar b.lane hi false=min hi m.jb[n].len:=by simp[zcj,hix,el]
   unfold stays zhO;rw[ec,et,el,zUa zam rfl];by_cases d1:lo<=m.jb[n].len
   ·by_cases d2:max 0 lo<=min hi m.jb[n].len
    ·by_cases d3:hi<m.jb[n].len
     ·simp[za,zm,zh,zi,ze,zo,hn0,hnl,hI,hil,hsl,hsi,wS,d1,d2,d3,en,hY,lbC,zg,zr,List.range,List.range.loop]
     ·simp[za,zm,zh,zi,ze,zo,hn0,hnl,hI,hil,hsl,hsi,wS,d1,d2,d3,en,hY,lbC,zg,zr,List.range,List.range.loop]
    ·by_cases d3:hi<m.jb[n].len
     ·simp[za,zm,zh,zi,ze,zo,hn0,hnl,hI,hil,hsl,hsi,wS,d1,d2,d3,en,hY,lbC,zg,zr,List.range,List.range.loop]
     ·simp[za,zm,zh,zi,ze,zo,hn0,hnl,hI,hil,hsl,hsi,wS,d1,d2,d3,en,hY,lbC,zg,zr,List.range,List.range.loop]
   ·by_cases d3:hi<m.jb[n].len
    ·simp[za,zm,zh,zi,ze,zo,hn0,hnl,hI,hil,hsl,hsi,wS,d1,d3,en,hY,lbC,zg,zr,List.range,List.range.loop]
    ·simp[za,zm,zh,zi,ze,zo,hn0,hnl,hI,hil,hsl,hsi,wS,d1,d3,en,hY,lbC,zg,zr,List.range,List.range.loop]
abbrev zDh:WV:=.c (.fn zcg [] [.ptr 0 0 0 0,.ptr 1 0 0 0,.ptr 2 0 0 0])
abbrev zba(v id:Nat)(l:List LB):Option Blk:=bxv v 1 [.slice id l.length 7 0 l.length none]
abbrev rwB(l:List LB):Option Blk:=some { box:=false,esz:=7,rows:=zdz l,gen:=l.length,fz:=false,ver:=l.length }
theorem zu8{m:zD}{r:List Int}{bar:Int}(h:ziO m r bar)(len:Int)(e:Ego)(x:zk)(hx:0<=x.lane/\x.lane<m.jb.length)(hn:zS m x.lane=[])(lo hi:Int)(hlo:-100000000<=lo/\lo<=100000000)(hhi:-100000000<=hi/\hi<=100000000)(cap:Bool)(l:List LB)(hl:l.length<=1000)(v:Nat)(B:Option Blk)(T:Mem)(k:Nat)(hk:k<T.length)(hT:T[k]?=some (rwB l)) :
  ∃v' fp,v<=v'/\zx (R L Cs) ⟨true⟩ zDh [.a (ze x),W lo,W hi,Bo cap] (bx 16 (zm m r len bar e)::zba v (k+4) l::zbt 2::B::T)=some (.t [],bx 16 (zm m r len bar e)::zba v' (k+4) (l++zbA m r bar x lo hi cap)::zbt 2::B::T.set k (rwB (l++zbA m r bar x lo hi cap)),fp):=by
 have hf:=zz6 h len e x hx hn lo hi hlo hhi cap l hl v;have hl16:(zm m r len bar e).length=16:=by simp[zm,zh,zi]
 simp only[zm,zh,zi,ze,jk,jh,own,zx8]at hf ⊢;by_cases c:stays m r bar x lo hi cap=true
 ·have ep:zbA m r bar x lo hi cap=[(zhO m r bar x lo hi cap,zcV r x.lane cap)]:=by rw[zbA,if_pos c]
  rw[if_pos c,ep]at hf;rw[ep];refine⟨v+1,.wr [(1,0,whole),(k+4,0,whole)],by omega,?_⟩;simp only[jv,jl,ju,zx9,zfd,zgf]at hf ⊢;simp[hf,hT,zr,rwB]
 ·have ep:zbA m r bar x lo hi cap=[]:=by rw[zbA,if_neg c]
  rw[if_neg c,ep,kJ]at hf;rw[ep,kJ];have yV:T.set k (rwB l)=T:=by
   apply vo;intro j;by_cases hj:k=j
   ·subst hj;rw[ku hk,hT]
   ·rw[jG hj]
  rw[yV];refine⟨v,.no,jm _,?_⟩;simp[hf,hT,zr]
theorem zyK{m:zD}{r:List Int}{bar:Int}(h:ziO m r bar)(len:Int)(e:Ego)(x:zk)(hx:0<=x.lane/\x.lane<m.jb.length)(hn:zS m x.lane=[])(lo hi:Int)(hlo:-100000000<=lo/\lo<=100000000)(hhi:-100000000<=hi/\hi<=100000000)(cap:Bool)(v:Nat)(B P C:Option Blk) :
  ∃fp,zx (R L Cs) ⟨true⟩ zDh [.a (ze x),W lo,W hi,Bo cap] [bx 16 (zm m r len bar e),bxv v 1 [.jd],zbt 2,B,P,C]=some (.t [],if stays m r bar x lo hi cap=true then [bx 16 (zm m r len bar e),zba (v+1) 6 (zbA m r bar x lo hi cap),zbt 2,B,P,C,rwB (zbA m r bar x lo hi cap)] else [bx 16 (zm m r len bar e),bxv v 1 [.jd],zbt 2,B,P,C],fp):=by
 have hf:=zyJ h len e x hx hn lo hi hlo hhi cap v;simp only[zm,zh,zi,ze,jk,jh]at hf ⊢;by_cases c:stays m r bar x lo hi cap=true
 ·have ep:zbA m r bar x lo hi cap=[(zhO m r bar x lo hi cap,zcV r x.lane cap)]:=by rw[zbA,if_pos c]
  rw[if_pos c]at hf ⊢;rw[ep];refine⟨.wr [(1,0,whole)],?_⟩;simp[hf,zr,lbC]
 ·rw[if_neg c]at hf ⊢;refine⟨.no,?_⟩;simp[hf,zr]
theorem zqX(m:zD)(r:List Int)(b:zk)(lo hi:Int)(cap:Bool)(n0:Nat)(M:Mem):Y L Cs zU (some [89,88,87,7,12,4,6,1,2,11,3]) n0 (lyE m r b lo hi cap (zS m b.lane).length) M=some (.exit 0,(90,.w (Bo false))::lyE m r b lo hi cap (zS m b.lane).length,M):=by
 rw[zj zU.eq_1];simp
def zg3(m:zD)(r:List Int)(bar slo:Int)(b:zk)(lo hi:Int)(cap:Bool)(x:Int):List LB:=zbA m r bar (za6 b x) (lo-z8 m b.lane) (hi-z8 m b.lane) (zhq m r slo b.lane x cap)
theorem znZ(m:zD)(r:List Int)(bar slo:Int)(b:zk)(lo hi:Int)(cap:Bool)(x:Int):(zg3 m r bar slo b lo hi cap x).length<=1:=by
 unfold zg3 zbA;split<;>simp
theorem drop7(m:zD)(r:List Int)(b:zk)(lo hi:Int)(cap:Bool)(i:Nat)(len bar:Int)(e:Ego)(l:List LB)(v:Nat)(q:LB)(p y:zk)(w:Nat) :
  j7 7 (lyE m r b lo hi cap i) [bx 16 (zm m r len bar e),zba v 6 l,zbt 2,bx 6 (ze b),bxv w 6 (ze p),zbT q,rwB l,bxv 3 6 (ze y)]=[bx 16 (zm m r len bar e),zba v 6 l,zbt 2,bx 6 (ze b),bxv w 6 (ze p),zbT q,rwB l]:=by
 simp[lyE,zm,zh,zi,ze,zr]
theorem drop5(m:zD)(r:List Int)(b:zk)(lo hi:Int)(cap:Bool)(i:Nat)(len bar:Int)(e:Ego)(v:Nat)(p y:zk)(w:Nat) :
  j7 5 (lyE m r b lo hi cap i) [bx 16 (zm m r len bar e),bxv v 1 [.jd],zbt 2,bx 6 (ze b),bxv w 6 (ze p),bxv 3 6 (ze y)]=[bx 16 (zm m r len bar e),bxv v 1 [.jd],zbt 2,bx 6 (ze b),bxv w 6 (ze p)]:=by
 simp[lyE,zm,zh,zi,ze,zr]
theorem CU(m:zD)(r:List Int)(b:zk)(lo hi:Int)(cap:Bool)(i:Nat)(len bar:Int)(e:Ego)(l:List LB)(v:Nat)(p:zk)(w:Nat)(T:Mem) :
  j7 5 (lyE m r b lo hi cap i) (bx 16 (zm m r len bar e)::zba v 6 l::zbt 2::bx 6 (ze b)::bxv w 6 (ze p)::T)=bx 16 (zm m r len bar e)::zba v 6 l::zbt 2::bx 6 (ze b)::bxv w 6 (ze p)::T:=by
 simp[lyE,zm,zh,zi,ze,zr]
theorem zqa{m:zD}(h:zcp m){a:Int}(i:Nat)(hi:i<(zS m a).length):0<=(zS m a)[i]/\(zS m a)[i]<m.jb.length:=by
 have hm:(zS m a)[i]∈zS m a:=jf hi;generalize (zS m a)[i]=x at hm ⊢;unfold zS at hm;cases hl:m.jb[a.toNat]? with
 |none=>simp[hl]at hm
 |some l =>
  simp[hl]at hm;exact h.small.valid l (kx hl) x hm
theorem zyI{m:zD}{r:List Int}{bar:Int}(h:ziO m r bar)(hs:zmX m)(len:Int)(e:Ego)(b:zk)(hb:0<=b.lane/\b.lane<m.jb.length)(lo hi:Int)(hlo:-90000000<=lo/\lo<=90000000)(hhi:-90000000<=hi/\hi<=90000000)(cap:Bool)(p:zk)(w:Nat)(q:LB) :
  ∀(t:List Int) (i:Nat) (l:List LB) (v:Nat),(zS m b.lane).drop i=t->i<=(zS m b.lane).length->l.length+t.length<=100 ->
   ∃v',v<=v'/\Y L Cs zU (some [89,88,87,7,12,4,6,1,2,11,3]) 7 (lyE m r b lo hi cap i) [bx 16 (zm m r len bar e),zba v 6 l,zbt 2,bx 6 (ze b),bxv w 6 (ze p),zbT q,rwB l] =
    some (.exit 0,(90,.w (Bo false))::lyE m r b lo hi cap (zS m b.lane).length,[bx 16 (zm m r len bar e),zba v' 6 (l++t.flatMap (zg3 m r bar e.slo b lo hi cap)),zbt 2,bx 6 (ze b),bxv w 6 (ze p),zbT q,rwB (l++t.flatMap (zg3 m r bar e.slo b lo hi cap))]):=by
 intro t;induction t with
 |nil =>
  intro i l v hd hi1 hl;obtain rfl:=zUb hd hi1;refine⟨v,jm _,?_⟩;rw[zqX];simp
 |cons x t ih =>
  intro i l v hd hi1 hl;obtain⟨hil,hx,hd'⟩:=zL hd;have hn2:=hs.nx b.lane;have hlen:=zcX h.qH hb;have hok:=zqa h.qH i hil;have hlf:=hs.leaf b.lane _ (jf hil);simp only[jl]at hl;obtain⟨v1,fp,hv1,hc⟩:=zu8 h len e (za6 b (zS m b.lane)[i]) hok hlf (lo-z8 m b.lane) (hi-z8 m b.lane) (by omega) (by omega) (zhq m r e.slo b.lane (zS m b.lane)[i] cap) l (by omega) v (bx 6 (ze b)) [bxv w 6 (ze p),zbT q,rwB l,bxv 3 6 (ze (za6 b (zS m b.lane)[i]))] 2 (by simp) (by simp);have e1:zbA m r bar (za6 b (zS m b.lane)[i]) (lo-z8 m b.lane) (hi-z8 m b.lane) (zhq m r e.slo b.lane (zS m b.lane)[i] cap)=zg3 m r bar e.slo b lo hi cap x:=by rw[<-hx];rfl
  have hst:=zqW h len e b hb lo hi (by omega) (by omega) cap 7 i hil (by omega) (zba v 6 l) [bxv w 6 (ze p),zbT q,rwB l] _ fp hc;rw[hst,e1];have:=znZ m r bar e.slo b lo hi cap x;obtain⟨v2,hv2,hY⟩:=ih (i+1) (l++zg3 m r bar e.slo b lo hi cap x) v1 hd' (by omega) (by simp;omega);refine⟨v2,by omega,?_⟩;simp only[List.set,Nat.reduceAdd,drop7];rw[hY];simp
theorem zyG{m:zD}{r:List Int}{bar:Int}(h:ziO m r bar)(hs:zmX m)(len:Int)(e:Ego)(b:zk)(hb:0<=b.lane/\b.lane<m.jb.length)(lo hi:Int)(hlo:-90000000<=lo/\lo<=90000000)(hhi:-90000000<=hi/\hi<=90000000)(cap:Bool)(p:zk)(w:Nat)(y:zk) :
  ∀(t:List Int) (i:Nat) (l:List LB) (v:Nat) (S:Mem),(zS m b.lane).drop i=t->i<=(zS m b.lane).length->l.length+t.length<=100 ->
   ∃v' S',v<=v'/\Y L Cs zU (some [89,88,87,7,12,4,6,1,2,11,3]) 5 (lyE m r b lo hi cap i) (bx 16 (zm m r len bar e)::zba v 6 l::zbt 2::bx 6 (ze b)::bxv w 6 (ze p)::bxv 3 6 (ze y)::rwB l::S) =
    some (.exit 0,(90,.w (Bo false))::lyE m r b lo hi cap (zS m b.lane).length,bx 16 (zm m r len bar e)::zba v' 6 (l++t.flatMap (zg3 m r bar e.slo b lo hi cap))::zbt 2::bx 6 (ze b)::bxv w 6 (ze p)::bxv 3 6 (ze y)::rwB (l++t.flatMap (zg3 m r bar e.slo b lo hi cap))::S')/\S'.length=S.length+t.length:=by
 intro t;induction t with
 |nil =>
  intro i l v S hd hi1 hl;obtain rfl:=zUb hd hi1;refine⟨v,S,jm _,?_⟩;rw[zqX];simp
 |cons x t ih =>
  intro i l v S hd hi1 hl;obtain⟨hil,hx,hd'⟩:=zL hd;have hn2:=hs.nx b.lane;have hlen:=zcX h.qH hb;have hok:=zqa h.qH i hil;have hlf:=hs.leaf b.lane _ (jf hil);simp only[jl]at hl;obtain⟨v1,fp,hv1,hc⟩:=zu8 h len e (za6 b (zS m b.lane)[i]) hok hlf (lo-z8 m b.lane) (hi-z8 m b.lane) (by omega) (by omega) (zhq m r e.slo b.lane (zS m b.lane)[i] cap) l (by omega) v (bx 6 (ze b)) (bxv w 6 (ze p)::bxv 3 6 (ze y)::rwB l::(S++[bxv 3 6 (ze (za6 b (zS m b.lane)[i]))])) 2 (by simp) (by simp);have e1:zbA m r bar (za6 b (zS m b.lane)[i]) (lo-z8 m b.lane) (hi-z8 m b.lane) (zhq m r e.slo b.lane (zS m b.lane)[i] cap)=zg3 m r bar e.slo b lo hi cap x:=by rw[<-hx];rfl
  have hst:=zqW h len e b hb lo hi (by omega) (by omega) cap 5 i hil (by omega) (zba v 6 l) (bxv w 6 (ze p)::bxv 3 6 (ze y)::rwB l::S) _ fp hc;rw[hst,e1];have:=znZ m r bar e.slo b lo hi cap x;obtain⟨v2,S',hv2,hY,hS'⟩:=ih (i+1) (l++zg3 m r bar e.slo b lo hi cap x) v1 (S++[bxv 3 6 (ze (za6 b (zS m b.lane)[i]))]) hd' (by omega) (by simp;omega);refine⟨v2,S',by omega,?_,by rw[hS'];simp;omega⟩;simp only[List.set,Nat.reduceAdd,CU];rw[hY];simp
theorem zyH{m:zD}{r:List Int}{bar:Int}(h:ziO m r bar)(hs:zmX m)(len:Int)(e:Ego)(b:zk)(hb:0<=b.lane/\b.lane<m.jb.length)(lo hi:Int)(hlo:-90000000<=lo/\lo<=90000000)(hhi:-90000000<=hi/\hi<=90000000)(cap:Bool)(p:zk)(w v:Nat) :
  ∀(t:List Int) (i:Nat),(zS m b.lane).drop i=t->i<=(zS m b.lane).length->t.length<=10 ->
   (t.flatMap (zg3 m r bar e.slo b lo hi cap)=[]/\Y L Cs zU (some [89,88,87,7,12,4,6,1,2,11,3]) 5 (lyE m r b lo hi cap i) [bx 16 (zm m r len bar e),bxv v 1 [.jd],zbt 2,bx 6 (ze b),bxv w 6 (ze p)] =
     some (.exit 0,(90,.w (Bo false))::lyE m r b lo hi cap (zS m b.lane).length,[bx 16 (zm m r len bar e),bxv v 1 [.jd],zbt 2,bx 6 (ze b),bxv w 6 (ze p)])) \/
   (t.flatMap (zg3 m r bar e.slo b lo hi cap)≠[]/\∃v' S' y,v<v'/\Y L Cs zU (some [89,88,87,7,12,4,6,1,2,11,3]) 5 (lyE m r b lo hi cap i) [bx 16 (zm m r len bar e),bxv v 1 [.jd],zbt 2,bx 6 (ze b),bxv w 6 (ze p)] =
     some (.exit 0,(90,.w (Bo false))::lyE m r b lo hi cap (zS m b.lane).length,bx 16 (zm m r len bar e)::zba v' 6 (t.flatMap (zg3 m r bar e.slo b lo hi cap))::zbt 2::bx 6 (ze b)::bxv w 6 (ze p)::bxv 3 6 (ze y)::rwB (t.flatMap (zg3 m r bar e.slo b lo hi cap))::S')/\S'.length<=t.length):=by
 intro t;induction t with
 |nil =>
  intro i hd hi1 hl;obtain rfl:=zUb hd hi1;refine .inl ⟨rfl,?_⟩;rw[zqX]
 |cons x t ih =>
  intro i hd hi1 hl;obtain⟨hil,hx,hd'⟩:=zL hd;have hn2:=hs.nx b.lane;have hlen:=zcX h.qH hb;have hok:=zqa h.qH i hil;have hlf:=hs.leaf b.lane _ (jf hil);simp only[jl]at hl;obtain⟨fp,hc⟩:=zyK h len e (za6 b (zS m b.lane)[i]) hok hlf (lo-z8 m b.lane) (hi-z8 m b.lane) (by omega) (by omega) (zhq m r e.slo b.lane (zS m b.lane)[i] cap) v (bx 6 (ze b)) (bxv w 6 (ze p)) (bxv 3 6 (ze (za6 b (zS m b.lane)[i])));have e1:zbA m r bar (za6 b (zS m b.lane)[i]) (lo-z8 m b.lane) (hi-z8 m b.lane) (zhq m r e.slo b.lane (zS m b.lane)[i] cap)=zg3 m r bar e.slo b lo hi cap x:=by rw[<-hx];rfl
  have hst:=zqW h len e b hb lo hi (by omega) (by omega) cap 5 i hil (by omega) (bxv v 1 [.jd]) [bxv w 6 (ze p)] _ fp hc;rw[hst,e1];have:=znZ m r bar e.slo b lo hi cap x;by_cases c:stays m r bar (za6 b (zS m b.lane)[i]) (lo-z8 m b.lane) (hi-z8 m b.lane) (zhq m r e.slo b.lane (zS m b.lane)[i] cap)=true
  ·have ne:zg3 m r bar e.slo b lo hi cap x≠[]:=by rw[<-e1,zbA,if_pos c];simp
   rw[if_pos c];obtain⟨v2,S',hv2,hY,hS'⟩:=zyG h hs len e b hb lo hi hlo hhi cap p w (za6 b (zS m b.lane)[i]) t (i+1) (zg3 m r bar e.slo b lo hi cap x) (v+1) [] hd' (by omega) (by omega);refine .inr ⟨by simp[ne],v2,S',za6 b (zS m b.lane)[i],by omega,?_,by rw[hS'];simp⟩;rw[CU,hY];simp
  ·have ee:zg3 m r bar e.slo b lo hi cap x=[]:=by rw[<-e1,zbA,if_neg c]
   rw[if_neg c,drop5];have:=ih (i+1) hd' (by omega) (by omega);rcases this with⟨h1,h2⟩ |⟨h1,v2,S',y,h4,h2,h3⟩
   ·exact .inl ⟨by simp[ee];simpa using h1,h2⟩
   ·exact .inr ⟨by simp[ee];simpa using h1,v2,S',y,h4,by rw[h2];simp[ee],by simp;omega⟩
def zlZ(m:zD)(r:List Int)(bar slo:Int)(b:zk)(lo hi:Int)(cap:Bool):List LB :=
 zbA m r bar b lo hi cap++(if hi<z8 m b.lane then [] else(zS m b.lane).flatMap (zg3 m r bar slo b lo hi cap))
theorem zBD{m:zD}{r:List Int}{bar:Int}(h:ziO m r bar)(hs:zmX m)(len:Int)(e:Ego)(b:zk)(hb:0<=b.lane/\b.lane<m.jb.length)(lo hi:Int)(hlo:-90000000<=lo/\lo<=90000000)(hhi:-90000000<=hi/\hi<=90000000)(cap:Bool) :
  ∃v',1<=v'/\R L Cs zcg [.a (ze b),W lo,W hi,Bo cap,Pt 0,Pt 1,Pt 2] [bx 16 (zm m r len bar e),bx 1 [.jd],zbt 2] =
   some (.t [],if zlZ m r bar e.slo b lo hi cap=[] then [bx 16 (zm m r len bar e),bx 1 [.jd],zbt 2] else [bx 16 (zm m r len bar e),zba v' 3 (zlZ m r bar e.slo b lo hi cap),zbt 2,rwB (zlZ m r bar e.slo b lo hi cap)]):=by
 obtain⟨n,hn0⟩:=jt hb.1;have hnl:n<m.jb.length:=by omega
 have hI:=zoq r b.lane (by have:=h.len;omega);have hlen:=zcX h.qH hb;have el:z8 m b.lane=m.jb[n].len:=by rw[hn0];simp[z8,hnl]
 have en:zS m b.lane=m.jb[n].next:=by rw[hn0];simp[zS,hnl]
 have eln:=el;rw[hn0]at eln;have en1:zS m (n:Int)=m.jb[n].next:=by rw[<-hn0];exact en
 have hn2:=hs.nx b.lane;have hYA:=fun p w c=>zyI h hs len e b hb lo hi hlo hhi cap p w (p,c) (zS m b.lane) 0 [(p,c)] 1 (by simp) (by simp) (by simp;omega)
 have hYB:=fun p w=>zyH h hs len e b hb lo hi hlo hhi cap p w 0 (zS m b.lane) 0 (by simp) (by simp) (by omega)
 rw[el]at hlen;unfold zlZ zbA stays zhO;cases hix:zgo r b.lane with
 |none =>
  have ur:=hix;rw[hn0]at ur;rw[hix]at hI;simp only[hn0,zbe]at hI;cases cap with
  |true =>
   have ec:zcV r b.lane true=false:=by simp[zcV,hix]
   have ecn:=ec;rw[hn0]at ecn;have et:zcj m r bar b.lane hi true=min hi m.jb[n].len:=by simp[zcj,hix,el]
   generalize hF:(zS m b.lane).flatMap (zg3 m r bar e.slo b lo hi true)=F at hYA hYB ⊢;rw[ec,et,el,zUa zam rfl];by_cases d1:lo<=m.jb[n].len
   ·by_cases d2:max 0 lo<=min hi m.jb[n].len
    ·by_cases d3:hi<m.jb[n].len
     ·refine⟨1,by omega,?_⟩;simp[za,zm,zh,zi,ze,zo,hn0,hnl,hI,d1,d2,d3,lbC,zg,zr,List.range,List.range.loop,zba,rwB]
     ·obtain⟨vA,hvA,hYA⟩:=hYA ⟨b.lane,max 0 lo,min hi m.jb[n].len,b.vlo,b.vhi,b.hold⟩ 3 false;simp[lyE,hn0,ur,ecn,eln,hnl,zm,zh,zi,ze,zbe,lbC,en1,zba,zbT,rwB]at hYA;refine⟨vA,by omega,?_⟩;simp[za,zm,zh,zi,ze,zo,hn0,hnl,hI,d1,d2,d3,hYA,lbC,zg,zr,List.range,List.range.loop,zba,rwB]
    ·by_cases d3:hi<m.jb[n].len
     ·refine⟨1,by omega,?_⟩;simp[za,zm,zh,zi,ze,zo,hn0,hnl,hI,d1,d2,d3,lbC,zg,zr,List.range,List.range.loop,zba,rwB]
     ·rcases hYB ⟨b.lane,max 0 lo,min hi m.jb[n].len,b.vlo,b.vhi,b.hold⟩ 3 with⟨hF0,hZ⟩ |⟨hF0,vB,S',y,hvB,hZ,hS⟩
      ·simp[lyE,hn0,ur,ecn,eln,hnl,zm,zh,zi,ze,zbe,lbC,en1,zba,zbT,rwB]at hZ;subst hF0;refine⟨1,by omega,?_⟩;simp[za,zm,zh,zi,ze,zo,hn0,hnl,hI,d1,d2,d3,hZ,lbC,zg,zr,List.range,List.range.loop,zba,rwB]
      ·simp[lyE,hn0,ur,ecn,eln,hnl,zm,zh,zi,ze,zbe,lbC,en1,zba,zbT,rwB]at hZ;refine⟨vB,by omega,?_⟩;rcases S' with _ |⟨s1,_ |⟨s2,_ |⟨s3,S'⟩⟩⟩
       ·simp[za,zm,zh,zi,ze,zo,hn0,hnl,hI,d1,d2,d3,hZ,hF0,lbC,zg,zr,List.range,List.range.loop,zba,rwB]
       ·simp[za,zm,zh,zi,ze,zo,hn0,hnl,hI,d1,d2,d3,hZ,hF0,lbC,zg,zr,List.range,List.range.loop,zba,rwB]
       ·simp[za,zm,zh,zi,ze,zo,hn0,hnl,hI,d1,d2,d3,hZ,hF0,lbC,zg,zr,List.range,List.range.loop,zba,rwB]
       ·simp at hS;omega
   ·by_cases d3:hi<m.jb[n].len
    ·refine⟨1,by omega,?_⟩;simp[za,zm,zh,zi,ze,zo,hn0,hnl,hI,d1,d3,lbC,zg,zr,List.range,List.range.loop,zba,rwB]
    ·rcases hYB ⟨b.lane,max 0 lo,min hi m.jb[n].len,b.vlo,b.vhi,b.hold⟩ 3 with⟨hF0,hZ⟩ |⟨hF0,vB,S',y,hvB,hZ,hS⟩
     ·simp[lyE,hn0,ur,ecn,eln,hnl,zm,zh,zi,ze,zbe,lbC,en1,zba,zbT,rwB]at hZ;subst hF0;refine⟨1,by omega,?_⟩;simp[za,zm,zh,zi,ze,zo,hn0,hnl,hI,d1,d3,hZ,lbC,zg,zr,List.range,List.range.loop,zba,rwB]
     ·simp[lyE,hn0,ur,ecn,eln,hnl,zm,zh,zi,ze,zbe,lbC,en1,zba,zbT,rwB]at hZ;refine⟨vB,by omega,?_⟩;rcases S' with _ |⟨s1,_ |⟨s2,_ |⟨s3,S'⟩⟩⟩
      ·simp[za,zm,zh,zi,ze,zo,hn0,hnl,hI,d1,d3,hZ,hF0,lbC,zg,zr,List.range,List.range.loop,zba,rwB]
      ·simp[za,zm,zh,zi,ze,zo,hn0,hnl,hI,d1,d3,hZ,hF0,lbC,zg,zr,List.range,List.range.loop,zba,rwB]
      ·simp[za,zm,zh,zi,ze,zo,hn0,hnl,hI,d1,d3,hZ,hF0,lbC,zg,zr,List.range,List.range.loop,zba,rwB]
      ·simp at hS;omega
  |false =>
   have ec:zcV r b.lane false=false:=by simp[zcV,hix]
   have ecn:=ec;rw[hn0]at ecn;have et:zcj m r bar b.lane hi false=min hi m.jb[n].len:=by simp[zcj,hix,el]
   generalize hF:(zS m b.lane).flatMap (zg3 m r bar e.slo b lo hi false)=F at hYA hYB ⊢;rw[ec,et,el,zUa zam rfl];by_cases d1:lo<=m.jb[n].len
   ·by_cases d2:max 0 lo<=min hi m.jb[n].len
    ·by_cases d3:hi<m.jb[n].len
     ·refine⟨1,by omega,?_⟩;simp[za,zm,zh,zi,ze,zo,hn0,hnl,hI,d1,d2,d3,lbC,zg,zr,List.range,List.range.loop,zba,rwB]
     ·obtain⟨vA,hvA,hYA⟩:=hYA ⟨b.lane,max 0 lo,min hi m.jb[n].len,b.vlo,b.vhi,b.hold⟩ 3 false;simp[lyE,hn0,ur,ecn,eln,hnl,zm,zh,zi,ze,zbe,lbC,en1,zba,zbT,rwB]at hYA;refine⟨vA,by omega,?_⟩;simp[za,zm,zh,zi,ze,zo,hn0,hnl,hI,d1,d2,d3,hYA,lbC,zg,zr,List.range,List.range.loop,zba,rwB]
    ·by_cases d3:hi<m.jb[n].len
     ·refine⟨1,by omega,?_⟩;simp[za,zm,zh,zi,ze,zo,hn0,hnl,hI,d1,d2,d3,lbC,zg,zr,List.range,List.range.loop,zba,rwB]
     ·rcases hYB ⟨b.lane,max 0 lo,min hi m.jb[n].len,b.vlo,b.vhi,b.hold⟩ 3 with⟨hF0,hZ⟩ |⟨hF0,vB,S',y,hvB,hZ,hS⟩
      ·simp[lyE,hn0,ur,ecn,eln,hnl,zm,zh,zi,ze,zbe,lbC,en1,zba,zbT,rwB]at hZ;subst hF0;refine⟨1,by omega,?_⟩;simp[za,zm,zh,zi,ze,zo,hn0,hnl,hI,d1,d2,d3,hZ,lbC,zg,zr,List.range,List.range.loop,zba,rwB]
      ·simp[lyE,hn0,ur,ecn,eln,hnl,zm,zh,zi,ze,zbe,lbC,en1,zba,zbT,rwB]at hZ;refine⟨vB,by omega,?_⟩;rcases S' with _ |⟨s1,_ |⟨s2,_ |⟨s3,S'⟩⟩⟩
       ·simp[za,zm,zh,zi,ze,zo,hn0,hnl,hI,d1,d2,d3,hZ,hF0,lbC,zg,zr,List.range,List.range.loop,zba,rwB]
       ·simp[za,zm,zh,zi,ze,zo,hn0,hnl,hI,d1,d2,d3,hZ,hF0,lbC,zg,zr,List.range,List.range.loop,zba,rwB]
       ·simp[za,zm,zh,zi,ze,zo,hn0,hnl,hI,d1,d2,d3,hZ,hF0,lbC,zg,zr,List.range,List.range.loop,zba,rwB]
       ·simp at hS;omega
   ·by_cases d3:hi<m.jb[n].len
    ·refine⟨1,by omega,?_⟩;simp[za,zm,zh,zi,ze,zo,hn0,hnl,hI,d1,d3,lbC,zg,zr,List.range,List.range.loop,zba,rwB]
    ·rcases hYB ⟨b.lane,max 0 lo,min hi m.jb[n].len,b.vlo,b.vhi,b.hold⟩ 3 with⟨hF0,hZ⟩ |⟨hF0,vB,S',y,hvB,hZ,hS⟩
     ·simp[lyE,hn0,ur,ecn,eln,hnl,zm,zh,zi,ze,zbe,lbC,en1,zba,zbT,rwB]at hZ;subst hF0;refine⟨1,by omega,?_⟩;simp[za,zm,zh,zi,ze,zo,hn0,hnl,hI,d1,d3,hZ,lbC,zg,zr,List.range,List.range.loop,zba,rwB]
     ·simp[lyE,hn0,ur,ecn,eln,hnl,zm,zh,zi,ze,zbe,lbC,en1,zba,zbT,rwB]at hZ;refine⟨vB,by omega,?_⟩;rcases S' with _ |⟨s1,_ |⟨s2,_ |⟨s3,S'⟩⟩⟩
      ·simp[za,zm,zh,zi,ze,zo,hn0,hnl,hI,d1,d3,hZ,hF0,lbC,zg,zr,List.range,List.range.loop,zba,rwB]
      ·simp[za,zm,zh,zi,ze,zo,hn0,hnl,hI,d1,d3,hZ,hF0,lbC,zg,zr,List.range,List.range.loop,zba,rwB]
      ·simp[za,zm,zh,zi,ze,zo,hn0,hnl,hI,d1,d3,hZ,hF0,lbC,zg,zr,List.range,List.range.loop,zba,rwB]
      ·simp at hS;omega
 |some i =>
  obtain⟨hil,_⟩:=zfT hix;have hsb:=zmA h hil;have Bt:=h.bar;have wS:=kg (bar-kS m r i);have hsl:i<(zW m 0 r).length:=by rw[zcO];exact hil
  have hsi:(zW m 0 r)[i]=kS m r i:=by simp[kS,hsl]
  have hi0:(0:Int)<=(i:Int):=by omega
  have ur:=hix;rw[hn0]at ur;rw[hix]at hI;simp only[hn0,zbe]at hI;cases cap with
  |true =>
   have ec:zcV r b.lane true=true:=by simp[zcV,hix]
   have ecn:=ec;rw[hn0]at ecn;have et:zcj m r bar b.lane hi true=min hi (min m.jb[n].len (bar-kS m r i)):=by simp[zcj,hix,el]
   generalize hF:(zS m b.lane).flatMap (zg3 m r bar e.slo b lo hi true)=F at hYA hYB ⊢;rw[ec,et,el,zUa zam rfl];by_cases d1:lo<=m.jb[n].len
   ·by_cases d2:max 0 lo<=min hi (min m.jb[n].len (bar-kS m r i))
    ·by_cases d3:hi<m.jb[n].len
     ·refine⟨1,by omega,?_⟩;simp[za,zm,zh,zi,ze,zo,hn0,hnl,hI,hil,hsl,hsi,wS,hi0,d1,d2,d3,lbC,zg,zr,List.range,List.range.loop,zba,rwB]
     ·obtain⟨vA,hvA,hYA⟩:=hYA ⟨b.lane,max 0 lo,min hi (min m.jb[n].len (bar-kS m r i)),b.vlo,b.vhi,b.hold⟩ 4 true;simp[lyE,hn0,ur,ecn,eln,hnl,zm,zh,zi,ze,zbe,lbC,en1,zba,zbT,rwB]at hYA;refine⟨vA,by omega,?_⟩;simp[za,zm,zh,zi,ze,zo,hn0,hnl,hI,hil,hsl,hsi,wS,hi0,d1,d2,d3,hYA,lbC,zg,zr,List.range,List.range.loop,zba,rwB]
    ·by_cases d3:hi<m.jb[n].len
     ·refine⟨1,by omega,?_⟩;simp[za,zm,zh,zi,ze,zo,hn0,hnl,hI,hil,hsl,hsi,wS,hi0,d1,d2,d3,lbC,zg,zr,List.range,List.range.loop,zba,rwB]
     ·rcases hYB ⟨b.lane,max 0 lo,min hi (min m.jb[n].len (bar-kS m r i)),b.vlo,b.vhi,b.hold⟩ 4 with⟨hF0,hZ⟩ |⟨hF0,vB,S',y,hvB,hZ,hS⟩
      ·simp[lyE,hn0,ur,ecn,eln,hnl,zm,zh,zi,ze,zbe,lbC,en1,zba,zbT,rwB]at hZ;subst hF0;refine⟨1,by omega,?_⟩;simp[za,zm,zh,zi,ze,zo,hn0,hnl,hI,hil,hsl,hsi,wS,hi0,d1,d2,d3,hZ,lbC,zg,zr,List.range,List.range.loop,zba,rwB]
      ·simp[lyE,hn0,ur,ecn,eln,hnl,zm,zh,zi,ze,zbe,lbC,en1,zba,zbT,rwB]at hZ;refine⟨vB,by omega,?_⟩;rcases S' with _ |⟨s1,_ |⟨s2,_ |⟨s3,S'⟩⟩⟩
       ·simp[za,zm,zh,zi,ze,zo,hn0,hnl,hI,hil,hsl,hsi,wS,hi0,d1,d2,d3,hZ,hF0,lbC,zg,zr,List.range,List.range.loop,zba,rwB]
       ·simp[za,zm,zh,zi,ze,zo,hn0,hnl,hI,hil,hsl,hsi,wS,hi0,d1,d2,d3,hZ,hF0,lbC,zg,zr,List.range,List.range.loop,zba,rwB]
       ·simp[za,zm,zh,zi,ze,zo,hn0,hnl,hI,hil,hsl,hsi,wS,hi0,d1,d2,d3,hZ,hF0,lbC,zg,zr,List.range,List.range.loop,zba,rwB]
       ·simp at hS;omega
   ·by_cases d3:hi<m.jb[n].len
    ·refine⟨1,by omega,?_⟩;simp[za,zm,zh,zi,ze,zo,hn0,hnl,hI,hil,hsl,hsi,wS,hi0,d1,d3,lbC,zg,zr,List.range,List.range.loop,zba,rwB]
    ·rcases hYB ⟨b.lane,max 0 lo,min hi (min m.jb[n].len (bar-kS m r i)),b.vlo,b.vhi,b.hold⟩ 4 with⟨hF0,hZ⟩ |⟨hF0,vB,S',y,hvB,hZ,hS⟩
     ·simp[lyE,hn0,ur,ecn,eln,hnl,zm,zh,zi,ze,zbe,lbC,en1,zba,zbT,rwB]at hZ;subst hF0;refine⟨1,by omega,?_⟩;simp[za,zm,zh,zi,ze,zo,hn0,hnl,hI,hil,hsl,hsi,wS,hi0,d1,d3,hZ,lbC,zg,zr,List.range,List.range.loop,zba,rwB]
     ·simp[lyE,hn0,ur,ecn,eln,hnl,zm,zh,zi,ze,zbe,lbC,en1,zba,zbT,rwB]at hZ;refine⟨vB,by omega,?_⟩;rcases S' with _ |⟨s1,_ |⟨s2,_ |⟨s3,S'⟩⟩⟩
      ·simp[za,zm,zh,zi,ze,zo,hn0,hnl,hI,hil,hsl,hsi,wS,hi0,d1,d3,hZ,hF0,lbC,zg,zr,List.range,List.range.loop,zba,rwB]
      ·simp[za,zm,zh,zi,ze,zo,hn0,hnl,hI,hil,hsl,hsi,wS,hi0,d1,d3,hZ,hF0,lbC,zg,zr,List.range,List.range.loop,zba,rwB]
      ·simp[za,zm,zh,zi,ze,zo,hn0,hnl,hI,hil,hsl,hsi,wS,hi0,d1,d3,hZ,hF0,lbC,zg,zr,List.range,List.range.loop,zba,rwB]
      ·simp at hS;omega
  |false =>
   have ec:zcV r b.lane false=false:=by simp[zcV,hix]
   have ecn:=ec;rw[hn0]at ecn;have et:zcj m r bar b.lane hi false=min hi m.jb[n].len:=by simp[zcj,hix,el]
   generalize hF:(zS m b.lane).flatMap (zg3 m r bar e.slo b lo hi false)=F at hYA hYB ⊢;rw[ec,et,el,zUa zam rfl];by_cases d1:lo<=m.jb[n].len
   ·by_cases d2:max 0 lo<=min hi m.jb[n].len
    ·by_cases d3:hi<m.jb[n].len
     ·refine⟨1,by omega,?_⟩;simp[za,zm,zh,zi,ze,zo,hn0,hnl,hI,hil,hsl,hsi,wS,hi0,d1,d2,d3,lbC,zg,zr,List.range,List.range.loop,zba,rwB]
     ·obtain⟨vA,hvA,hYA⟩:=hYA ⟨b.lane,max 0 lo,min hi m.jb[n].len,b.vlo,b.vhi,b.hold⟩ 3 false;simp[lyE,hn0,ur,ecn,eln,hnl,zm,zh,zi,ze,zbe,lbC,en1,zba,zbT,rwB]at hYA;refine⟨vA,by omega,?_⟩;simp[za,zm,zh,zi,ze,zo,hn0,hnl,hI,hil,hsl,hsi,wS,hi0,d1,d2,d3,hYA,lbC,zg,zr,List.range,List.range.loop,zba,rwB]
    ·by_cases d3:hi<m.jb[n].len
     ·refine⟨1,by omega,?_⟩;simp[za,zm,zh,zi,ze,zo,hn0,hnl,hI,hil,hsl,hsi,wS,hi0,d1,d2,d3,lbC,zg,zr,List.range,List.range.loop,zba,rwB]
     ·rcases hYB ⟨b.lane,max 0 lo,min hi m.jb[n].len,b.vlo,b.vhi,b.hold⟩ 3 with⟨hF0,hZ⟩ |⟨hF0,vB,S',y,hvB,hZ,hS⟩
      ·simp[lyE,hn0,ur,ecn,eln,hnl,zm,zh,zi,ze,zbe,lbC,en1,zba,zbT,rwB]at hZ;subst hF0;refine⟨1,by omega,?_⟩;simp[za,zm,zh,zi,ze,zo,hn0,hnl,hI,hil,hsl,hsi,wS,hi0,d1,d2,d3,hZ,lbC,zg,zr,List.range,List.range.loop,zba,rwB]
      ·simp[lyE,hn0,ur,ecn,eln,hnl,zm,zh,zi,ze,zbe,lbC,en1,zba,zbT,rwB]at hZ;refine⟨vB,by omega,?_⟩;rcases S' with _ |⟨s1,_ |⟨s2,_ |⟨s3,S'⟩⟩⟩
       ·simp[za,zm,zh,zi,ze,zo,hn0,hnl,hI,hil,hsl,hsi,wS,hi0,d1,d2,d3,hZ,hF0,lbC,zg,zr,List.range,List.range.loop,zba,rwB]
       ·simp[za,zm,zh,zi,ze,zo,hn0,hnl,hI,hil,hsl,hsi,wS,hi0,d1,d2,d3,hZ,hF0,lbC,zg,zr,List.range,List.range.loop,zba,rwB]
       ·simp[za,zm,zh,zi,ze,zo,hn0,hnl,hI,hil,hsl,hsi,wS,hi0,d1,d2,d3,hZ,hF0,lbC,zg,zr,List.range,List.range.loop,zba,rwB]
       ·simp at hS;omega
   ·by_cases d3:hi<m.jb[n].len
    ·refine⟨1,by omega,?_⟩;simp[za,zm,zh,zi,ze,zo,hn0,hnl,hI,hil,hsl,hsi,wS,hi0,d1,d3,lbC,zg,zr,List.range,List.range.loop,zba,rwB]
    ·rcases hYB ⟨b.lane,max 0 lo,min hi m.jb[n].len,b.vlo,b.vhi,b.hold⟩ 3 with⟨hF0,hZ⟩ |⟨hF0,vB,S',y,hvB,hZ,hS⟩
     ·simp[lyE,hn0,ur,ecn,eln,hnl,zm,zh,zi,ze,zbe,lbC,en1,zba,zbT,rwB]at hZ;subst hF0;refine⟨1,by omega,?_⟩;simp[za,zm,zh,zi,ze,zo,hn0,hnl,hI,hil,hsl,hsi,wS,hi0,d1,d3,hZ,lbC,zg,zr,List.range,List.range.loop,zba,rwB]
     ·simp[lyE,hn0,ur,ecn,eln,hnl,zm,zh,zi,ze,zbe,lbC,en1,zba,zbT,rwB]at hZ;refine⟨vB,by omega,?_⟩;rcases S' with _ |⟨s1,_ |⟨s2,_ |⟨s3,S'⟩⟩⟩
      ·simp[za,zm,zh,zi,ze,zo,hn0,hnl,hI,hil,hsl,hsi,wS,hi0,d1,d3,hZ,hF0,lbC,zg,zr,List.range,List.range.loop,zba,rwB]
      ·simp[za,zm,zh,zi,ze,zo,hn0,hnl,hI,hil,hsl,hsi,wS,hi0,d1,d3,hZ,hF0,lbC,zg,zr,List.range,List.range.loop,zba,rwB]
      ·simp[za,zm,zh,zi,ze,zo,hn0,hnl,hI,hil,hsl,hsi,wS,hi0,d1,d3,hZ,hF0,lbC,zg,zr,List.range,List.range.loop,zba,rwB]
      ·simp at hS;omega
theorem zCi{m:zD}{r:List Int}{bar:Int}(h:ziO m r bar)(hs:zmX m)(len:Int)(e:Ego)(b:zk)(hb:0<=b.lane/\b.lane<m.jb.length)(lo hi:Int)(hlo:-90000000<=lo/\lo<=90000000)(hhi:-90000000<=hi/\hi<=90000000)(cap:Bool) :
  R L Cs znw [.a (zm m r len bar e),.a (ze b),W lo,W hi,Bo cap] []=some (.w (.c (.jc (zdz (zlZ m r bar e.slo b lo hi cap)))),[]):=by
 obtain⟨v,hv,hf⟩:=zBD h hs len e b hb lo hi hlo hhi cap;have hv0:(v=0)=False:=eq_false (by omega);have hl16:(zm m r len bar e).length=16:=by simp[zm,zh,zi]
 generalize zlZ m r bar e.slo b lo hi cap=l at *;cases l with
 |nil =>
  simp[zm,zh,zi,ze]at hf;rw[zUa ziF rfl];simp[zeH,zm,zh,zi,ze,hf,zg,zr,List.range,List.range.loop]
 |cons x l =>
  simp[zm,zh,zi,ze,zba,rwB]at hf;rw[zUa ziF rfl];simp[zeH,zm,zh,zi,ze,hf,hv0,zg,zr,List.range,List.range.loop]
def zT(m:zD)(r:List Int)(bar:Int)(e:Ego):List Cl:=zf m++[.jc (zu r),.jc (zu (zW m 0 r)),I bar,I e.slo,I e.shi,I e.vlo,I e.vhi]
theorem zAs(m:zD)(r:List Int)(bar:Int)(e:Ego)(x:Int)(hl:r.length<=1000):∀(t:List Int) (i:Nat),r.drop i=t->i<=r.length ->
  (x∉t->Y L Cs zal (some [2,1,5]) 1 [(2,.w (Pt 0)),(1,.w (W x)),(5,.w (W i))] [bx 12 (zT m r bar e)]=some (.exit 0,[(10,.w (Bo false)),(1,.w (W x)),(2,.w (Pt 0)),(5,.w (W r.length))],[bx 12 (zT m r bar e)])) /\
  (∀j,t.findIdx? (fun y=>decide (y=x))=some j->Y L Cs zal (some [2,1,5]) 1 [(2,.w (Pt 0)),(1,.w (W x)),(5,.w (W i))] [bx 12 (zT m r bar e)]=some (.ret,[(4,.w (W ((i+j:Nat):Int)))],[bx 12 (zT m r bar e)])):=by
 intro t;induction t with
 |nil =>
  intro i hd hi;obtain rfl:=zUb hd hi;refine⟨fun _=>?_,fun j h=>by simp at h⟩;rw[zj zal.eq_1];simp[zT,zf]
 |cons y t ih =>
  intro i hd hi;obtain⟨hil,hx,hd'⟩:=zL hd;have hw:=zB (i:=i) (by omega);obtain⟨h1,h2⟩:=ih (i+1) hd' (by omega);by_cases c:y=x
  ·refine⟨fun h=>by simp[c]at h,fun j h=>?_⟩;simp only[qW,c,decide_true,if_true,je]at h;subst h;rw[zj zal.eq_1];simp[zT,zf,hil,hx,c]
  ·have c':¬x=y:=fun h=>c h.symm
   have hY:Y L Cs zal (some [2,1,5]) 1 [(2,.w (Pt 0)),(1,.w (W x)),(5,.w (W i))] [bx 12 (zT m r bar e)]=Y L Cs zal (some [2,1,5]) 1 [(2,.w (Pt 0)),(1,.w (W x)),(5,.w (W (i+1:Nat)))] [bx 12 (zT m r bar e)]:=by
    rw[zj zal.eq_1];simp[zT,zf,hil,hx,c,c',hw,qE c]
   rw[hY];refine⟨fun h=>h1 fun h'=>h (jq _ h'),fun j h=>?_⟩;simp only[qW,c,decide_false,jD,if_false,ja]at h;obtain⟨k,hk,rfl⟩:=h;have:=h2 k hk;rw[this];simp;omega
theorem zCk(m:zD)(r:List Int)(bar:Int)(e:Ego)(x:Int)(hl:r.length<=1000):R L Cs zfy [.a (zT m r bar e),W x] []=some (.w (W (zbe (zgo r x))),[]):=by
 obtain⟨h1,h2⟩:=zAs m r bar e x hl r 0 rfl (jx _);simp only[ji,jF,zT,zf,jk,jh]at h1 h2;unfold zgo;cases hf:r.findIdx? (fun y=>decide (y=x))with
 |none =>
  have hn:x∉r:=fun hm=>by
   have:=kG.1 hf x hm;simp at this
  have:=h1 hn;rw[zUa zfz rfl];simp[zcv,zT,zf,this,zbe]
 |some j =>
  have:=h2 j hf;rw[zUa zfz rfl];simp[zcv,zT,zf,this,zbe]
def zd2(m:zD)(r:List Int)(bar top slo:Int)(b:zk)(lo hi:Int)(cap:Bool)(x:Int):List LB :=
 if zbi r b.lane x=true then zbA m r top (za6 b x) (lo-z8 m b.lane) (hi-z8 m b.lane) cap
 else if zb2 m r slo b.lane x=true then zbA m r bar (za6 b x) (lo-z8 m b.lane) (hi-z8 m b.lane) true
 else zbA m r 0 (za6 b x) (lo-z8 m b.lane) (hi-z8 m b.lane) false
theorem zeO(m:zD)(r:List Int)(bar:Int)(b:zk)(lo hi:Int)(cap:Bool):(zbA m r bar b lo hi cap).length<=1:=by
 unfold zbA;split<;>simp
theorem zuV(m:zD)(r:List Int)(bar yZ:Int)(b:zk)(lo hi:Int):zbA m r bar b lo hi false=zbA m r yZ b lo hi false:=by
 have:zcj m r bar b.lane hi false=zcj m r yZ b.lane hi false:=by
  unfold zcj;split<;>simp
 simp[zbA,stays,zhO,this]
theorem zzF(m:zD)(r:List Int)(bar slo:Int)(b:zk)(lo hi:Int)(cap:Bool)(x:Int):zd2 m r bar bar slo b lo hi cap x=zg3 m r bar slo b lo hi cap x:=by
 unfold zd2 zg3 zhq;by_cases f:zbi r b.lane x=true
 ·have hm:zb2 m r slo b.lane x=false:=by
   unfold zb2;cases zgo r x<;>simp[f]
  have hc:zcV r b.lane cap=cap:=by
   unfold zbi at f;cases hL:zgo r b.lane with
   |none=>simp[hL]at f
   |some i=>simp[zcV,hL]
  rw[if_pos f,f,hm,hc];simp
 ·rw[if_neg f];have f':zbi r b.lane x=false:=by simpa using f
  rw[f'];by_cases g:zb2 m r slo b.lane x=true
  ·rw[if_pos g,g];simp
  ·have g':zb2 m r slo b.lane x=false:=by simpa using g
   rw[if_neg g,g'];simp only[Bool.false_and,qS];exact zuV ..
abbrev rlE(m:zD)(r:List Int)(b:zk)(lo hi:Int)(cap:Bool)(top:Int)(l:List LB)(i:Nat):Env:=[(13,.w (.c (.slice 3 l.length 7 0 l.length none))),(18,.w (W i)),(7,.w (Pt 1)),(17,.w (.c (.jc (zu (zS m b.lane))))),(15,.w (W (zbe (zgo r b.lane)))),(6,.w (Pt 0)),(2,.w (W lo)),(3,.w (W hi)),(14,.w (W (z8 m b.lane))),(4,.w (Bo cap)),(5,.w (W top))]
abbrev AR(m:zD)(r:List Int)(bar:Int)(e:Ego)(b:zk)(x lo hi:Int)(cap:Bool)(top:Int):Prop :=
 R L Cs zbD [.a (zT m r bar e),.a (ze (za6 b x)),W lo,W hi,Bo cap,W top] []=some (.w (.c (.jc (zdz (zbA m r top (za6 b x) lo hi cap)))),[])
theorem zzG(m:zD)(r:List Int)(bar:Int)(e:Ego)(x:Int)(hl:r.length<=1000)(M:Mem):zx (R L Cs) ⟨true⟩ (.c (.fn zfy [] [])) [.a (zT m r bar e),W x] M=some (.w (W (zbe (zgo r x))),M,.no):=by
 have h:=zCk m r bar e x hl;simp only[zT,zf,jk,jh]at h ⊢;simp[h]
theorem zqz{m:zD}{r:List Int}{bar:Int}{e:Ego}{b:zk}{x lo hi:Int}{cap:Bool}{top:Int}(h:AR m r bar e b x lo hi cap top)(M:Mem):zx (R L Cs) ⟨true⟩ (.c (.fn zbD [] [])) [.a (zT m r bar e),.a (ze (za6 b x)),W lo,W hi,Bo cap,W top] M=some (.w (.c (.jc (zdz (zbA m r top (za6 b x) lo hi cap)))),M,.no):=by
 simp only[AR,zT,zf,ze,za6,jk,jh]at h ⊢;simp[h]
theorem zBk{m:zD}{r:List Int}{bar:Int}(h:ziO m r bar)(e:Ego)(b:zk)(hb:0<=b.lane/\b.lane<m.jb.length)(lo hi:Int)(hlo:-100000000<=lo/\lo<=100000000)(hhi:-100000000<=hi/\hi<=100000000)(cap:Bool)(top:Int)(i:Nat)(hi1:i<(zS m b.lane).length)(hi2:i<1000)(l:List LB)(hl:l.length<=1000)(p:zk)(w:Nat)(T:Mem)(hT:T=[]\/∃q,T=[zbT q])
  (qM:∀c t,(t=top\/t=bar\/t=0)->AR m r bar e b (zS m b.lane)[i] (lo-z8 m b.lane) (hi-z8 m b.lane) c t) :
  Y L Cs zax (some [13,18,7,17,15,6,2,3,14,4,5]) (5+T.length) (rlE m r b lo hi cap top l i) (bx 12 (zT m r bar e)::bx 6 (ze b)::some (own 7 [])::some (own 7 (zdz l))::bxv w 6 (ze p)::T) =
    Y L Cs zax (some [13,18,7,17,15,6,2,3,14,4,5]) (5+T.length) (rlE m r b lo hi cap top (l++zd2 m r bar top e.slo b lo hi cap (zS m b.lane)[i]) (i+1)) (bx 12 (zT m r bar e)::bx 6 (ze b)::some (own 7 [])::some (own 7 (zdz (l++zd2 m r bar top e.slo b lo hi cap (zS m b.lane)[i])))::bxv w 6 (ze p)::T):=by
 have hlen:=zcX h.qH hb;have hw:=zB (i:=i) (by omega);have hI:=zzG m r bar e (zS m b.lane)[i] (by have:=h.len;omega);have w1:=kg (lo-z8 m b.lane);have w2:=kg (hi-z8 m b.lane);have hc1:=zqz (qM cap top (.inl rfl));have hc2:=zqz (qM true bar (.inr (.inl rfl)));have hc3:=zqz (qM false 0 (.inr (.inr rfl)));rw[zj zax.eq_1];generalize hx:(zS m b.lane)[i]=x at *;simp only[zT,zf,ze,za6,jk,jh]at hI hc1 hc2 hc3 ⊢;have key:∀(z:List LB),z.length<=1->z=[]\/∃y,z=[y]:=by
  intro z hz
  match z,hz with
  |[],_=>exact .inl rfl
  |[y],_=>exact .inr ⟨y,rfl⟩
 have hrm:(l.length+1)*56<=140737488355328:=by omega
 have B0:l.length*56<=140737488355328:=by omega
 cases hL:zgo r b.lane with
 |none =>
  have hf:zbi r b.lane x=false:=by simp[zbi,hL]
  cases hX:zgo r x with
  |none =>
   rw[hX]at hI;simp only[zbe]at hI;have hm:zb2 m r e.slo b.lane x=false:=by simp[zb2,hX]
   have hr:zd2 m r bar top e.slo b lo hi cap x=zbA m r 0 (za6 b x) (lo-z8 m b.lane) (hi-z8 m b.lane) false:=by simp[zd2,hf,hm]
   simp only[za6]at hr;rw[hr];rcases key _ (zeO m r 0 (za6 b x) (lo-z8 m b.lane) (hi-z8 m b.lane) false)with hz |⟨z,hz⟩<;>simp only[za6]at hz<;>rw[hz]at hc3 ⊢<;>simp only[zgf,zfd]at hc3<;>rcases hT with rfl |⟨q,rfl⟩ <;>simp[rlE,hi1,hx,hw,w1,w2,hI,zbe,zg,hc3,hL,hrm,B0,lbC,-zx]
  |some j =>
   obtain⟨hjl,_⟩:=zfT hX;have hsl:j<(zW m 0 r).length:=by rw[zcO];exact hjl
   have hsi:(zW m 0 r)[j]=kS m r j:=by simp[kS,hsl]
   rw[hX]at hI;simp only[zbe]at hI;by_cases d:kS m r j<=e.slo
   ·have hm:zb2 m r e.slo b.lane x=true:=by simp[zb2,zbi,hL,hX,d]
    have hr:zd2 m r bar top e.slo b lo hi cap x=zbA m r bar (za6 b x) (lo-z8 m b.lane) (hi-z8 m b.lane) true:=by simp[zd2,hf,hm]
    simp only[za6]at hr;rw[hr];rcases key _ (zeO m r bar (za6 b x) (lo-z8 m b.lane) (hi-z8 m b.lane) true)with hz |⟨z,hz⟩<;>simp only[za6]at hz<;>rw[hz]at hc2 ⊢<;>simp only[zgf,zfd]at hc2<;>rcases hT with rfl |⟨q,rfl⟩ <;>simp[rlE,hi1,hx,hw,w1,w2,hI,zbe,zg,hc2,hL,hrm,B0,lbC,hjl,hsl,hsi,d,-zx]
   ·have hm:zb2 m r e.slo b.lane x=false:=by simp[zb2,zbi,hL,hX,d]
    have hr:zd2 m r bar top e.slo b lo hi cap x=zbA m r 0 (za6 b x) (lo-z8 m b.lane) (hi-z8 m b.lane) false:=by simp[zd2,hf,hm]
    simp only[za6]at hr;rw[hr];rcases key _ (zeO m r 0 (za6 b x) (lo-z8 m b.lane) (hi-z8 m b.lane) false)with hz |⟨z,hz⟩<;>simp only[za6]at hz<;>rw[hz]at hc3 ⊢<;>simp only[zgf,zfd]at hc3<;>rcases hT with rfl |⟨q,rfl⟩ <;>simp[rlE,hi1,hx,hw,w1,w2,hI,zbe,zg,hc3,hL,hrm,B0,lbC,hjl,hsl,hsi,d,-zx]
 |some q =>
  obtain⟨hql,_⟩:=zfT hL;have hq8:=h.len;have hwq:IntKind.i64.wrap ((q:Int)+1)=((q+1:Nat):Int):=zB (by omega);cases hX:zgo r x with
  |none =>
   rw[hX]at hI;simp only[zbe]at hI;have hne:((-1:Int)==((q:Int)+1))=false:=by simp;omega
   have hf:zbi r b.lane x=false:=by simp[zbi,hL,hX]
   have hm:zb2 m r e.slo b.lane x=false:=by simp[zb2,hX]
   have hr:zd2 m r bar top e.slo b lo hi cap x=zbA m r 0 (za6 b x) (lo-z8 m b.lane) (hi-z8 m b.lane) false:=by simp[zd2,hf,hm]
   simp only[za6]at hr;rw[hr];rcases key _ (zeO m r 0 (za6 b x) (lo-z8 m b.lane) (hi-z8 m b.lane) false)with hz |⟨z,hz⟩<;>simp only[za6]at hz<;>rw[hz]at hc3 ⊢<;>simp only[zgf,zfd]at hc3<;>rcases hT with rfl |⟨q,rfl⟩ <;>simp[rlE,hi1,hx,hw,w1,w2,hI,zbe,zg,hc3,hL,hrm,B0,lbC,hwq,hne,-zx]
  |some j =>
   obtain⟨hjl,_⟩:=zfT hX;have hsl:j<(zW m 0 r).length:=by rw[zcO];exact hjl
   have hsi:(zW m 0 r)[j]=kS m r j:=by simp[kS,hsl]
   rw[hX]at hI;simp only[zbe]at hI;by_cases f:j=q+1
   ·subst f;have hq0:(0:Int)<=(q:Int)+1:=by omega
    have hf:zbi r b.lane x=true:=by simp[zbi,hL,hX]
    have hr:zd2 m r bar top e.slo b lo hi cap x=zbA m r top (za6 b x) (lo-z8 m b.lane) (hi-z8 m b.lane) cap:=by simp[zd2,hf]
    simp only[za6]at hr;rw[hr];rcases key _ (zeO m r top (za6 b x) (lo-z8 m b.lane) (hi-z8 m b.lane) cap)with hz |⟨z,hz⟩<;>simp only[za6]at hz<;>rw[hz]at hc1 ⊢<;>simp only[zgf,zfd]at hc1<;>rcases hT with rfl |⟨q,rfl⟩ <;>simp[rlE,hi1,hx,hw,w1,w2,hI,zbe,zg,hc1,hL,hrm,B0,lbC,hwq,hq0,-zx]
   ·have hne:((j:Int)==((q:Int)+1))=false:=by simp;omega
    have hf:zbi r b.lane x=false:=by simp[zbi,hL,hX,f]
    by_cases d:kS m r j<=e.slo
    ·have hm:zb2 m r e.slo b.lane x=true:=by simp[zb2,zbi,hL,hX,d,f]
     have hr:zd2 m r bar top e.slo b lo hi cap x=zbA m r bar (za6 b x) (lo-z8 m b.lane) (hi-z8 m b.lane) true:=by simp[zd2,hf,hm]
     simp only[za6]at hr;rw[hr];rcases key _ (zeO m r bar (za6 b x) (lo-z8 m b.lane) (hi-z8 m b.lane) true)with hz |⟨z,hz⟩<;>simp only[za6]at hz<;>rw[hz]at hc2 ⊢<;>simp only[zgf,zfd]at hc2<;>rcases hT with rfl |⟨q,rfl⟩ <;>simp[rlE,hi1,hx,hw,w1,w2,hI,zbe,zg,hc2,hL,hrm,B0,lbC,hwq,hne,f,hjl,hsl,hsi,d,-zx]
    ·have hm:zb2 m r e.slo b.lane x=false:=by simp[zb2,zbi,hL,hX,d,f]
     have hr:zd2 m r bar top e.slo b lo hi cap x=zbA m r 0 (za6 b x) (lo-z8 m b.lane) (hi-z8 m b.lane) false:=by simp[zd2,hf,hm]
     simp only[za6]at hr;rw[hr];rcases key _ (zeO m r 0 (za6 b x) (lo-z8 m b.lane) (hi-z8 m b.lane) false)with hz |⟨z,hz⟩<;>simp only[za6]at hz<;>rw[hz]at hc3 ⊢<;>simp only[zgf,zfd]at hc3<;>rcases hT with rfl |⟨q,rfl⟩ <;>simp[rlE,hi1,hx,hw,w1,w2,hI,zbe,zg,hc3,hL,hrm,B0,lbC,hwq,hne,f,hjl,hsl,hsi,d,-zx]
theorem zBm(m:zD)(r:List Int)(b:zk)(lo hi:Int)(cap:Bool)(top:Int)(l:List LB)(n0:Nat)(A:Option Blk)(M:Mem):Y L Cs zax (some [13,18,7,17,15,6,2,3,14,4,5]) n0 (rlE m r b lo hi cap top l (zS m b.lane).length) (A::bx 6 (ze b)::M)=some (.exit 0,(89,.w (Bo false))::rlE m r b lo hi cap top l (zS m b.lane).length,A::bx 6 (ze b)::M):=by
 rw[zj zax.eq_1];simp
theorem zBl{m:zD}{r:List Int}{bar:Int}(h:ziO m r bar)(e:Ego)(b:zk)(hb:0<=b.lane/\b.lane<m.jb.length)(lo hi:Int)(hlo:-100000000<=lo/\lo<=100000000)(hhi:-100000000<=hi/\hi<=100000000)(cap:Bool)(top:Int)(p:zk)(w:Nat)(T:Mem)(hT:T=[]\/∃q,T=[zbT q])
  (qM:∀x∈zS m b.lane,∀c t,(t=top\/t=bar\/t=0)->AR m r bar e b x (lo-z8 m b.lane) (hi-z8 m b.lane) c t) (hn:(zS m b.lane).length<=100) :
  ∀(t:List Int) (i:Nat) (l:List LB),(zS m b.lane).drop i=t->i<=(zS m b.lane).length->l.length+t.length<=200 ->
  Y L Cs zax (some [13,18,7,17,15,6,2,3,14,4,5]) (5+T.length) (rlE m r b lo hi cap top l i) (bx 12 (zT m r bar e)::bx 6 (ze b)::some (own 7 [])::some (own 7 (zdz l))::bxv w 6 (ze p)::T) =
    some (.exit 0,(89,.w (Bo false))::rlE m r b lo hi cap top (l++t.flatMap (zd2 m r bar top e.slo b lo hi cap)) (zS m b.lane).length,bx 12 (zT m r bar e)::bx 6 (ze b)::some (own 7 [])::some (own 7 (zdz (l++t.flatMap (zd2 m r bar top e.slo b lo hi cap))))::bxv w 6 (ze p)::T):=by
 intro t;induction t with
 |nil =>
  intro i l hd hi1 hl;obtain rfl:=zUb hd hi1;rw[zBm];simp
 |cons x t ih =>
  intro i l hd hi1 hl;obtain⟨hil,hx,hd'⟩:=zL hd;simp only[jl]at hl;have hz:(zd2 m r bar top e.slo b lo hi cap x).length<=1:=by
   unfold zd2;split
   ·exact zeO ..
   ·split<;>exact zeO ..
  rw[zBk h e b hb lo hi hlo hhi cap top i hil (by omega) l (by omega) p w T hT (qM _ (jf hil)),hx,ih (i+1) _ hd' (by omega) (by simp;omega)];simp
theorem zrN{m:zD}{r:List Int}{bar:Int}(h:ziO m r bar)(e:Ego)(b:zk)(hb:0<=b.lane/\b.lane<m.jb.length)(lo hi:Int)(hlo:-100000000<=lo/\lo<=100000000)(hhi:-100000000<=hi/\hi<=100000000)(cap:Bool)(top:Int)(htop:-4000000000000<=top/\top<=4000000000000)
  (qM:∀x∈zS m b.lane,∀c t,(t=top\/t=bar\/t=0)->AR m r bar e b x (lo-z8 m b.lane) (hi-z8 m b.lane) c t) (hn:(zS m b.lane).length<=100) :
  R L Cs zbD [.a (zT m r bar e),.a (ze b),W lo,W hi,Bo cap,W top] [] =
    some (.w (.c (.jc (zdz (zbA m r top b lo hi cap++(if hi<z8 m b.lane then [] else(zS m b.lane).flatMap (zd2 m r bar top e.slo b lo hi cap)))))),[]):=by
 have hYl:=fun(l:List LB) (hl:l.length<=1) p w T hT=>zBl h e b hb lo hi hlo hhi cap top p w T hT qM hn (zS m b.lane) 0 l (by simp) (by simp) (by omega)
 obtain⟨n,hn0⟩:=jt hb.1;have hnl:n<m.jb.length:=by omega
 have hI:=zzG m r bar e b.lane (by have:=h.len;omega);have hLg:∀M,zx (R L Cs) ⟨true⟩ (.c (.fn zgX [] [])) [.a (zf m),W (n:Int)] M=some (.w (W m.jb[n].len),M,.no):=by
  intro M;have h1:=zA3 h.qH hnl;simp only[zf]at h1 ⊢;simp[h1]
 have hlen:=zcX h.qH hb;have el:z8 m b.lane=m.jb[n].len:=by rw[hn0];simp[z8,hnl]
 have eln:=el;rw[hn0]at eln;have en:zS m b.lane=m.jb[n].next:=by rw[hn0];simp[zS,hnl]
 have en1:zS m (n:Int)=m.jb[n].next:=by rw[<-hn0];exact en
 simp only[zT,zf,jk,jh]at hI hLg;rw[el]at hlen;unfold zbA stays zhO;cases hix:zgo r b.lane with
 |none =>
  have ur:=hix;rw[hn0]at ur;rw[hix]at hI;simp only[hn0,zbe]at hI;cases cap with
  |true =>
   have ec:zcV r b.lane true=false:=by simp[zcV,hix]
   have ecn:=ec;rw[hn0]at ecn;have et:zcj m r top b.lane hi true=min hi m.jb[n].len:=by simp[zcj,hix,el]
   generalize hF:(zS m b.lane).flatMap (zd2 m r bar top e.slo b lo hi true)=F at hYl ⊢;rw[ec,et,el,zUa zcr rfl];by_cases d1:lo<=m.jb[n].len
   ·by_cases d2:max 0 lo<=min hi m.jb[n].len
    ·by_cases d3:hi<m.jb[n].len
     ·simp[zp,zT,zf,ze,zo,hn0,hnl,hI,hLg,d1,d2,d3,lbC,zg,List.range,List.range.loop,-zx]
     ·have hZ:=hYl [(⟨b.lane,max 0 lo,min hi m.jb[n].len,b.vlo,b.vhi,b.hold⟩,false)] (by simp) ⟨b.lane,max 0 lo,min hi m.jb[n].len,b.vlo,b.vhi,b.hold⟩ 3 [zbT (⟨b.lane,max 0 lo,min hi m.jb[n].len,b.vlo,b.vhi,b.hold⟩,false)] (.inr ⟨_,rfl⟩);simp[rlE,hn0,ur,ecn,eln,hnl,zT,zf,ze,zbe,lbC,en1,zbT]at hZ;simp[zp,zT,zf,ze,zo,hn0,hnl,hI,hLg,d1,d2,d3,hZ,lbC,zg,List.range,List.range.loop,-zx]
    ·by_cases d3:hi<m.jb[n].len
     ·simp[zp,zT,zf,ze,zo,hn0,hnl,hI,hLg,d1,d2,d3,lbC,zg,List.range,List.range.loop,-zx]
     ·have hZ:=hYl [] (by simp) ⟨b.lane,max 0 lo,min hi m.jb[n].len,b.vlo,b.vhi,b.hold⟩ 3 [] (.inl rfl);simp[rlE,hn0,ur,ecn,eln,hnl,zT,zf,ze,zbe,lbC,en1,zbT]at hZ;simp[zp,zT,zf,ze,zo,hn0,hnl,hI,hLg,d1,d2,d3,hZ,lbC,zg,List.range,List.range.loop,-zx]
   ·by_cases d3:hi<m.jb[n].len
    ·simp[zp,zT,zf,ze,zo,hn0,hnl,hI,hLg,d1,d3,lbC,zg,List.range,List.range.loop,-zx]
    ·have hZ:=hYl [] (by simp) ⟨b.lane,max 0 lo,min hi m.jb[n].len,b.vlo,b.vhi,b.hold⟩ 3 [] (.inl rfl);simp[rlE,hn0,ur,ecn,eln,hnl,zT,zf,ze,zbe,lbC,en1,zbT]at hZ;simp[zp,zT,zf,ze,zo,hn0,hnl,hI,hLg,d1,d3,hZ,lbC,zg,List.range,List.range.loop,-zx]
  |false =>
   have ec:zcV r b.lane false=false:=by simp[zcV,hix]
   have ecn:=ec;rw[hn0]at ecn;have et:zcj m r top b.lane hi false=min hi m.jb[n].len:=by simp[zcj,hix,el]
   generalize hF:(zS m b.lane).flatMap (zd2 m r bar top e.slo b lo hi false)=F at hYl ⊢;rw[ec,et,el,zUa zcr rfl];by_cases d1:lo<=m.jb[n].len
   ·by_cases d2:max 0 lo<=min hi m.jb[n].len
    ·by_cases d3:hi<m.jb[n].len
     ·simp[zp,zT,zf,ze,zo,hn0,hnl,hI,hLg,d1,d2,d3,lbC,zg,List.range,List.range.loop,-zx]
     ·have hZ:=hYl [(⟨b.lane,max 0 lo,min hi m.jb[n].len,b.vlo,b.vhi,b.hold⟩,false)] (by simp) ⟨b.lane,max 0 lo,min hi m.jb[n].len,b.vlo,b.vhi,b.hold⟩ 3 [zbT (⟨b.lane,max 0 lo,min hi m.jb[n].len,b.vlo,b.vhi,b.hold⟩,false)] (.inr ⟨_,rfl⟩);simp[rlE,hn0,ur,ecn,eln,hnl,zT,zf,ze,zbe,lbC,en1,zbT]at hZ;simp[zp,zT,zf,ze,zo,hn0,hnl,hI,hLg,d1,d2,d3,hZ,lbC,zg,List.range,List.range.loop,-zx]
    ·by_cases d3:hi<m.jb[n].len
     ·simp[zp,zT,zf,ze,zo,hn0,hnl,hI,hLg,d1,d2,d3,lbC,zg,List.range,List.range.loop,-zx]
     ·have hZ:=hYl [] (by simp) ⟨b.lane,max 0 lo,min hi m.jb[n].len,b.vlo,b.vhi,b.hold⟩ 3 [] (.inl rfl);simp[rlE,hn0,ur,ecn,eln,hnl,zT,zf,ze,zbe,lbC,en1,zbT]at hZ;simp[zp,zT,zf,ze,zo,hn0,hnl,hI,hLg,d1,d2,d3,hZ,lbC,zg,List.range,List.range.loop,-zx]
   ·by_cases d3:hi<m.jb[n].len
    ·simp[zp,zT,zf,ze,zo,hn0,hnl,hI,hLg,d1,d3,lbC,zg,List.range,List.range.loop,-zx]
    ·have hZ:=hYl [] (by simp) ⟨b.lane,max 0 lo,min hi m.jb[n].len,b.vlo,b.vhi,b.hold⟩ 3 [] (.inl rfl);simp[rlE,hn0,ur,ecn,eln,hnl,zT,zf,ze,zbe,lbC,en1,zbT]at hZ;simp[zp,zT,zf,ze,zo,hn0,hnl,hI,hLg,d1,d3,hZ,lbC,zg,List.range,List.range.loop,-zx]
 |some i =>
  obtain⟨hil,_⟩:=zfT hix;have hsb:=zmA h hil;have wS:=kg (top-kS m r i);have hsl:i<(zW m 0 r).length:=by rw[zcO];exact hil
  have hsi:(zW m 0 r)[i]=kS m r i:=by simp[kS,hsl]
  have hi0:(0:Int)<=(i:Int):=by omega
  have ur:=hix;rw[hn0]at ur;rw[hix]at hI;simp only[hn0,zbe]at hI;cases cap with
  |true =>
   have ec:zcV r b.lane true=true:=by simp[zcV,hix]
   have ecn:=ec;rw[hn0]at ecn;have et:zcj m r top b.lane hi true=min hi (min m.jb[n].len (top-kS m r i)):=by simp[zcj,hix,el]
   generalize hF:(zS m b.lane).flatMap (zd2 m r bar top e.slo b lo hi true)=F at hYl ⊢;rw[ec,et,el,zUa zcr rfl];by_cases d1:lo<=m.jb[n].len
   ·by_cases d2:max 0 lo<=min hi (min m.jb[n].len (top-kS m r i))
    ·by_cases d3:hi<m.jb[n].len
     ·simp[zp,zT,zf,ze,zo,hn0,hnl,hI,hLg,hil,hsl,hsi,wS,hi0,d1,d2,d3,lbC,zg,List.range,List.range.loop,-zx]
     ·have hZ:=hYl [(⟨b.lane,max 0 lo,min hi (min m.jb[n].len (top-kS m r i)),b.vlo,b.vhi,b.hold⟩,true)] (by simp) ⟨b.lane,max 0 lo,min hi (min m.jb[n].len (top-kS m r i)),b.vlo,b.vhi,b.hold⟩ 4 [zbT (⟨b.lane,max 0 lo,min hi (min m.jb[n].len (top-kS m r i)),b.vlo,b.vhi,b.hold⟩,true)] (.inr ⟨_,rfl⟩);simp[rlE,hn0,ur,ecn,eln,hnl,zT,zf,ze,zbe,lbC,en1,zbT]at hZ;simp[zp,zT,zf,ze,zo,hn0,hnl,hI,hLg,hil,hsl,hsi,wS,hi0,d1,d2,d3,hZ,lbC,zg,List.range,List.range.loop,-zx]
    ·by_cases d3:hi<m.jb[n].len
     ·simp[zp,zT,zf,ze,zo,hn0,hnl,hI,hLg,hil,hsl,hsi,wS,hi0,d1,d2,d3,lbC,zg,List.range,List.range.loop,-zx]
     ·have hZ:=hYl [] (by simp) ⟨b.lane,max 0 lo,min hi (min m.jb[n].len (top-kS m r i)),b.vlo,b.vhi,b.hold⟩ 4 [] (.inl rfl);simp[rlE,hn0,ur,ecn,eln,hnl,zT,zf,ze,zbe,lbC,en1,zbT]at hZ;simp[zp,zT,zf,ze,zo,hn0,hnl,hI,hLg,hil,hsl,hsi,wS,hi0,d1,d2,d3,hZ,lbC,zg,List.range,List.range.loop,-zx]
   ·by_cases d3:hi<m.jb[n].len
    ·simp[zp,zT,zf,ze,zo,hn0,hnl,hI,hLg,hil,hsl,hsi,wS,hi0,d1,d3,lbC,zg,List.range,List.range.loop,-zx]
    ·have hZ:=hYl [] (by simp) ⟨b.lane,max 0 lo,min hi (min m.jb[n].len (top-kS m r i)),b.vlo,b.vhi,b.hold⟩ 4 [] (.inl rfl);simp[rlE,hn0,ur,ecn,eln,hnl,zT,zf,ze,zbe,lbC,en1,zbT]at hZ;simp[zp,zT,zf,ze,zo,hn0,hnl,hI,hLg,hil,hsl,hsi,wS,hi0,d1,d3,hZ,lbC,zg,List.range,List.range.loop,-zx]
  |false =>
   have ec:zcV r b.lane false=false:=by simp[zcV,hix]
   have ecn:=ec;rw[hn0]at ecn;have et:zcj m r top b.lane hi false=min hi m.jb[n].len:=by simp[zcj,hix,el]
   generalize hF:(zS m b.lane).flatMap (zd2 m r bar top e.slo b lo hi false)=F at hYl ⊢;rw[ec,et,el,zUa zcr rfl];by_cases d1:lo<=m.jb[n].len
   ·by_cases d2:max 0 lo<=min hi m.jb[n].len
    ·by_cases d3:hi<m.jb[n].len
     ·simp[zp,zT,zf,ze,zo,hn0,hnl,hI,hLg,hil,hsl,hsi,wS,hi0,d1,d2,d3,lbC,zg,List.range,List.range.loop,-zx]
     ·have hZ:=hYl [(⟨b.lane,max 0 lo,min hi m.jb[n].len,b.vlo,b.vhi,b.hold⟩,false)] (by simp) ⟨b.lane,max 0 lo,min hi m.jb[n].len,b.vlo,b.vhi,b.hold⟩ 3 [zbT (⟨b.lane,max 0 lo,min hi m.jb[n].len,b.vlo,b.vhi,b.hold⟩,false)] (.inr ⟨_,rfl⟩);simp[rlE,hn0,ur,ecn,eln,hnl,zT,zf,ze,zbe,lbC,en1,zbT]at hZ;simp[zp,zT,zf,ze,zo,hn0,hnl,hI,hLg,hil,hsl,hsi,wS,hi0,d1,d2,d3,hZ,lbC,zg,List.range,List.range.loop,-zx]
    ·by_cases d3:hi<m.jb[n].len
     ·simp[zp,zT,zf,ze,zo,hn0,hnl,hI,hLg,hil,hsl,hsi,wS,hi0,d1,d2,d3,lbC,zg,List.range,List.range.loop,-zx]
     ·have hZ:=hYl [] (by simp) ⟨b.lane,max 0 lo,min hi m.jb[n].len,b.vlo,b.vhi,b.hold⟩ 3 [] (.inl rfl);simp[rlE,hn0,ur,ecn,eln,hnl,zT,zf,ze,zbe,lbC,en1,zbT]at hZ;simp[zp,zT,zf,ze,zo,hn0,hnl,hI,hLg,hil,hsl,hsi,wS,hi0,d1,d2,d3,hZ,lbC,zg,List.range,List.range.loop,-zx]
   ·by_cases d3:hi<m.jb[n].len
    ·simp[zp,zT,zf,ze,zo,hn0,hnl,hI,hLg,hil,hsl,hsi,wS,hi0,d1,d3,lbC,zg,List.range,List.range.loop,-zx]
    ·have hZ:=hYl [] (by simp) ⟨b.lane,max 0 lo,min hi m.jb[n].len,b.vlo,b.vhi,b.hold⟩ 3 [] (.inl rfl);simp[rlE,hn0,ur,ecn,eln,hnl,zT,zf,ze,zbe,lbC,en1,zbT]at hZ;simp[zp,zT,zf,ze,zo,hn0,hnl,hI,hLg,hil,hsl,hsi,wS,hi0,d1,d3,hZ,lbC,zg,List.range,List.range.loop,-zx]
theorem zvO{m:zD}{r:List Int}{bar:Int}(h:ziO m r bar)(e:Ego)(b:zk)(hb:0<=b.lane/\b.lane<m.jb.length)(hn:zS m b.lane=[])(lo hi:Int)(hlo:-100000000<=lo/\lo<=100000000)(hhi:-100000000<=hi/\hi<=100000000)(cap:Bool)(top:Int)(htop:-4000000000000<=top/\top<=4000000000000) :
  R L Cs zbD [.a (zT m r bar e),.a (ze b),W lo,W hi,Bo cap,W top] []=some (.w (.c (.jc (zdz (zbA m r top b lo hi cap)))),[]):=by
 rw[zrN h e b hb lo hi hlo hhi cap top htop (by simp[hn]) (by simp[hn]),hn];simp
theorem zxw{m:zD}(h:zcp m){a x:Int}(hx:x∈zS m a):0<=x/\x<m.jb.length:=by
 obtain⟨i,hi,rfl⟩:=qr hx;exact zqa h i hi
theorem zAR{m:zD}{r:List Int}{bar:Int}(h:ziO m r bar)(hs:zmX m)(e:Ego)(b:zk)(hb:0<=b.lane/\b.lane<m.jb.length)(lo hi:Int)(hlo:-90000000<=lo/\lo<=90000000)(hhi:-90000000<=hi/\hi<=90000000)(cap:Bool) :
  R L Cs zbD [.a (zT m r bar e),.a (ze b),W lo,W hi,Bo cap,W bar] []=some (.w (.c (.jc (zdz (zlZ m r bar e.slo b lo hi cap)))),[]):=by
 have hlen:=zcX h.qH hb;have Bt:=h.bar;rw[zrN h e b hb lo hi (by omega) (by omega) cap bar h.bar (fun x hx c t ht=>zvO h e (za6 b x) (zxw h.qH hx) (hs.leaf b.lane x hx) _ _ (by omega) (by omega) c t (by rcases ht with rfl |rfl |rfl<;>omega)) (by have:=hs.nx b.lane;omega)];have:(zS m b.lane).flatMap (zd2 m r bar bar e.slo b lo hi cap)=(zS m b.lane).flatMap (zg3 m r bar e.slo b lo hi cap):=by
  congr 1
  funext x;exact zzF ..
 rw[this];rfl
theorem zjI{m:zD}(hs:zmX m)(r:List Int)(bar slo:Int)(b:zk)(lo hi:Int)(cap:Bool):(zlZ m r bar slo b lo hi cap).length<=3:=by
 have h1:=zeO m r bar b lo hi cap;have h2:=hs.nx b.lane;have h3:∀l:List Int,(l.flatMap (zg3 m r bar slo b lo hi cap)).length<=l.length:=by
  intro l;induction l with
  |nil=>simp
  |cons x l ih =>
   have:=znZ m r bar slo b lo hi cap x;simp only[jP,jv,jl];omega
 have h4:=h3 (zS m b.lane);unfold zlZ;split
 ·simp;omega
 ·rw[jv];omega
structure zA6(m:zD)(b x:zk):Prop where
 on:0<=x.lane/\x.lane<m.jb.length
 lo:0<=x.lo
 le:x.lo<=x.hi
 hi:x.hi<=z8 m x.lane
 vlo:x.vlo=b.vlo
 vhi:x.vhi=b.vhi
 hold:(x.lane=b.lane/\x.hold=b.hold)\/x.hold=0
theorem zzl(m:zD)(r:List Int)(bar lane hi:Int)(cap:Bool):zcj m r bar lane hi cap<=z8 m lane:=by
 unfold zcj;split
 ·split<;>omega
 ·omega
theorem zuU{m:zD}(r:List Int)(bar:Int)(b:zk)(hb:0<=b.lane/\b.lane<m.jb.length)(lo hi:Int)(cap:Bool):∀z∈zbA m r bar b lo hi cap,zA6 m b z.1:=by
 intro z hz;unfold zbA at hz;split at hz
 case isTrue c =>
  simp only[jz]at hz;subst hz;simp only[stays,jg,decide_eq_true_eq]at c;have:=zzl m r bar b.lane hi cap;exact⟨hb,by simp only[zhO];omega,c.2,this,rfl,rfl,.inl ⟨rfl,rfl⟩⟩
 case isFalse c=>simp at hz
theorem zBF{m:zD}(h:zcp m)(r:List Int)(bar slo:Int)(b:zk)(hb:0<=b.lane/\b.lane<m.jb.length)(lo hi:Int)(cap:Bool):∀z∈zlZ m r bar slo b lo hi cap,zA6 m b z.1:=by
 intro z hz;unfold zlZ at hz;rcases jw.1 hz with hz|hz
 ·exact zuU r bar b hb lo hi cap z hz
 ·split at hz
  case isTrue=>simp at hz
  case isFalse =>
   obtain⟨x,hx,hz⟩:=ks.1 hz;have:=zuU r bar (za6 b x) (zxw h hx) _ _ _ z hz;exact⟨this.on,this.lo,this.le,this.hi,this.vlo,this.vhi,.inr (by rcases this.hold with⟨_,h⟩ |h<;>exact h)⟩
def zDT(m:zD)(n:Int):List Int :=
 if zbK m 0 m.jb=[] then [] else
 (zbK m 0 m.jb).getD ((n % 1048576).toNat % (zbK m 0 m.jb).length) 0::goR m 7 ((zbK m 0 m.jb).getD ((n % 1048576).toNat % (zbK m 0 m.jb).length) 0) ((n % 1048576).toNat / (zbK m 0 m.jb).length)
theorem zEm(m:zD)(n:Int):(zDT m n).length<=8:=by
 unfold zDT;split
 ·simp
 ·rw[jl];have:=zEZ m 7 ((zbK m 0 m.jb).getD ((n % 1048576).toNat % (zbK m 0 m.jb).length) 0) ((n % 1048576).toNat / (zbK m 0 m.jb).length);omega
theorem zFk{m:zD}(h:zcp m):∀(f:Nat) (a:Int) (n:Nat),0<=a/\a<m.jb.length->zj2 m (goR m f a n)
 |0,_,_,_=>by intro x hx;cases hx
 |f+1,a,n,ha=>by
  obtain⟨j,rfl⟩:=jt ha.1;have hj:j<m.jb.length:=by omega
  have en:zS m (j:Int)=m.jb[j].next:=by simp[zS,hj]
  unfold goR;rw[en];split
  ·intro x hx;cases hx
  ·rename_i c;have hm:n % m.jb[j].next.length<m.jb[j].next.length:=qJ _ (by omega);have eg:m.jb[j].next.getD (n % m.jb[j].next.length) 0=m.jb[j].next[n % m.jb[j].next.length]:=by simp[jp,hm]
   have hval:=h.small.valid _ (jf hj) _ (jf hm);rw[eg];intro x hx;rcases jy.1 hx with rfl|hx
   ·exact hval
   ·exact zFk h f _ _ hval x hx
theorem zFf{m:zD}(hne:zbK m 0 m.jb≠[])(N:Nat):0<=(zbK m 0 m.jb).getD (N % (zbK m 0 m.jb).length) 0/\(zbK m 0 m.jb).getD (N % (zbK m 0 m.jb).length) 0<m.jb.length:=by
 have h0:0<(zbK m 0 m.jb).length:=kD.2 hne;have hm:N % (zbK m 0 m.jb).length<(zbK m 0 m.jb).length:=qJ _ h0;have eg:(zbK m 0 m.jb).getD (N % (zbK m 0 m.jb).length) 0=(zbK m 0 m.jb)[N % (zbK m 0 m.jb).length]:=by simp[jp,hm]
 rw[eg];exact zp8 m m.jb 0 (by omega) _ (jf hm)
theorem zEy{m:zD}(h:zcp m)(n:Int):zj2 m (zDT m n):=by
 unfold zDT;split
 ·intro x hx;cases hx
 ·rename_i hne;have hs:=zFf hne (n % 1048576).toNat;intro x hx;rcases jy.1 hx with rfl|hx
  ·exact hs
  ·exact zFk h _ _ _ hs x hx
theorem zE3{m:zD}(h:zcp m)(n:Int):R L Cs zEb [.a (zf m),W n] []=some (.w (.c (.jc (zu (zDT m n)))),[]):=by
 have ho:=zzc h;have hm:=zEW n 1048576 (by omega) (by omega);have hr:=zDJ n 1048576 (by omega);have hlen:=zlK m m.jb 0;have hsm:=h.small.jb;unfold zDT;rw[zUa zEf rfl];by_cases c:zbK m 0 m.jb=[]
 ·rw[c]at ho;simp only[zf,zay]at ho ⊢;simp[zDO,ho,c,zg]
 ·have hs:=zFf c (n % 1048576).toNat;rw[if_neg c];generalize n % 1048576=N at *;obtain⟨N,rfl⟩:=jt hr.1;generalize zbK m 0 m.jb=l at *;have h0:0<l.length:=kD.2 c;have hml:N % l.length<l.length:=qJ _ h0;have hq:N / l.length<=N:=Nat.div_le_self _ _;simp only[Int.toNat_natCast]at *;have eg:l.getD (N % l.length) 0=l[N % l.length]:=by simp[jp,hml]
  rw[eg]at hs ⊢;obtain⟨b,t,hy⟩:=zEL h 7 l[N % l.length] (N / l.length) [l[N % l.length]] rfl hs.1 hs.2 (by omega);have e1:(N:Int).tmod (l.length:Int)=((N % l.length:Nat):Int):=by
   rw[ky (by omega)];rfl
  have e2:(N:Int).tdiv (l.length:Int)=((N / l.length:Nat):Int):=by
   rw[kq (by omega)];rfl
  have e3:IntKind.i64.wrap ((N / l.length:Nat):Int)=((N / l.length:Nat):Int):=zv4 (by omega);have hz:((l.length:Int)==0)=false:=beq_false_of_ne (by omega);have hz':(l.length:Int)≠0:=by omega
  generalize hq2:N / l.length=q at *;generalize hm2:N % l.length=p at *;simp only[zf,sl,own,zaP,zay,zfq,jl,ju]at ho hy ⊢;simp[zDO,ho,hm,c,hz,hz',e1,e2,e3,hml,hy,zg]
theorem zER{m:zD}(h:zcp m)(l:List Int)(hl:l.length<=1000):R L Cs zDU [.a (zf m),.c (.jc (zu l))] []=some (.w (W (if zdA m l=0 then zmd m 0 l else 0)),[]):=by
 by_cases c:zdA m l=0
 ·rw[if_pos c];exact zEp h c
 ·have hck:=zp0 m h.small h.Bv l hl;rw[if_neg c];simp only[zf]at hck;have c0':(zdA m l==0)=false:=by simp[c]
  rw[zUa zDV rfl];simp[zDG,zf,hck,c,c0']
def zEo(len s v spread:Int):Ego:=⟨max 0 (s % (len+1)-(spread % 2000) / 2),min len (s % (len+1)+spread % 2000-(spread % 2000) / 2),max 0 (v % 2001-(spread % 2000) / 40),min 2000 (v % 2001+(spread % 2000) / 50)⟩
theorem zFy(len s v spread:Int)(h1:0<=len)(h2:len<=100000000):R L Cs zEc [W len,W s,W v,W spread] []=some (.w (.a (zch (zEo len s v spread))),[]):=by
 have g1:=zD0 s (len+1) (by omega) (by omega);have g2:=zD0 v 2001 (by omega) (by omega);have g3:=zD0 spread 2000 (by omega) (by omega);have r1:=zDJ s (len+1) (by omega);have r2:=zDJ v 2001 (by omega);have r3:=zDJ spread 2000 (by omega);have w0:=kg (len+1);unfold zEo;generalize s % (len+1)=s at *;generalize v % 2001=v at *;generalize spread % 2000=p at *;have d1:p.tdiv 2=p / 2:=kq r3.1;have d2:p.tdiv 40=p / 40:=kq r3.1;have d3:p.tdiv 50=p / 50:=kq r3.1;have q1:=kg (p / 2);have q2:=kg (p / 40);have q3:=kg (p / 50);have w1:=kg (s-p / 2);have w2:=kg (s+p);have w3:=kg (s+p-p / 2);have w4:=kg (v-p / 40);have w5:=kg (v+p / 50);rw[zUa zEg rfl];simp[zDX,g1,g2,g3,w0,w1,w2,w3,w4,w5,d1,d2,d3,q1,q2,q3,zg]
theorem zE6{m:zD}(h:zcp m)(n:Int):∀(f i:Nat),i+f=4 ->
  (Y L Cs zDD (some [1,2,5]) 2 [(1,.w (W n)),(2,.w (Pt 0)),(5,.w (W i))] [bx 5 (zf m),gb 1] =
   some (.exit 0,[(8,.w (Bo false)),(2,.w (Pt 0)),(1,.w (W n)),(5,.w (W 4))],[bx 5 (zf m),gb 1])) \/
  (∃k,zaK m ((zDT m k).headD 0)=1/\Y L Cs zDD (some [1,2,5]) 2 [(1,.w (W n)),(2,.w (Pt 0)),(5,.w (W i))] [bx 5 (zf m),gb 1] =
   some (.ret,[(4,.w (.c (.jc (zu (zDT m k)))))],[bx 5 (zf m),gb 1])):=by
 intro f;induction f with
 |zero =>
  intro i hi;obtain rfl:i=4:=by omega
  left;rw[zj zDD.eq_1];simp
 |succ f ih =>
  intro i hi;have hi4:(i:Int)<4:=by omega
  have hw:=zB (i:=i) (by omega);have hm:=zEW n 1048576 (by omega) (by omega);have hr:=zDJ n 1048576 (by omega);have hw2:=kg (n % 1048576+i);have hR:=zE3 h (n % 1048576+i);have hon:=zEy h (n % 1048576+i);rw[zj zDD.eq_1];have ih':=ih (i+1) (by omega);have hk:∀q,q=zDT m (n % 1048576+i)->∃k,q=zDT m k:=fun q hq=>⟨_,hq⟩
  generalize hq:zDT m (n % 1048576+i)=q at *;cases q with
  |nil =>
   rcases ih' with ih' |⟨k,hkd,ih'⟩
   ·left;rw[<-ih'];simp only[zf,zay]at hR ⊢;simp[hi4,hw,hm,hw2,hR]
   ·right;refine⟨k,hkd,?_⟩;rw[<-ih'];simp only[zf,zay]at hR ⊢;simp[hi4,hw,hm,hw2,hR]
  |cons x r =>
   have hx:=hon x (by simp);obtain⟨j,rfl⟩:=jt hx.1;have hj:j<m.jb.length:=by omega
   by_cases c:m.jb[j].kind=1
   ·right;refine⟨n % 1048576+i,by rw[hq];simp[zaK,hj,c],?_⟩;rw[hq];simp only[zf,zaP]at hR ⊢;simp[hi4,hw,hm,hw2,hR,hj,zo,c]
   ·have cb:(m.jb[j].kind==1)=false:=by simp[c]
    rcases ih' with ih' |⟨k,hkd,ih'⟩
    ·left;rw[<-ih'];simp only[zf,zaP]at hR ⊢;simp[hi4,hw,hm,hw2,hR,hj,zo,c,cb]
    ·right;refine⟨k,hkd,?_⟩;rw[<-ih'];simp only[zf,zaP]at hR ⊢;simp[hi4,hw,hm,hw2,hR,hj,zo,c,cb]
theorem zT8{m:zD}(h:zcp m)(n:Int):∃k,(k=0\/zaK m ((zDT m k).headD 0)=1)/\R L Cs zD3 [.a (zf m),W n] []=some (.w (.c (.jc (zu (zDT m k)))),[]):=by
 rw[zUa zD5 rfl];rcases zE6 h n 4 0 rfl with hl |⟨k,hkd,hl⟩
 ·refine⟨0,.inl rfl,?_⟩;have hR:=zE3 h 0;simp only[zf,ji]at hl hR ⊢;simp[zDK,hl,hR]
 ·refine⟨k,.inr hkd,?_⟩;simp only[zf,ji]at hl ⊢;simp[zDK,hl]
theorem zES{m:zD}(h:zcp m)(n:Int):∃k,R L Cs zD3 [.a (zf m),W n] []=some (.w (.c (.jc (zu (zDT m k)))),[]):=by
 obtain⟨k,_,h⟩:=zT8 h n;exact⟨k,h⟩
def zDS(l:List Bit):List (List Cl):=l.map zEx
@[simp] theorem zFB(l:List Bit):(zDS l).length=l.length:=by simp[zDS]
@[simp] theorem zFc{l:List Bit}{i:Nat}(h:i<(zDS l).length):(zDS l)[i]=zEx (l[i]'(by simpa using h)):=by simp[zDS]
@[simp] theorem zFF(b:Bit):(zEx b).length=6:=rfl
theorem zEU{m:zD}(h:zcp m)(hne:0<m.jb.length)(l:List Bit)(hl:l.length<=100)(hh:∀x∈l,zk0 x.hold)(spread v s tick:Int)(q:List (List Cl)):∀(r:List Bit) (i:Nat) (out:List zk),l.drop i=r->i<=l.length->out.length=i ->
  Y L Cs zDL (some [15,16,14,6,5,4,1,3,2,7]) 3 [(15,.w (.c (sl 2 6 (zI out)))),(16,.w (W i)),(14,.w (Pt 1)),(6,.w (W spread)),(5,.w (W v)),(4,.w (W s)),(1,.w (.c (.jc q))),(3,.w (W tick)),(2,.w (.c (.jc (zDS l)))),(7,.w (Pt 0))] [bx 5 (zf m),bx 6 zFA,some (own 6 (zI out))] =
    some (.exit 0,[(20,.w (Bo false)),(15,.w (.c (sl 2 6 (zI (out++r.map (zDN m)))))),(16,.w (W l.length)),(14,.w (Pt 1)),(6,.w (W spread)),(5,.w (W v)),(4,.w (W s)),(1,.w (.c (.jc q))),(3,.w (W tick)),(2,.w (.c (.jc (zDS l)))),(7,.w (Pt 0))],[bx 5 (zf m),bx 6 zFA,some (own 6 (zI (out++r.map (zDN m))))]):=by
 intro r;induction r with
 |nil =>
  intro i out hd hi ho;obtain rfl:=zUb hd hi;rw[zj zDL.eq_1];simp
 |cons x r ih =>
  intro i out hd hi ho;subst ho;obtain⟨hil,hx,hd'⟩:=zL hd;have hw:=zB (i:=out.length) (by omega);have hb:=zEq h hne x (hh x (by rw[<-hx];exact jf _));have jV:(out.length+1)*48<=140737488355328:=by omega
  rw[kX,show out++zDN m x::r.map (zDN m)=(out++[zDN m x])++r.map (zDN m) by simp,<-ih (out.length+1) (out++[zDN m x]) hd' hil (by simp),zj zDL.eq_1];clear ih;generalize zDN m x=b at *;simp only[zf,zEx,ze]at hb;simp[hil,hx,zEx,ze,zf,hb,hw,jV,zg,zH]
def zD1(m:zD)(q:List Int)(l:List Bit)(tick s v spread:Int):zci :=
 ⟨tick % 1000,zcz (l.map (zDN m)),zEo (if zdA m q=0 then zmd m 0 q else 0) s v spread⟩
theorem zFz{m:zD}(h:zcp m)(hne:0<m.jb.length)(q:List Int)(hq:q.length<=8)(l:List Bit)(hl:l.length<=100)(hh:∀x∈l,zk0 x.hold)(tick s v spread:Int) :
  R L Cs zEe [.a (zf m),.c (.jc (zu q)),.c (.jc (zDS l)),W tick,W s,W v,W spread] []=some (.w (.a (zG (zD1 m q l tick s v spread))),[]):=by
 have h1:=zEU h hne l hl hh spread v s tick (zu q) l 0 [] rfl (jx _) rfl;have h2:=zD0 tick 1000 (by omega) (by omega);have yn:∀x∈l.map (zDN m),OKB x:=by
  intro x hx;obtain⟨y,_,rfl⟩:=kc.1 hx;have f:=zEA h hne y;have g:=zcX h f.lane;have:=f.lo;have:=f.le;have:=f.hi;exact⟨by omega,by omega,by omega,by omega⟩
 have h3:=zy7 (l.map (zDN m)) (by simp;omega) yn;have h4:=zER h q (by omega);have hL:0<=(if zdA m q=0 then zmd m 0 q else 0)/\(if zdA m q=0 then zmd m 0 q else 0)<=100000000:=by
  split
  ·rename_i c;obtain⟨hon,_,_⟩:=zg1 h c;have:=zEC h q 0 hon (by omega);omega
  ·omega
 have h5:=zFy (if zdA m q=0 then zmd m 0 q else 0) s v spread hL.1 hL.2;have htk:List.take l.length (l.map (zDN m))=l.map (zDN m):=jU (by simp);unfold zD1;generalize (if zdA m q=0 then zmd m 0 q else 0)=n at *;generalize zEo n s v spread=e at *;simp only[zf,ji,jh,zic,sl,own,ju,zgg,zG,zch,qt]at h1 h3 h4 h5 ⊢;rw[zUa zEi rfl];simp[zDY,h1,h2,h3,h4,h5,zg,htk,zX]
def Ord(a b:zk):Prop:=a.lane<b.lane\/a.lane=b.lane/\a.lo<=b.lo
theorem not_lt{x s:zk}(h:ltB x s=false):Ord s x:=by
 unfold ltB at h;unfold Ord;simp at h;omega
theorem zqr(k key:Nat)(l:List (List Int)):(ziS k key l).Perm l:=by
 obtain⟨⟨h1,h2,h3⟩,_⟩:=znh k key l;unfold ziS;generalize Go.Sort.pdq (ltZ k key) l.toArray 0 l.length (zsn l.length) true true=d at *;have e1:d.size=l.length:=by simpa using h1
 have e2:d.extract 0 l.length=d:=by rw[<-e1];simp
 have e3:l.toArray.extract 0 l.length=l.toArray:=by simp
 rw[e2,e3]at h3;simpa using h3
theorem ztv(k key:Nat)(l:List (List Int)):(ziS k key l).Pairwise fun x y=>ltZ k key y x=false:=by
 obtain⟨⟨h1,h2,h3⟩,h4⟩:=znh k key l;unfold ziS;generalize Go.Sort.pdq (ltZ k key) l.toArray 0 l.length (zsn l.length) true true=d at *;have e1:d.size=l.length:=by simpa using h1
 rw[qx];intro i j hi hj hij;have hj':j<d.size:=by simpa using hj
 have hi':i<d.size:=by simpa using hi
 have:=h4 i j (jx _) hij (by omega);rw[getElem!_pos d i hi',getElem!_pos d j hj']at this;simpa using this
structure Swp where
 lane:Int
 lo:Int
 hi:Int
 cap:Bool
 deriving DecidableEq
abbrev zpa:Swp:=⟨0,0,0,false⟩
def swC(s:Swp):List Cl:=[I s.lane,I s.lo,I s.hi,.bool s.cap]
def zbf(l:List Swp):List (List Cl):=l.map swC
@[simp] theorem zmB(l:List Swp):(zbf l).length=l.length:=by simp[zbf]
@[simp] theorem zoB:zbf []=[]:=rfl
@[simp] theorem zCn(x:Swp)(l:List Swp):zbf (x::l)=swC x::zbf l:=rfl
@[simp] theorem zsU(l k:List Swp):zbf (l++k)=zbf l++zbf k:=by simp[zbf]
@[simp] theorem zBa{l:List Swp}{i:Nat}(h:i<(zbf l).length):(zbf l)[i]=swC (l[i]'(by simpa using h)):=by simp[zbf]
@[simp] theorem zwp(l:List Swp)(k:Nat):(zbf l).take k=zbf (l.take k):=by simp[zbf,yB]
@[simp] theorem zCm(l:List Swp)(k:Nat):(zbf l).drop k=zbf (l.drop k):=by simp[zbf,List.map_drop]
def zji(s:Swp):List Int:=[s.lane,s.lo,s.hi,if s.cap then 1 else 0]
theorem zAe{a b:Swp}(h:zji a=zji b):a=b:=by
 cases a with |mk a1 a2 a3 a4=>cases b with |mk b1 b2 b3 b4 =>
 simp[zji]at h;obtain⟨rfl,rfl,rfl,h⟩:=h;cases a4<;>cases b4<;>simp at h<;>rfl
def ltS(a b:Swp):Bool:=zhX (zji a) (zji b)
theorem ztZ(a:Swp):ltS a a=false:=zqV _
theorem zoL{a b c:Swp}(h1:ltS a b=true)(h2:ltS b c=true):ltS a c=true:=zkz h1 h2
theorem zoM{a b:Swp}(h1:ltS a b=false)(h2:ltS b a=false):a=b:=zAe (znq h1 h2)
theorem zz2(a b:Swp):ltS a b=(decide (a.lane<b.lane)||(decide (a.lane=b.lane)&&(decide (a.lo<b.lo)||(decide (a.lo=b.lo)&&(decide (a.hi<b.hi)||(decide (a.hi=b.hi)&&(!a.cap&&b.cap))))))):=by
 unfold ltS zji;cases a.cap<;>cases b.cap<;>simp[zhX]
def zik(l:List Int):Swp:=⟨l.getD 0 0,l.getD 1 0,l.getD 2 0,l.getD 3 0 !=0⟩
theorem zkt(s:Swp):zik (zji s)=s:=by
 cases s with |mk a b c d=>cases d<;>rfl
def zlg(l:List Swp):List Swp:=(ziS 4 7 (l.map zji)).map zik
theorem zsK(l:List Swp):(zlg l).Perm l:=by
 have:=(zqr 4 7 (l.map zji)).map zik;have e:List.map zik (List.map zji l)=l:=by rw[List.map_map];simp[Function.comp_def,zkt]
 rwa [e]at this
theorem zhh(l:List Swp):(zlg l).length=l.length:=(zsK l).length_eq
theorem zoH{k key:Nat}{l:List (List Int)}{x:List Int}(h:x∈ziS k key l):x∈l:=(zqr k key l).mem_iff.1 h
theorem zyr(s:Swp):zsY 4 7 (zji s)=zji s:=by
 unfold zji zsY;cases s.cap<;>simp[List.range,List.range.loop,zgk]
theorem zuK(l:List Swp):(zlg l).Pairwise fun x y=>ltS y x=false:=by
 unfold zlg;rw[List.pairwise_map];refine List.Pairwise.imp_of_mem ?_ (ztv 4 7 (l.map zji));intro a b ha hb h;obtain⟨x,_,rfl⟩:=kc.1 (zoH ha);obtain⟨y,_,rfl⟩:=kc.1 (zoH hb);rw[zkt,zkt];simpa [ltZ,zyr,ltS]using h
theorem zzf(l:List Swp):zv2 4 7 (zbf l)=some (l.map zji):=by
 induction l with
 |nil=>rfl
 |cons f l ih=>simp[zv2,zuC,swC,ih,zji,zgk]
theorem zBM(s:Swp):zsl 4 7 (zji s)=swC s:=by
 unfold zsl zji swC;cases s.cap<;>simp[List.range,List.range.loop,zjS,zgk]
theorem zx5(l:List Swp):(ziS 4 7 (l.map zji)).map (zsl 4 7)=zbf (zlg l):=by
 unfold zlg zbf;rw[List.map_map];refine List.map_congr_left fun a ha=>?_
 obtain⟨x,_,rfl⟩:=kc.1 (zoH ha);simp only[Function.comp_def,zkt,zBM]
theorem zv1:List.lookup zbb Cs=some (0,64*zar+39,false):=by kernel_rfl
theorem zxP:L.lookup zbb=none:=by kernel_rfl
abbrev swB(v:Nat)(o:List Swp):Option Blk:=some { box:=false,esz:=4,rows:=zbf o,gen:=o.length,fz:=false,ver:=v }
abbrev swS(id:Nat)(o:List Swp):Cl:=.slice id o.length 4 0 o.length none
theorem zvU(w:Nat):R L Cs zbb [.c (swS 0 []),.c (.fn zar [] [])] [swB w []]=some (.t [],[swB w []]):=by
 rw[zrP zxP];unfold vM;rw[zv1];have e1:(64*zar+39) / 64=zar:=by decide
 simp[e1,zqs]
theorem zB0(l:List Swp)(hl:l.length<=100000000000)(h0:l≠[])(w:Nat):R L Cs zbb [.c (swS 0 l),.c (.fn zar [] [])] [swB w l]=some (.t [],[swB (w+1) (zlg l)]):=by
 rw[zrP zxP];unfold vM;rw[zv1];have e1:(64*zar+39) / 64=zar:=by decide
 have e2:(64*zar+39) / 8 % 8=4:=by decide
 have e3:(64*zar+39) % 8=7:=by decide
 have h1:l.length≠0:=by simpa using h0
 have h2:l.length<4611686018427387904:=by omega
 have hz:=zzf l;have hr:=zx5 l;have hd:List.drop l.length (zbf l)=[]:=ut (by simp);have ht:List.take l.length (zbf l)=zbf l:=jU (by simp);simp[e1,e2,e3,zqs,h0,h1,h2,hz,hr,hd,ht,zhh]
abbrev zxk(l:List Swp):Prop:=l.Pairwise fun x y=>ltS x y=true
theorem ztj:∀{a b:List Swp},zxk a->zxk b->(∀x,x∈a<->x∈b)->a=b
 |[],[],_,_,_=>rfl
 |[],y::b,_,_,h=>absurd ((h y).2 (jo ..)) (by simp)
 |x::a,[],_,_,h=>absurd ((h x).1 (jo ..)) (by simp)
 |x::a,y::b,ha,hb,h=>by
  have hx:=jH.1 ha;have hy:=jH.1 hb;have e:x=y:=by
   rcases jy.1 ((h x).1 (jo ..))with e|h1
   ·exact e
   ·rcases jy.1 ((h y).2 (jo ..))with e|h2
    ·exact e.symm
    ·have:=zoL (hy.1 x h1) (hx.1 y h2);rw[ztZ]at this;cases this
  subst e
  congr 1
  refine ztj hx.2 hy.2 fun z=>⟨fun hz=>?_,fun hz=>?_⟩
  ·rcases jy.1 ((h z).1 (jq _ hz))with e|h1
   ·subst e;have:=hx.1 z hz;rw[ztZ]at this;cases this
   ·exact h1
  ·rcases jy.1 ((h z).2 (jq _ hz))with e|h1
   ·subst e;have:=hy.1 z hz;rw[ztZ]at this;cases this
   ·exact h1
def zhp:List Swp->List Swp
 |[]=>[]
 |[x]=>[x]
 |x::y::l=>if x=y then zhp (y::l) else x::zhp (y::l)
theorem zrs:∀(l:List Swp) (z:Swp),z∈zhp l<->z∈l
 |[],z=>by simp[zhp]
 |[x],z=>by simp[zhp]
 |x::y::l,z=>by
  rw[zhp];have ih:=zrs (y::l) z;split
  ·next h=>subst h;rw[ih];simp
  ·rw[jy,ih];simp
theorem zvs:∀(l:List Swp),l.Pairwise (fun x y=>ltS y x=false)->zxk (zhp l)
 |[],_=>by simp[zhp]
 |[x],_=>by simp[zhp]
 |x::y::l,h=>by
  have h1:=jH.1 h;have ih:=zvs (y::l) h1.2;rw[zhp];split
  ·exact ih
  ·next hne =>
   refine jH.2 ⟨fun z hz=>?_,ih⟩;have hz':=(zrs _ _).1 hz;have hxz:=h1.1 z hz';cases hlt:ltS x z with
   |true=>rfl
   |false =>
    exfalso;have e:=zoM hlt hxz;subst e;have hxy:=h1.1 y (jo ..);rcases jy.1 hz' with e|h2
    ·exact hne e
    ·have:=(jH.1 h1.2).1 x h2;exact hne (zoM this hxy)
theorem zy5(a b:Swp):R L Cs zjN [.a (swC a),.a (swC b)] []=some (.w (Bo (ltS a b)),[]):=by
 rw[zUa zj8 rfl,zz2];by_cases h1:a.lane=b.lane
 ·by_cases h2:a.lo=b.lo
  ·by_cases h3:a.hi=b.hi
   ·cases ha:a.cap<;>cases hb:b.cap<;>simp[zbB,swC,h1,h2,h3,ha,hb]
   ·simp[zbB,swC,h1,h2,h3]
  ·simp[zbB,swC,h1,h2]
 ·simp[zbB,swC,h1]
def zdN(x:Swp)(s:List Swp):Nat->Nat
 |0=>0
 |a+1=>if ltS x (s.getD a zpa)=true then zdN x s a else a+1
theorem zjA(x:Swp)(s:List Swp):∀a,zdN x s a<=a
 |0=>jm _
 |a+1=>by unfold zdN;split;exact Nat.le_succ_of_le (zjA x s a);exact jm _
abbrev zdQ(s:List Swp):Option Blk:=some (own 4 (zbf s))
theorem zzw(l s:List Swp)(i:Nat)(hi:i<l.length)(hs:s.length<=900000000000)(M:Mem)(id:Nat)(hM:M[id]?=some (zdQ s)):∀(a:Nat),a<=s.length ->
  Y L Cs zbH (some [5,3,0,4]) M.length [(5,.w (W a)),(3,.w (.c (.slice id s.length 4 0 s.length none))),(0,.w (.c (.jc (zbf l)))),(4,.w (W i))] M =
    some (.exit 2,[(27,.w (Bo false)),(5,.w (W (zdN l[i] s a))),(3,.w (.c (.slice id s.length 4 0 s.length none))),(0,.w (.c (.jc (zbf l)))),(4,.w (W i))],M):=by
 intro a;induction a with
 |zero =>
  intro ha;rw[zj zbH.eq_1];simp[zdN]
 |succ a ih =>
  intro ha;have has:a<s.length:=by omega
  have e1:s.getD a zpa=s[a]:=by simp[has]
  have hc:=zy5 l[i] s[a];have hg:(0:Int)<(a:Int)+1:=by omega
  have hwa:IntKind.i64.wrap (a:Int)=(a:Int):=zTd _ (by omega) (by omega);simp only[swC]at hc;rw[zdN,e1];have Bi:∀E:Env,j7 M.length E M=M:=fun E=>by simp[j7]
  by_cases h:ltS l[i] s[a]=true
  ·rw[h]at hc;rw[if_pos h,<-ih (by omega),zj zbH.eq_1];simp[hg,hi,hM,own,has,hwa,hc,swC,Bi]
  ·have h':ltS l[i] s[a]=false:=by simpa using h
   rw[h']at hc;rw[if_neg h,zj zbH.eq_1];simp[hg,hi,hM,own,has,hwa,hc,swC]
def zlL(s:List Swp)(x:Swp):List Swp:=s.take (zdN x s s.length)++x::s.drop (zdN x s s.length)
def zx3(s:List Swp)(x:Swp):Bool:=decide (0<zdN x s s.length)&&decide (s.getD (zdN x s s.length-1) zpa=x)
def zdM(s:List Swp)(x:Swp):List Swp:=if zx3 s x=true then s else zlL s x
theorem zsO(s:List Swp)(x:Swp):(zlL s x).length=s.length+1:=by
 have:=zjA x s s.length;simp[zlL];omega
theorem zwa(s:List Swp)(x:Swp):(zdM s x).length<=s.length+1:=by
 unfold zdM;split
 ·omega
 ·rw[zsO];exact jm _
theorem zDg{a b:Swp}(h:a≠b):(a.lane==b.lane&&(a.lo==b.lo&&(a.hi==b.hi&&a.cap==b.cap)))=false:=by
 cases a with |mk a1 a2 a3 a4=>cases b with |mk b1 b2 b3 b4 =>
 cases hh:(a1==b1&&(a2==b2&&(a3==b3&&a4==b4)))with
 |false=>rfl
 |true =>
  exfalso;simp only[jg,beq_iff_eq]at hh;obtain⟨rfl,rfl,rfl,rfl⟩:=hh;exact h rfl
theorem zrl{a b:Swp}(h:a≠b):zbM [false,false,false,true] [I a.lane,I a.lo,I a.hi,.bool a.cap] [I b.lane,I b.lo,I b.hi,.bool b.cap]=some false:=by
 have h1:=zDg h;by_cases c1:a.lane=b.lane
 ·by_cases c2:a.lo=b.lo
  ·by_cases c3:a.hi=b.hi
   ·have c4:(a.cap==b.cap)=false:=by
     rw[c1,c2,c3]at h1;simpa using h1
    simp[c1,c2,c3,c4]
   ·have c3':(a.hi==b.hi)=false:=by simp[c3]
    simp[c1,c2,c3']
  ·have c2':(a.lo==b.lo)=false:=by simp[c2]
   simp[c1,c2']
 ·have c1':(a.lane==b.lane)=false:=by simp[c1]
  simp[c1']
theorem zuE(l:List Swp)(hl:l.length<=900000000000):∀(r:List Swp) (i:Nat) (s:List Swp) (M:Mem) (id:Nat),l.drop i=r->i<=l.length->s.length<=i->M[id]?=some (zdQ s)->(M.length<=2\/2<=id)->2<=M.length->zs9 M ->
  ∃M' id',zs9 M'/\M'[id']?=some (zdQ (r.foldl zdM s))/\Y L Cs zbG (some [0,3,4]) 2 [(0,.w (.c (.jc (zbf l)))),(3,.w (.c (.slice id s.length 4 0 s.length none))),(4,.w (W i))] M =
   some (.exit 0,[(9,.w (Bo false)),(3,.w (.c (.slice id' (r.foldl zdM s).length 4 0 (r.foldl zdM s).length none))),(0,.w (.c (.jc (zbf l)))),(4,.w (W l.length))],M'):=by
 intro r;induction r with
 |nil =>
  intro i s M id hd hi hs hM hid hML hfl;obtain rfl:=zUb hd hi;refine⟨M,id,hfl,hM,?_⟩;rw[zj zbG.eq_1];simp
 |cons x r ih =>
  intro i s M id hd hi hs hM hid hML hfl;obtain⟨hil,hx,hd'⟩:=zL hd;have hw:=zB (i:=i) (by omega);have hat:=zzw l s i hil (by omega) M id hM s.length (jm _);rw[hx]at hat;have AN:id<M.length:=(jJ.1 hM).1;have hle:=zjA x s s.length;by_cases hb:zx3 s x=true
  ·obtain⟨M',id',hf',h1,h2⟩:=ih (i+1) s M id hd' hil (by omega) hM hid hML hfl;have e:zdM s x=s:=by simp[zdM,hb]
   rw[jK,e];refine⟨M',id',hf',h1,?_⟩;rw[<-h2,zj zbG.eq_1];have hdr:=fun(E:Env) (hE:(3,AV.w (.c (.slice id s.length 4 0 s.length none)))∈E)=>zkI hE hid
   simp only[zx3,jg,decide_eq_true_eq]at hb;generalize zdN x s s.length=a at *;obtain⟨a,rfl⟩:∃b,a=b+1:=⟨a-1,by omega⟩;have has:a<s.length:=by omega
   have e1:s[a]=x:=by have:=hb.2;simpa [has]using this
   have hg:(0:Int)<(a:Int)+1:=by omega
   have hwa:IntKind.i64.wrap (a:Int)=(a:Int):=zTd _ (by omega) (by omega);have hdl:∀E:Env,j7 M.length E M=M:=fun E=>by simp[j7]
   simp[hil,hx,hat,hg,hwa,hM,own,has,e1,swC,hw,hdr,hdl,-j7]
  ·have e:zdM s x=zlL s x:=by simp[zdM,hb]
   have hM2:(M++[zdQ (zlL s x),some (own 4 [swC x])])[M.length]?=some (zdQ (zlL s x)):=by simp
   have hl2:(2:Nat)<=M.length:=hML;obtain⟨M',id',hf',h1,h2⟩:=ih (i+1) (zlL s x) (M++[zdQ (zlL s x),some (own 4 [swC x])]) M.length hd' hil (by rw[zsO];omega) hM2 (.inr hl2) (by simp) (by
    intro y hy b hb;rcases jw.1 hy with h|h
    ·exact hfl y h b hb
    ·simp at h;rcases h with rfl|rfl<;>(cases hb;rfl))
   rw[jK,e];refine⟨M',id',hf',h1,?_⟩;have hdr:∀(v v2:AV) (g len:Nat) (N:Mem),j7 2 [(0,v2),(3,.w (.c (.slice M.length g 4 0 len none))),(4,v)] (M++N)=M++N:=fun v v2 g len N=>zkI (id:=M.length) (g:=g) (es:=4) (off:=0) (len:=len) (c:=none) (by simp) (.inr hl2)
   rw[<-h2,zj zbG.eq_1];simp only[zlL];simp only[zx3,jg,decide_eq_true_eq]at hb;generalize zdN x s s.length=a at *;have hdl:∀E:Env,j7 M.length E M=M:=fun E=>by simp[j7]
   have hal:(a:Int)<=(s.length:Int):=by omega
   have r1:∀n,n<=900000000000->n*32<=140737488355328:=fun n hn=>by omega
   have hta:(s.take a).length=a:=by simp;omega
   have htd:(s.drop a).length=s.length-a:=by simp
   have hsz:a+(s.length-a)=s.length:=by omega
   have hg:∀N:Mem,(M++N)[id]?=some (zdQ s):=fun N=>by rw[js AN,hM]
   have d1:a-s.length=0:=by omega
   cases h1:s.take a with
   |nil =>
    have ha0:a=0:=by have:=congrArg List.length h1;simp at this;rcases this with h |h;exact h;subst h;simpa using hle
    have hgt:(0<a)=False:=eq_false (by omega);cases h2:s.drop a with
    |nil=>simp[hil,hx,swC,hw,hdr,hat,hM,AN,hg,zdQ,own,hle,h1,h2,zg,hdl,hal,hsz,r1,hgt,-j7]
    |cons z t2 =>
     have ht2:t2.length+1+1<=900000000000:=by have:=congrArg List.length h2;simp at this;omega
     have ht3:s.length-a=t2.length+1:=by have:=congrArg List.length h2;simp at this;omega
     have ht4:(1+(t2.length+1))*32<=140737488355328:=by omega
     have ht5:1+(t2.length+1)=t2.length+1+1:=by omega
     have ht6:a+(t2.length+1)<=s.length:=by omega
     simp[hil,hx,swC,hw,hdr,hat,hM,AN,hg,zdQ,own,hle,h1,h2,zg,hdl,hal,hsz,r1,ht2,ht3,ht4,ht5,ht6,hgt,-j7]
   |cons y t1 =>
    have ht1:t1.length+1=a:=by have:=congrArg List.length h1;simp at this;omega
    obtain⟨b,rfl⟩:∃b,a=b+1:=⟨a-1,by omega⟩;have hbs:b<s.length:=by omega
    have hne:s[b]≠x:=by
     intro he;exact hb ⟨by omega,by simp[hbs,he]⟩
    have heq:=zrl hne;have hgt:(0:Int)<(b:Int)+1:=by omega
    have hq0:(0:Int)<=(b:Int)+1:=by omega
    have hq1:(b:Int)+1<=(s.length:Int):=by omega
    have hMi:M[id]=zdQ s:=by have:=hM;rw[jr AN]at this;simpa using this
    have hwa:IntKind.i64.wrap (b:Int)=(b:Int):=zTd _ (by omega) (by omega);have hr1:=r1 (t1.length+1) (by omega);have hr2:=r1 (t1.length+1+1) (by omega);cases h2:s.drop (b+1)with
    |nil=>simp[hil,hx,swC,hw,hdr,hat,hM,AN,hg,zdQ,own,hle,h1,h2,zg,hdl,hal,hsz,r1,hr1,hr2,hgt,hwa,hbs,heq,hMi,hq0,hq1,-zbM,-j7]
    |cons z t2 =>
     have hr3:=r1 (t1.length+1+1+(t2.length+1)) (by have:=congrArg List.length h2;simp at this;omega);have ht3:s.length-(b+1)=t2.length+1:=by have:=congrArg List.length h2;simp at this;omega
     have ht6:b+1+(t2.length+1)<=s.length:=by omega
     have ht7:t1.length+1+1+(t2.length+1)=t1.length+(t2.length+1+1)+1:=by omega
     have hr4:(t1.length+(t2.length+1+1)+1)*32<=140737488355328:=by rw[<-ht7];exact hr3
     have ht8:List.take (t1.length+1) (zbf t1++[[I x.lane,I x.lo,I x.hi,.bool x.cap]])=zbf t1++[[I x.lane,I x.lo,I x.hi,.bool x.cap]]:=jU (by simp);have ht2:t2.length+1+(b+1)=s.length:=by have:=congrArg List.length h2;simp at this;omega
     simp[hil,hx,swC,hw,hdr,hat,hM,AN,hg,zdQ,own,hle,h1,h2,zg,hdl,hal,hsz,r1,ht2,hr1,hr2,hr3,hr4,ht3,ht6,ht7,ht8,hgt,hwa,hbs,heq,hMi,hq0,hq1,-zbM,-j7]
theorem zv7(l:List Swp):∀s:List Swp,(l.foldl zdM s).length<=s.length+l.length:=by
 induction l with
 |nil=>intro s;simp
 |cons x l ih =>
  intro s;have h1:=ih (zdM s x);have h2:=zwa s x;rw[jK,jl];omega
theorem zAO(l:List Swp)(hl:l.length<=800000000000):R L Cs zjM [.c (.jc (zbf l))] []=some (.w (.c (.jc (zbf (l.foldl zdM [])))),[]):=by
 obtain⟨P,id,hP,hid,h2⟩:=zuE l (by omega) l 0 [] [gb 4,gb 4] 1 rfl (jx _) (jx _) rfl (.inl (by simp)) (by simp) (by intro x hx b hb;simp at hx;subst hx;cases hb;rfl);have hl2:=zv7 l [];simp only[ju,jF]at hl2;generalize l.foldl zdM []=S at *;simp only[ji,ju]at h2;have Cr:id<P.length:=(jJ.1 hid).1;have hPi:P[id]=zdQ S:=by have:=hid;rw[jr Cr]at this;simpa using this
 have hd0:∀(E:Env) (a b:Option Blk),j7 2 E [a,b]=[a,b]:=by
  intro E a b;simp[j7]
 rw[zUa zj7 rfl];simp[zem,h2,zg,hd0,hid,Cr,hPi,zdQ,own,-j7]
theorem ztz(x:Swp)(s:List Swp):∀a,∀i,zdN x s a<=i->i<a->ltS x (s.getD i zpa)=true:=by
 intro a;induction a with
 |zero=>intro i _ h;omega
 |succ a ih =>
  intro i h1 h2;unfold zdN at h1;split at h1
  ·next h =>
   by_cases e:i=a
   ·subst e;exact h
   ·exact ih i h1 (by omega)
  ·omega
theorem zty(x:Swp)(s:List Swp):∀a,0<zdN x s a->ltS x (s.getD (zdN x s a-1) zpa)=false:=by
 intro a;induction a with
 |zero=>intro h;simp[zdN]at h
 |succ a ih =>
  intro h;unfold zdN at h ⊢;split at h
  ·next h1=>rw[if_pos h1];exact ih h
  ·next h1=>rw[if_neg h1];simpa using h1
theorem zv9(s:List Swp)(x z:Swp):z∈zdM s x<->z∈s\/z=x:=by
 have hle:=zjA x s s.length;unfold zdM;split
 ·next h =>
  simp only[zx3,jg,decide_eq_true_eq]at h;have hx:x∈s:=by
   have hlt:zdN x s s.length-1<s.length:=by omega
   rw[<-h.2,jp,jr hlt];exact jf hlt
  constructor
  ·exact .inl
  ·rintro(h|rfl)
   ·exact h
   ·exact hx
 ·unfold zlL;have e:z∈s<->z∈s.take (zdN x s s.length)\/z∈s.drop (zdN x s s.length):=by
   rw[<-jw,jT]
  rw[jw,jy,e];constructor
  ·rintro(h|h|h)
   ·exact .inl (.inl h)
   ·exact .inr h
   ·exact .inl (.inr h)
  ·rintro((h|h)|h)
   ·exact .inl h
   ·exact .inr (.inr h)
   ·exact .inr (.inl h)
theorem zwb{s:List Swp}(h:zxk s)(x:Swp):zxk (zdM s x):=by
 have hle:=zjA x s s.length;have ha:=ztz x s s.length;have hb:=zty x s s.length;unfold zdM;split
 ·exact h
 ·next hd =>
  unfold zlL;simp only[zx3,jg,decide_eq_true_eq,not_and]at hd;generalize zdN x s s.length=a at *;have Cd:∀y∈s.take a,ltS y x=true:=by
   intro y hy;obtain⟨i,hi,rfl⟩:=qr hy;have hia:i<a:=by simp at hi;omega
   have hlt:a-1<s.length:=by omega
   have e1:s.getD (a-1) zpa=s[a-1]:=by simp[hlt]
   have h1:=hb (by omega);have h2:=hd (by omega);rw[e1]at h1 h2;have h3:ltS s[a-1] x=true:=by
    cases hh:ltS s[a-1] x with
    |true=>rfl
    |false=>exact absurd (zoM hh h1) h2
   rw[List.getElem_take];by_cases e:i=a-1
   ·subst e;exact h3
   ·exact zoL (qx.1 h i (a-1) (by omega) hlt (by omega)) h3
  have CS:∀y∈s.drop a,ltS x y=true:=by
   intro y hy;obtain⟨i,hi,rfl⟩:=qr hy;have hi':a+i<s.length:=by simp at hi;omega
   have:=ha (a+i) (by omega) hi';rw[List.getElem_drop];simpa [hi']using this
  refine j6.2 ⟨h.sublist (List.take_sublist _ _),jH.2 ⟨CS,h.sublist (List.drop_sublist _ _)⟩,fun y hy z hz=>?_⟩;rcases jy.1 hz with rfl|hz
  ·exact Cd y hy
  ·exact zoL (Cd y hy) (CS z hz)
theorem zpf:∀(l s:List Swp),zxk s->zxk (l.foldl zdM s)/\∀z,z∈l.foldl zdM s<->z∈s\/z∈l
 |[],s,h=>⟨h,fun z=>by simp⟩
 |x::l,s,h=>by
  obtain⟨h1,h2⟩:=zpf l (zdM s x) (zwb h x);refine⟨h1,fun z=>?_⟩;rw[jK,h2,zv9,jy,or_assoc]
theorem zxX(l:List Swp):zhp (zlg l)=l.foldl zdM []:=by
 obtain⟨h1,h2⟩:=zpf l [] (by simp);refine ztj (zvs _ (zuK l)) h1 fun x=>?_
 rw[zrs,h2,(zsK l).mem_iff];simp
def zfM:Swp->List Swp->List Swp
 |_,[]=>[]
 |p,x::l=>if x=p then zfM x l else x::zfM x l
theorem zo0:∀(l:List Swp) (p:Swp),zhp (p::l)=p::zfM p l
 |[],p=>rfl
 |x::l,p=>by
  rw[zhp,zfM];by_cases h:p=x
  ·subst h;rw[if_pos rfl,if_pos rfl,zo0 l p]
  ·rw[if_neg h,if_neg (qE h),zo0 l x]
theorem zrr:∀(l:List Swp) (p:Swp),(zfM p l).length<=l.length
 |[],p=>jm _
 |x::l,p=>by
  have:=zrr l x;rw[zfM];split<;>simp<;>omega
@[simp] theorem zC8(l:List Swp)(i:Nat)(x:Swp):(zbf l).set i [I x.lane,I x.lo,I x.hi,.bool x.cap]=zbf (l.set i x):=by simp[zbf,List.map_set,swC]
theorem zvp(a:Swp):zbM [false,false,false,true] [I a.lane,I a.lo,I a.hi,.bool a.cap] [I a.lane,I a.lo,I a.hi,.bool a.cap]=some true:=by simp
abbrev zyZ(S:List Swp)(k j k0 m2:Nat):Env:=[(3,.w (W k)),(5,.w (W j)),(0,.w (.c (.slice 0 S.length 4 0 S.length none))),(4,.w (.c (.slice 0 S.length 4 k0 m2 none)))]
theorem zAy(k0 m2 n:Nat)(hn:k0+m2=n)(hn2:n<=900000000000):∀(r:List Swp) (p:Swp) (S:List Swp) (k j v:Nat),S.length=n->1<=j->k<=k0+j-1->S.drop (k0+j-1)=p::r ->
  ∃S' v' k',k'<=n/\S'.length=n/\S'.take k'=S.take k++zfM p r/\k'=k+(zfM p r).length/\v<=v'/\(v'=v->S'=S/\k'=k) /\
   Y L Cs zbU (some [3,5,0,4]) 2 (zyZ S k j k0 m2) [swB v S,gb 4]=some (.exit 2,(32,.w (Bo false))::zyZ S' k' m2 k0 m2,[swB v' S',gb 4]):=by
 intro r;induction r with
 |nil =>
  intro p S k j v hS hj hk hd;have hl:=congrArg List.length hd;simp at hl;have hjm:j=m2:=by omega
  subst hjm;refine⟨S,v,k,by omega,hS,by simp[zfM],by simp[zfM],jm _,fun _=>⟨rfl,rfl⟩,?_⟩;rw[zj zbU.eq_1];simp
 |cons x r ih =>
  intro p S k j v hS hj hk hd;have hl:=congrArg List.length hd;simp at hl;obtain⟨hJ,hp,hd'⟩:=zL hd;have hJ1:k0+j-1+1=k0+j:=by omega
  rw[hJ1]at hd';obtain⟨hJ',hx,hd''⟩:=zL hd';have hjm:j<m2:=by omega
  have hw:=zB (i:=j) (by omega);have hwk:=zB (i:=k) (by omega);obtain⟨j',rfl⟩:∃t,j=t+1:=⟨j-1,by omega⟩;have hw1:IntKind.i64.wrap (((j'+1:Nat):Int)-1)=(j':Int):=by rw[zTd _ (by omega) (by omega)];omega
  have e1:k0+(j'+1)-1=k0+j':=by omega
  have hp2:S[k0+j']'(by omega)=p:=by simpa [e1]using hp
  have hjt:((j'+1:Nat):Int).toNat=j'+1:=by omega
  by_cases c:x=p
  ·subst c;obtain⟨S',v',k',h0,h1,h2,h3,h4,h6,h5⟩:=ih x S k (j'+1+1) v hS (by omega) (by omega) (by rw[<-hd'];congr 1);have e2:zfM x (x::r)=zfM x r:=by rw[zfM,if_pos rfl]
   rw[e2];refine⟨S',v',k',h0,h1,h2,h3,h4,h6,?_⟩;rw[<-h5,zj zbU.eq_1];have heq:=zvp x;have hj'm:j'<m2:=by omega
   have hjS:k0+(j'+1)<S.length:=by omega
   have hjS2:k0+j'<S.length:=by omega
   simp[hjm,hw,hw1,hx,hp2,swC,heq,hjt,hj'm,hjS,hjS2,zyZ,swB,-zbM,-Int.natCast_add]
  ·have hkS:k<S.length:=by omega
   obtain⟨S',v',k',h0,h1,h2,h3,h4,h6,h5⟩:=ih x (S.set k x) (k+1) (j'+1+1) (v+1) (by simpa using hS) (by omega) (by omega) (by
    rw[List.drop_set_of_lt (by omega),<-hd'];congr 1)
   have e2:zfM p (x::r)=x::zfM x r:=by rw[zfM,if_neg c]
   rw[e2];have e3:(S.set k x).take (k+1)=S.take k++[x]:=by
    rw[List.take_add_one,List.take_set_of_le (jm _)];simp[hkS]
   refine⟨S',v',k',h0,h1,by rw[h2,e3];simp,by rw[h3];simp;omega,by omega,fun h=>by omega,?_⟩;have heq:=zrl c;have hj'm:j'<m2:=by omega
   have hjS:k0+(j'+1)<S.length:=by omega
   have hjS2:k0+j'<S.length:=by omega
   have hS2:(S.set k x).length=S.length:=by simp
   rw[<-h5,zj zbU.eq_1];simp[hjm,hw,hwk,hw1,hx,hp2,swC,heq,hjt,hj'm,hjS,hjS2,hkS,hS2,zyZ,swB,-zbM,-Int.natCast_add]
@[simp] theorem zC9(n:Nat):List.replicate n [I 0,I 0,I 0,.bool false]=zbf (List.replicate n zpa):=by simp[zbf,swC]
theorem zAx(S:List Swp)(hn2:S.length<=900000000000)(v:Nat):∀(r:List Swp) (p:Swp) (k:Nat),1<=k->S.drop (k-1)=p::r ->
  (zfM p r=r/\Y L Cs zaF (some [3,0]) 2 [(3,.w (W k)),(0,.w (.c (swS 0 S)))] [swB v S,gb 4]=some (.exit 0,[(13,.w (Bo false)),(3,.w (W S.length)),(0,.w (.c (swS 0 S)))],[swB v S,gb 4])) \/
  (∃S' v',S'.length=S.length/\S'.take (k+(zfM p r).length)=S.take k++zfM p r/\v<v'/\(zfM p r).length<r.length /\
   Y L Cs zaF (some [3,0]) 2 [(3,.w (W k)),(0,.w (.c (swS 0 S)))] [swB v S,gb 4]=some (.ret,[(2,.w (.c (.slice 0 S.length 4 0 (k+(zfM p r).length) none)))],[swB v' S',gb 4])):=by
 intro r;induction r with
 |nil =>
  intro p k hk hd;have hl:=congrArg List.length hd;simp at hl;have hjm:k=S.length:=by omega
  subst hjm;refine .inl ⟨rfl,?_⟩;rw[zj zaF.eq_1];simp
 |cons x r ih =>
  intro p k hk hd;have hl:=congrArg List.length hd;simp at hl;obtain⟨hJ,hp,hd'⟩:=zL hd;obtain⟨k',rfl⟩:∃t,k=t+1:=⟨k-1,by omega⟩;simp only[yj]at hJ hp hd' hd;obtain⟨hJ',hx,hd''⟩:=zL hd';have hw:=zB (i:=k'+1) (by omega);have hw1:IntKind.i64.wrap (((k'+1:Nat):Int)-1)=(k':Int):=by rw[zTd _ (by omega) (by omega)];omega
  have hkt:((k'+1:Nat):Int).toNat=k'+1:=by omega
  by_cases c:x=p
  ·subst c;right;have e2:zfM x (x::r)=zfM x r:=by rw[zfM,if_pos rfl]
   obtain⟨S',v',q,h0,h1,h2,h3,h4,_,h5⟩:=zAy (k'+1) (S.length-(k'+1)) S.length (by omega) hn2 r x S (k'+1) 1 v rfl (jm _) (by omega) (by simpa using hd');have hcl:=zrr r x;rw[e2,<-h3];have hq:q<S.length:=by simp at hl;omega
   refine⟨S'.take q++List.replicate (S.length-q) zpa,v'+1,by simp;omega,by rw[uq (by simp;omega),List.take_take,Nat.min_self,h2],by omega,by simp;omega,?_⟩;have heq:=zvp x;have hz:S.length-q≠0:=by omega
   have hqn:q<=S.length:=by omega
   have hqi:(q:Int)<=(S.length:Int):=by omega
   have hki:((k'+1:Nat):Int)<=(S.length:Int):=by omega
   have hkn:k'+1<=S.length:=by omega
   have Bi:S'.drop (q+(S.length-q))=[]:=ut (by omega);have hqe:q+(S.length-q)=S.length:=by omega
   rw[hqe]at Bi;have hmin:min q S.length=q:=by omega
   simp only[zyZ,kh]at h5;rw[zj zaF.eq_1];simp[zgI,hJ,hJ',hx,hp,hw1,hkt,swC,heq,h5,h1,hz,hqn,hqi,hki,hkn,Bi,hqe,hmin,zyZ,swB,-zbM,-Int.natCast_add]
  ·have heq:=zrl c;have e2:zfM p (x::r)=x::zfM x r:=by rw[zfM,if_neg c]
   have vz:Y L Cs zaF (some [3,0]) 2 [(3,.w (W (k'+1:Nat))),(0,.w (.c (swS 0 S)))] [swB v S,gb 4]=Y L Cs zaF (some [3,0]) 2 [(3,.w (W (k'+1+1:Nat))),(0,.w (.c (swS 0 S)))] [swB v S,gb 4]:=by
    rw[zj zaF.eq_1];simp[hJ,hJ',hx,hp,hw,hw1,hkt,swC,heq,swB,-zbM,-Int.natCast_add]
   have hS1:S.take (k'+1+1)=S.take (k'+1)++[x]:=by rw[List.take_add_one];simp[hJ',hx]
   rw[vz,e2];rcases ih x (k'+1+1) (by omega) (by simpa using hd')with⟨h1,h2⟩ |⟨S',v',h1,h2,h3,h4,h5⟩
   ·exact .inl ⟨by rw[h1],h2⟩
   ·refine .inr ⟨S',v',h1,?_,h3,by simpa using h4,?_⟩
    ·have e3:k'+1+(x::zfM x r).length=k'+1+1+(zfM x r).length:=by simp;omega
     rw[e3,h2,hS1];simp
    ·have e3:k'+1+(x::zfM x r).length=k'+1+1+(zfM x r).length:=by simp;omega
     rw[e3,h5]
theorem zrS(S:List Swp)(hn2:S.length<=900000000000)(v:Nat):∃S' v',S'.length=S.length/\S'.take (zhp S).length=zhp S/\v<=v'/\(v'=v->S'=S)/\(zhp S).length<=S.length /\
  R L Cs zeD [.c (swS 0 S)] [swB v S]=some (.w (.c (.slice 0 S.length 4 0 (zhp S).length none)),[swB v' S']):=by
 have hshort:S.length<2->R L Cs zeD [.c (swS 0 S)] [swB v S]=some (.w (.c (swS 0 S)),[swB v S]):=by
  intro c;have c':(S.length:Int)<2:=by omega
  rw[zUa zcq rfl];simp[zbk,c,c',zg]
 match S,hn2,hshort with
 |[],_,hs=>exact⟨[],v,rfl,rfl,jm _,fun _=>rfl,jm _,hs (by simp)⟩
 |p::r,hn2,_ =>
  have c1:=zo0 r p;have c2:=zrr r p;by_cases hr:r=[]
  ·subst hr;exact⟨[p],v,rfl,rfl,jm _,fun _=>rfl,jm _,by
    rw[zUa zcq rfl];simp[zbk,zg,zhp]⟩
  ·have hl:0<r.length:=kD.2 hr;have c:¬((p::r).length:Int)<2:=by simp;omega
   have c':¬(p::r).length<2:=by simp;omega
   have hlen:(zhp (p::r)).length=1+(zfM p r).length:=by rw[c1];simp;omega
   rcases zAx (p::r) hn2 v r p 1 (jm _) rfl with⟨h1,h2⟩ |⟨S',v',h1,h2,h3,h4,h5⟩
   ·refine⟨p::r,v,rfl,by rw[c1,h1];simp,jm _,fun _=>rfl,by rw[c1,h1];simp,?_⟩;rw[hlen,h1];simp only[kh]at h2;generalize hS:p::r=S at *;have e:1+r.length=S.length:=by rw[<-hS];simp;omega
    rw[e,zUa zcq rfl];simp[zbk,zg,c,c',h2]
   ·refine⟨S',v',h1,by rw[hlen,h2,c1];simp,by omega,fun h=>by omega,by rw[hlen];simp;omega,?_⟩;rw[hlen];simp only[kh]at h5;generalize hS:p::r=S at *;have hv:(v=v')=False:=eq_false (by omega);rw[zUa zcq rfl];simp[zbk,zg,c,c',h5]
def zkr(m:zD)(e:Ego)(len:Int)(l:List Int)(bs:List zk):List zk:=if e.shi-len<=e.slo then zpO m e len 0 l bs else bs
theorem zor{m:zD}(h:zcp m)(l:List Int)(hl:l.length<=8)(hon:zj2 m l)(len:Int)(e:Ego)(he:-1000000000000000<=e.slo/\e.slo<=1000000000000000/\-1000000000000000<=e.shi/\e.shi<=1000000000000000)(hn:0<=len/\len<=20000)(bs:List zk)(hbb:bs.length*2 ^ l.length<=100000000000) :
  R L Cs zmR [.a (zh m l len),.c (.jc (zI bs)),.a (zch e)] []=some (.w (.c (.jc (zI (zkr m e len l bs)))),[]):=by
 have hg:=zCj m l len e he hn;have ho:=zzJ h l hl hon len e he hn l 0 bs 0 rfl (jx _) rfl (by omega) (by omega) hbb;simp only[zh,zi,ji,zch]at ho hg ⊢;rw[zUa zm2 rfl,zkr];by_cases c:e.shi-len<=e.slo
 ·simp[zed,hg,ho,c,zg]
 ·simp[zed,hg,c,zg]
theorem zxN{m:zD}(h:zcp m)(l:List Int)(hl:l.length<=8)(hon:zj2 m l)(len:Int)(e:Ego)(he:-1000000000000000<=e.slo/\e.slo<=1000000000000000/\-1000000000000000<=e.shi/\e.shi<=1000000000000000)(hn:0<=len/\len<=20000)(bs:List zk)(hbb:bs.length*2 ^ l.length<=100000000000) :
  R L Cs zl8 [.a (zf m),.c (.jc (zu l)),W len,.c (.jc (zI bs)),.a (zch e)] []=some (.w (.c (.jc (zI (zkr m e len l bs)))),[]):=by
 have hw0:=kg (e.shi-len);have ho:=zya h l hl hon len e he hn l 0 bs 0 rfl (jx _) rfl (by omega) (by omega) hbb;have hbg:=zvX h (by omega) hon;simp only[zf,ji,zch]at ho hbg ⊢;rw[zUa zmr rfl,zkr];by_cases c:e.shi-len<=e.slo
 ·have c':¬(e.slo<e.shi-len):=by omega
  simp[zdW,hbg,ho,c,c',zg,hw0]
 ·have c':e.slo<e.shi-len:=by omega
  simp[zdW,c,c',zg,hw0]
theorem zlP{m:zD}(hs:zmX m){l:List Int}(hr:zdA m l=0):l.length<=2:=by
 match l,hr with
 |[],_=>simp
 |[_],_=>simp
 |[_,_],_=>simp
 |x::y::z::t,hr =>
  exfalso;have hg:goF m x (y::z::t)=true:=by
   cases hg:goF m x (y::z::t)with
   |true=>rfl
   |false=>simp[zdA,hg]at hr
  simp only[goF,jg,decide_eq_true_eq]at hg;have h1:y∈zS m x:=hg.1;have h2:z∈zS m y:=hg.2.1;rw[hs.leaf x y h1]at h2;cases h2
theorem zxI{m:zD}(h:zcp m):∀(r:List zk) (p:zk),zls m p r=0->∀b∈r,VB m b
 |[],_,_,b,hb=>by cases hb
 |x::r,p,hc,b,hb=>by
  unfold zls at hc;split at hc
  ·rename_i h1;exact absurd hc h1
  ·rename_i h1;have h1:zer m p x=0:=by simpa using h1
   rcases jy.1 hb with rfl|hb
   ·obtain⟨a1,a2,a3,a4,a5,a6,a7,a8,a9,a10,_,_⟩:=zui h h1;exact⟨⟨a1,a2⟩,a3,a4,a5,a6,a7,a8,⟨a9,a10⟩⟩
   ·exact zxI h r x hc b hb
theorem zxJ{m:zD}(h:zcp m){k:zci}(hc:zdf m k=0):∀b∈k.jQ,VB m b:=by
 unfold zdf at hc;split at hc
 ·cases hc
 ·exact zxI h _ _ hc
theorem zBO{m:zD}{x fr to:Int}{b:zk}(hb:VB m b):∀z∈zoX x fr to b,VB m z:=by
 intro z hz;unfold zoX at hz;split at hz
 ·simp only[jz]at hz;subst hz;exact hb
 ·rename_i hc;have a1:=hb.lo;have a2:=hb.le;have a3:=hb.hi;rcases jw.1 hz with hz|hz
  ·split at hz
   ·simp only[jz]at hz;subst hz;exact⟨hb.lane,hb.lo,by show b.lo<=fr-1;omega,by show fr-1<=z8 m b.lane;omega,hb.vlo,hb.vle,hb.vhi,hb.hold⟩
   ·cases hz
  ·split at hz
   ·simp only[jz]at hz;subst hz;exact⟨hb.lane,by show 0<=to+1;omega,by show to+1<=b.hi;omega,hb.hi,hb.vlo,hb.vle,hb.vhi,hb.hold⟩
   ·cases hz
theorem zxH{m:zD}{x fr to:Int}:∀(l:List zk),(∀b∈l,VB m b)->∀z∈zhn x fr to l,VB m z
 |[],_,z,hz=>by cases hz
 |b::l,h,z,hz=>by
  unfold zhn at hz;rcases jw.1 hz with hz|hz
  ·exact zBO (h b (jo ..)) z hz
  ·exact zxH l (fun y hy=>h y (jq _ hy)) z hz
theorem zxu{m:zD}(e:Ego)(len:Int):∀(r:List Int) (a:Int) (l:List zk),(∀b∈l,VB m b)->∀z∈zpO m e len a r l,VB m z
 |[],_,l,h,z,hz=>h z hz
 |x::r,a,l,h,z,hz=>zxu e len r _ _ (zxH l h) z hz
theorem ztK{m:zD}(e:Ego)(len:Int)(r:List Int)(l:List zk)(h:∀b∈l,VB m b):∀z∈zkr m e len r l,VB m z:=by
 unfold zkr;split
 ·exact zxu e len r 0 l h
 ·exact h
theorem zij(m:zD)(e:Ego)(len:Int){r:List Int}(hr:r.length<=2)(l:List zk):(zkr m e len r l).length<=l.length*4:=by
 unfold zkr;split
 ·refine j8 (zuX m e len r 0 l) (Nat.mul_le_mul_left _ ?_);exact ub (by decide) hr
 ·omega
theorem zvw{m:zD}(h:zcp m):∀(r:List zk) (p:zk),zls m p r=0->p.lane<m.jb.length->p.hi<=1000000->(r.length:Int)+(p.lane*1000002+p.hi+1)<=m.jb.length*1000002
 |[],p,_,h1,h2=>by simp only[ju];omega
 |x::r,p,hc,h1,h2=>by
  unfold zls at hc;split at hc
  ·rename_i hx;exact absurd hc hx
  ·rename_i hx;have hx:zer m p x=0:=by simpa using hx
   obtain⟨a1,a2,a3,a4,a5,a6,a7,a8,a9,a10,a11,a12⟩:=zui h hx;have ih:=zvw h r x hc a2 (by omega);simp only[zmM,not_or,not_and,ug,Int.not_le]at a12;simp only[jl];by_cases e:x.lane=p.lane
   ·have:=a12.2 e;rw[e]at ih;omega
   ·omega
theorem zvx{m:zD}(h:zcp m)(hs:zmX m){k:zci}(hc:zdf m k=0):k.jQ.length<=200000000:=by
 unfold zdf at hc;split at hc
 ·cases hc
 ·have:=zvw h _ _ hc (show(-1:Int)<_ by omega) (show(0:Int)<=_ by omega);have:=hs.few;simp only[zqY]at *;omega
abbrev zox:List Cl:=[I 0,.jd,I 0,I 0,I 0,I 0]
abbrev bsC(id:Nat)(l:List zk):WV:=.c (.slice id l.length 6 0 l.length none)
abbrev swW(id:Nat)(l:List Swp):WV:=.c (.slice id l.length 4 0 l.length none)
abbrev stM(m:zD)(r:List Int)(len bar:Int)(e:Ego)(k:zci)(bs:List zk)(sw:List Swp):Mem:=[bx 11 (zh m r len),bx 6 (zG k),bx 6 zox,gb 4,bxv 1 4 (zch e),bxv 1 16 (zm m r len bar e),some (own 6 (zI bs)),zdQ sw]
abbrev zwh(m:zD)(r:List Int)(len bar:Int)(e:Ego)(k:zci)(bs:List zk)(sw:List Swp)(b x:zk):Mem:=[bx 11 (zh m r len),bx 6 (zG k),bx 6 zox,gb 4,bxv 1 4 (zch e),bxv 1 16 (zm m r len bar e),some (own 6 (zI bs)),zdQ sw,bxv 1 6 (ze b),bxv 1 6 (ze x)]
abbrev s1E(ow bs:List zk)(sw:List Swp)(i:Nat)(signals behind:Bool)(ls:List LB)(j:Nat):Env:=[(12,.w (bsC 6 bs)),(104,.w (W j)),(103,.w (W ls.length)),(50,.w (W i)),(49,.w (W ow.length)),(10,.w (Pt 4)),(8,.w (Pt 2)),(48,.w (.c (.jc (zI ow)))),(3,.w (Bo signals)),(11,.w (Pt 5)),(4,.w (Pt 0)),(5,.w (Pt 1)),(13,.w (swW 7 sw)),(19,.w (Bo behind)),(16,.w (Pt 9)),(15,.w (Pt 8)),(102,.w (.c (.jc (zdz ls))))]
theorem zwg(m:zD)(r:List Int)(len bar:Int)(e:Ego)(k:zci)(sw:List Swp)(b x:zk)(ow:List zk)(i:Nat)(signals behind:Bool)(ls:List LB)(hls:ls.length<=100):∀(t:List LB) (j:Nat) (bs:List zk),ls.drop j=t->j<=ls.length->bs.length+t.length<=100000000000 ->
  Y L Cs zc5 (some [12,104,103,50,49,10,8,48,3,11,4,5,13,19,16,15,102]) 10 (s1E ow bs sw i signals behind ls j) (zwh m r len bar e k bs sw b x) =
    some (.exit 2,(105,.w (Bo false))::s1E ow (bs++t.map Prod.fst) sw i signals behind ls ls.length,zwh m r len bar e k (bs++t.map Prod.fst) sw b x):=by
 intro t;induction t with
 |nil =>
  intro j bs hd hj hb;obtain rfl:=zUb hd hj;rw[zj zc5.eq_1];simp
 |cons z t ih =>
  intro j bs hd hj hb;obtain⟨hjl,hz,hd'⟩:=zL hd;have hw:=zB (i:=j) (by omega);simp only[jl]at hb;have jV:(bs.length+1)*48<=140737488355328:=by omega
  have h:=ih (j+1) (bs++[z.1]) hd' (by omega) (by simp;omega);have e1:bs++List.map Prod.fst (z::t)=bs++[z.1]++List.map Prod.fst t:=by simp
  rw[e1,<-h,zj zc5.eq_1];simp[s1E,zwh,bsC,swW,zdQ,own,zh,zi,zG,zch,zm,ze,hjl,hz,hw,lbC,jV,zg]
abbrev zlJ(z:LB):Swp:=⟨z.1.lane,z.1.lo,z.1.hi,z.2⟩
abbrev s2E(ow bs:List zk)(sw:List Swp)(i:Nat)(signals:Bool)(ls:List LB)(j:Nat):Env:=[(13,.w (swW 7 sw)),(123,.w (W j)),(122,.w (W ls.length)),(5,.w (Pt 1)),(4,.w (Pt 0)),(12,.w (bsC 6 bs)),(11,.w (Pt 5)),(3,.w (Bo signals)),(48,.w (.c (.jc (zI ow)))),(8,.w (Pt 2)),(10,.w (Pt 4)),(49,.w (W ow.length)),(50,.w (W i)),(121,.w (.c (.jc (zdz ls))))]
theorem zwf(m:zD)(r:List Int)(len bar:Int)(e:Ego)(k:zci)(bs:List zk)(b x:zk)(ow:List zk)(i:Nat)(signals:Bool)(ls:List LB)(hls:ls.length<=100):∀(t:List LB) (j:Nat) (sw:List Swp),ls.drop j=t->j<=ls.length->sw.length+t.length<=100000000000 ->
  Y L Cs zc4 (some [13,123,122,5,4,12,11,3,48,8,10,49,50,121]) 10 (s2E ow bs sw i signals ls j) (zwh m r len bar e k bs sw b x) =
    some (.exit 4,(124,.w (Bo false))::s2E ow bs (sw++t.map zlJ) i signals ls ls.length,zwh m r len bar e k bs (sw++t.map zlJ) b x):=by
 intro t;induction t with
 |nil =>
  intro j sw hd hj hb;obtain rfl:=zUb hd hj;rw[zj zc4.eq_1];simp
 |cons z t ih =>
  intro j sw hd hj hb;obtain⟨hjl,hz,hd'⟩:=zL hd;have hw:=zB (i:=j) (by omega);simp only[jl]at hb;have jV:(sw.length+1)*32<=140737488355328:=by omega
  have h:=ih (j+1) (sw++[zlJ z]) hd' (by omega) (by simp;omega);have e1:sw++List.map zlJ (z::t)=sw++[zlJ z]++List.map zlJ t:=by simp
  rw[e1,<-h,zj zc4.eq_1];simp[s2E,zwh,bsC,swW,zdQ,own,zh,zi,zG,zch,zm,ze,hjl,hz,hw,lbC,swC,jV,zg]
def mvF(m:zD)(zs:List Zon)(ss:List Sgn)(k:zci)(signals:Bool)(b:zk):zk:=zdC m (zeA zs ss b.lane k.tick) b signals (decide (b.lane∈zbK m 0 m.jb))
def zfP(m:zD)(r:List Int)(len:Int)(k:zci)(b:zk):Bool:=match zgo r b.lane with
 |some i=>decide (k.ego.shi-len<=k.ego.slo)&&decide (kS m r i+b.hi<k.ego.shi-len)
 |none=>false
def zm8(m:zD)(zs:List Zon)(ss:List Sgn)(r:List Int)(bar slo len:Int)(k:zci)(signals:Bool)(b:zk):List LB :=
 if(mvF m zs ss k signals b).lo<=(mvF m zs ss k signals b).hi then zlZ m r bar slo (mvF m zs ss k signals b) (mvF m zs ss k signals b).lo (mvF m zs ss k signals b).hi (zfP m r len k b) else []
def zn0(m:zD)(zs:List Zon)(ss:List Sgn)(r:List Int)(bar slo len:Int)(k:zci)(signals:Bool)(b:zk):List LB :=
 if(mvF m zs ss k signals b).lo<=(mvF m zs ss k signals b).hi then zlZ m r bar slo (mvF m zs ss k signals b) b.lo (mvF m zs ss k signals b).hi (zfP m r len k b) else []
theorem zwE{m:zD}(h:zcp m)(zs:List Zon)(ss:List Sgn)(k:zci)(signals:Bool){b:zk}(hb:VB m b):(mvF m zs ss k signals b).lane=b.lane/\0<=(mvF m zs ss k signals b).lo/\(mvF m zs ss k signals b).lo<=2000000/\0<=(mvF m zs ss k signals b).hi/\(mvF m zs ss k signals b).hi<=2000000:=by
 have ho:=zqQ h hb;have a1:=hb.lo;have a2:=hb.le;have p1:=ho.pos;have p2:=ho.s;have p3:=ho.f;refine⟨rfl,?_,?_,?_,?_⟩
 ·unfold mvF zdC;dsimp only;split<;>omega
 ·unfold mvF zdC;dsimp only;split<;>omega
 all_goals
  unfold mvF zdC;dsimp only;generalize hq:(if signals=true then(zeA zs ss b.lane k.tick).find? (zcY m b) else none)=q;cases q with
  |none=>simp only;omega
  |some l =>
   have hl:zcY m b l=true:=by
    cases signals with
    |false=>simp at hq
    |true=>exact qK (by simpa using hq)
   simp only[zcY,jg,decide_eq_true_eq]at hl;have:=hl.1;simp only;omega
abbrev s3E(ow bs:List zk)(sw:List Swp)(i:Nat)(signals:Bool):Env:=[(50,.w (W i)),(49,.w (W ow.length)),(10,.w (Pt 4)),(8,.w (Pt 2)),(48,.w (.c (.jc (zI ow)))),(3,.w (Bo signals)),(11,.w (Pt 5)),(13,.w (swW 7 sw)),(12,.w (bsC 6 bs)),(4,.w (Pt 0)),(5,.w (Pt 1))]
theorem zCW(m:zD)(l:List Int)(len:Int)(e:Ego)(he:znd e)(hn:0<=len/\len<=20000):R L Cs zhP [.a (zh m l len),.a (zch e)] []=some (.w (Bo (decide (e.shi-len<=e.slo))),[]):=zCj m l len e (by have:=he.s;omega) hn
theorem step3{m:zD}{zs:List Zon}{ss:List Sgn}(hf:zmq m zs ss){r:List Int}{bar:Int}(h:ziO m r bar)(len:Int)(hn:0<=len/\len<=20000)(e:Ego)(k:zci)(he:znd k.ego)(ow:List zk)(signals:Bool)(i:Nat)(hi:i<ow.length)(hi2:i<100000000000)(hb:VB m ow[i])(bs:List zk)(sw:List Swp)(hbs:bs.length<=99000000000)(hsw:sw.length<=99000000000) :
  Y L Cs zan (some [50,49,10,8,48,3,11,13,12,4,5]) 8 (s3E ow bs sw i signals) (stM m r len bar e k bs sw) =
    Y L Cs zan (some [50,49,10,8,48,3,11,13,12,4,5]) 8 (s3E ow (bs++(zm8 m zs ss r bar e.slo len k signals ow[i]).map Prod.fst) (sw++(zn0 m zs ss r bar e.slo len k signals ow[i]).map zlJ) (i+1) signals) (stM m r len bar e k (bs++(zm8 m zs ss r bar e.slo len k signals ow[i]).map Prod.fst) (sw++(zn0 m zs ss r bar e.slo len k signals ow[i]).map zlJ)):=by
 have hw:=zB (i:=i) (by omega);have hs:=hf.vG;have hmv:R L Cs zgV [.a (zh m r len),.a (ze ow[i]),W k.tick,Bo signals] []=some (.t [.a (ze (mvF m zs ss k signals ow[i])),Bo (decide ((mvF m zs ss k signals ow[i]).lo<=(mvF m zs ss k signals ow[i]).hi))],[]):=zAU hf r len ow[i] hb k.tick signals;have hbd:=zwE h.qH zs ss k signals hb;have Cu:=zCW m r len k.ego he hn;have hix:=zoq r ow[i].lane (by have:=h.len;omega);have hbl:=hb.lane;have qV:=(zqQ h.qH hb).pos;have hlo:=hb.lo;have hhi:=hb.le;have hes:=he.s;generalize hbe:ow[i]=b at *;unfold zm8 zn0;generalize hmm:mvF m zs ss k signals b=mv at *;have hml:0<=mv.lane/\mv.lane<m.jb.length:=by rw[hbd.1];exact hbl
 have hla:=zCi h hs len e mv hml mv.lo mv.hi (by omega) (by omega) (zfP m r len k b);have hlb:=zCi h hs len e mv hml b.lo mv.hi (by omega) (by omega) (zfP m r len k b);have hA:=zjI hs r bar e.slo mv mv.lo mv.hi (zfP m r len k b);have hB:=zjI hs r bar e.slo mv b.lo mv.hi (zfP m r len k b);generalize zlZ m r bar e.slo mv mv.lo mv.hi (zfP m r len k b)=la at *;generalize zlZ m r bar e.slo mv b.lo mv.hi (zfP m r len k b)=lb at *;have h1:=zwg m r len bar e k sw b mv ow i signals (zfP m r len k b) la (by omega) la 0 bs rfl (jx _) (by omega);have h2:=zwf m r len bar e k (bs++la.map Prod.fst) b mv ow i signals lb (by omega) lb 0 sw rfl (jx _) (by omega);have w1:=kg (k.ego.shi-len);simp only[zh,zi,zch,zm,ze,zG,jk,jh]at hmv Cu hla hlb;simp only[s1E,s2E,zwh,bsC,swW,zdQ,own,zh,zi,zch,zm,ze,zG,jk,jh,ji,znQ,jv,qt,zgg,zmB,zsU]at h1 h2;by_cases c:mv.lo<=mv.hi
 ·rw[if_pos c,if_pos c];have c':decide (mv.lo<=mv.hi)=true:=by simpa using c
  rw[c']at hmv;cases hL:zgo r b.lane with
  |none =>
   have Ao:zfP m r len k b=false:=by simp[zfP,hL]
   rw[hL]at hix;simp only[zbe]at hix;rw[Ao]at hla hlb h1;rw[zj zan.eq_1];simp[s3E,stM,bsC,swW,zdQ,own,zh,zi,zch,zm,ze,zG,hi,hbe,hw,hmv,hix,hla,hlb,h1,h2,zg]
  |some j =>
   obtain⟨hjl,_⟩:=zfT hL;have hsl:j<(zW m 0 r).length:=by rw[zcO];exact hjl
   have hsi:(zW m 0 r)[j]=kS m r j:=by simp[kS,hsl]
   have hsb:=zmA h hjl;have w2:=kg (kS m r j+b.hi);have hj0:(0:Int)<=(j:Int):=by omega
   rw[hL]at hix;simp only[zbe]at hix;by_cases g:k.ego.shi-len<=k.ego.slo
   ·have g':decide (k.ego.shi-len<=k.ego.slo)=true:=by simpa using g
    rw[g']at Cu;by_cases d:kS m r j+b.hi<k.ego.shi-len
    ·have Ao:zfP m r len k b=true:=by simp[zfP,hL,g,d]
     rw[Ao]at hla hlb h1;rw[zj zan.eq_1];simp[s3E,stM,bsC,swW,zdQ,own,zh,zi,zch,zm,ze,zG,hi,hbe,hw,hmv,hix,hla,hlb,h1,h2,zg,Cu,hsl,hsi,w1,w2,d,hj0]
    ·have Ao:zfP m r len k b=false:=by simp[zfP,hL,d]
     rw[Ao]at hla hlb h1;rw[zj zan.eq_1];simp[s3E,stM,bsC,swW,zdQ,own,zh,zi,zch,zm,ze,zG,hi,hbe,hw,hmv,hix,hla,hlb,h1,h2,zg,Cu,hsl,hsi,w1,w2,d,hj0]
   ·have g':decide (k.ego.shi-len<=k.ego.slo)=false:=by simpa using g
    rw[g']at Cu;have Ao:zfP m r len k b=false:=by simp[zfP,hL,g]
    rw[Ao]at hla hlb h1;rw[zj zan.eq_1];simp[s3E,stM,bsC,swW,zdQ,own,zh,zi,zch,zm,ze,zG,hi,hbe,hw,hmv,hix,hla,hlb,h1,h2,zg,Cu,hsl,hsi,w1,w2,hj0]
 ·rw[if_neg c,if_neg c];have c':decide (mv.lo<=mv.hi)=false:=by simpa using c
  rw[c']at hmv;rw[zj zan.eq_1];simp[s3E,stM,bsC,swW,zdQ,own,zh,zi,zch,zm,ze,zG,hi,hbe,hw,hmv,zg]
theorem zoO{m:zD}(hs:zmX m)(zs:List Zon)(ss:List Sgn)(r:List Int)(bar slo len:Int)(k:zci)(signals:Bool)(b:zk):(zm8 m zs ss r bar slo len k signals b).length<=3:=by
 unfold zm8;split
 ·exact zjI hs ..
 ·simp
theorem zoN{m:zD}(hs:zmX m)(zs:List Zon)(ss:List Sgn)(r:List Int)(bar slo len:Int)(k:zci)(signals:Bool)(b:zk):(zn0 m zs ss r bar slo len k signals b).length<=3:=by
 unfold zn0;split
 ·exact zjI hs ..
 ·simp
def zgt(m:zD)(zs:List Zon)(ss:List Sgn)(r:List Int)(bar slo len:Int)(k:zci)(signals:Bool)(t:List zk):List zk:=t.flatMap fun b=>(zm8 m zs ss r bar slo len k signals b).map Prod.fst
def zhM(m:zD)(zs:List Zon)(ss:List Sgn)(r:List Int)(bar slo len:Int)(k:zci)(signals:Bool)(t:List zk):List Swp:=t.flatMap fun b=>(zn0 m zs ss r bar slo len k signals b).map zlJ
theorem zxY{m:zD}(hs:zmX m)(zs:List Zon)(ss:List Sgn)(r:List Int)(bar slo len:Int)(k:zci)(signals:Bool)(t:List zk):(zgt m zs ss r bar slo len k signals t).length<=3*t.length:=by
 induction t with
 |nil=>simp[zgt]
 |cons b t ih =>
  have:=zoO hs zs ss r bar slo len k signals b;simp only[zgt,jP,jv,qt,jl]at ih ⊢;omega
theorem zoA{m:zD}(hs:zmX m)(zs:List Zon)(ss:List Sgn)(r:List Int)(bar slo len:Int)(k:zci)(signals:Bool)(t:List zk):(zhM m zs ss r bar slo len k signals t).length<=3*t.length:=by
 induction t with
 |nil=>simp[zhM]
 |cons b t ih =>
  have:=zoN hs zs ss r bar slo len k signals b;simp only[zhM,jP,jv,qt,jl]at ih ⊢;omega
theorem zwe{m:zD}{zs:List Zon}{ss:List Sgn}(hf:zmq m zs ss){r:List Int}{bar:Int}(h:ziO m r bar)(len:Int)(hn:0<=len/\len<=20000)(e:Ego)(k:zci)(he:znd k.ego)(ow:List zk)(hvb:∀b∈ow,VB m b)(how:ow.length<=800000000)(signals:Bool):∀(t:List zk) (i:Nat) (bs:List zk) (sw:List Swp),ow.drop i=t->i<=ow.length->bs.length<=3*i->sw.length<=3*i ->
  Y L Cs zan (some [50,49,10,8,48,3,11,13,12,4,5]) 8 (s3E ow bs sw i signals) (stM m r len bar e k bs sw) =
    some (.exit 0,(51,.w (Bo false))::s3E ow (bs++zgt m zs ss r bar e.slo len k signals t) (sw++zhM m zs ss r bar e.slo len k signals t) ow.length signals,stM m r len bar e k (bs++zgt m zs ss r bar e.slo len k signals t) (sw++zhM m zs ss r bar e.slo len k signals t)):=by
 intro t;induction t with
 |nil =>
  intro i bs sw hd hi h1 h2;obtain rfl:=zUb hd hi;rw[zj zan.eq_1];simp[zgt,zhM]
 |cons b t ih =>
  intro i bs sw hd hi h1 h2;obtain⟨hil,hb,hd'⟩:=zL hd;have l1:=zoO hf.vG zs ss r bar e.slo len k signals b;have l2:=zoN hf.vG zs ss r bar e.slo len k signals b;rw[step3 hf h len hn e k he ow signals i hil (by omega) (hvb _ (jf hil)) bs sw (by omega) (by omega),hb,ih (i+1) _ _ hd' (by omega) (by simp;omega) (by simp;omega)];simp[zgt,zhM]
def zqn(r0 bar x:Int):Bool:=decide (x≠r0)||decide (0<=bar)
def zfb(m:zD)(r0 bar x:Int):List zk:=if zqn r0 bar x=true then [⟨x,0,0,0,zeR (zaK m x),0⟩] else []
theorem zqS(m:zD)(x:Int):∀(t:List zfn) (i:Nat),x∈zbK m i t<->∃j:Nat,j<t.length/\x=((i+j:Nat):Int)/\zes x 0 m.jb=[]
 |[],i=>by simp[zbK]
 |l::t,i=>by
  have ih:=zqS m x t (i+1);have step:(∃j:Nat,j<(l::t).length/\x=((i+j:Nat):Int)/\zes x 0 m.jb=[])<->(x=(i:Int)/\zes x 0 m.jb=[])\/x∈zbK m (i+1) t:=by
   rw[ih];constructor
   ·rintro⟨j,h1,h2,h3⟩;cases j with
    |zero=>exact .inl ⟨by simpa using h2,h3⟩
    |succ j=>exact .inr ⟨j,by simpa using h1,by rw[h2];congr 1;omega,h3⟩
   ·rintro(⟨h1,h2⟩ |⟨j,h1,h2,h3⟩)
    ·exact⟨0,by simp,by simpa using h1,h2⟩
    ·exact⟨j+1,by simp;omega,by rw[h2];congr 1;omega,h3⟩
  rw[step,zbK];split
  ·next hb =>
   rw[jy];constructor
   ·rintro(h|h)
    ·exact .inl ⟨h,by rw[h];exact hb⟩
    ·exact .inr h
   ·rintro(⟨h,_⟩|h)
    ·exact .inl h
    ·exact .inr h
  ·next hb =>
   constructor
   ·exact .inr
   ·rintro(⟨h,h2⟩|h)
    ·rw[h]at h2;exact absurd h2 hb
    ·exact h
abbrev srT(m:zD):List Bool:=zkj (List.replicate m.jb.length false) (zbK m 0 m.jb)
theorem zxq(m:zD):(srT m).length=m.jb.length:=by rw[srT,znN];simp
theorem zBi(m:zD)(i:Nat)(hi:i<(srT m).length):(srT m)[i]=decide (zes (i:Int) 0 m.jb=[]):=by
 have hl:i<m.jb.length:=by rw[<-zxq m];exact hi
 have h:=zqp (zbK m 0 m.jb) (List.replicate m.jb.length false) i (by simpa using hl) (fun x hx=>by
  obtain⟨j,_,h,_⟩:=(zqS m x m.jb 0).1 hx;rw[h];omega)
 have e1:(zkj (List.replicate m.jb.length false) (zbK m 0 m.jb)).getD i false=(srT m)[i]:=by
  rw[jp,jr hi];rfl
 rw[e1]at h;rw[h];have e2:(List.replicate m.jb.length false).getD i false=false:=by simp[jp,hl]
 rw[e2,qS];have:((i:Int)∈zbK m 0 m.jb)<->zes (i:Int) 0 m.jb=[]:=by
  rw[zqS];constructor
  ·rintro⟨j,_,h2,h3⟩;exact h3
  ·intro h3;exact⟨i,hl,by simp,h3⟩
 simp[this]
abbrev s4E(T:List Bool)(bs:List zk)(sw:List Swp)(i:Nat):Env:=[(12,.w (bsC 6 bs)),(147,.w (W i)),(146,.w (W T.length)),(8,.w (Pt 2)),(10,.w (Pt 4)),(13,.w (swW 7 sw)),(5,.w (Pt 1)),(145,.w (.c (.jc (zgU T)))),(11,.w (Pt 5)),(4,.w (Pt 0))]
theorem zwd{m:zD}(h:zcp m)(x0:Int)(r:List Int)(len bar:Int)(e:Ego)(k:zci)(sw:List Swp)(T:List Bool)(hl:T.length=m.jb.length)(hTT:∀(i:Nat) (h:i<T.length),T[i]=decide (zes (i:Int) 0 m.jb=[])):∀(t:List zfn) (i:Nat) (bs:List zk),m.jb.drop i=t->i<=m.jb.length->bs.length+t.length<=100000000000 ->
  Y L Cs zbd (some [12,147,146,8,10,13,5,145,11,4]) 8 (s4E T bs sw i) (stM m (x0::r) len bar e k bs sw) =
    some (.exit 6,(148,.w (Bo false))::s4E T (bs++(zbK m i t).flatMap (zfb m x0 bar)) sw T.length,stM m (x0::r) len bar e k (bs++(zbK m i t).flatMap (zfb m x0 bar)) sw):=by
 intro t;induction t with
 |nil =>
  intro i bs hd hi hb;obtain rfl:=zUb hd hi;rw[zj zbd.eq_1];simp[zbK,hl]
 |cons z t ih =>
  intro i bs hd hi hb;obtain⟨hil,hz,hd'⟩:=zL hd;simp only[jl]at hb;have hw:=zB (i:=i) (by have:=h.small.jb;omega);have hiT:i<T.length:=by rw[hl];exact hil
  have hT:=hTT i hiT;have hB:=zmo (h.kind _ (jf hil));have ek:zaK m i=m.jb[i].kind:=by simp[zaK,hil]
  have jV:(bs.length+1)*48<=140737488355328:=by omega
  have e0:(m.jb.map zo)[i]'(by simpa using hil)=zo m.jb[i]:=by simp
  rw[zbK];by_cases hbf:zes (i:Int) 0 m.jb=[]
  ·rw[if_pos hbf,jP];rw[decide_eq_true hbf]at hT;by_cases c1:(i:Int)=x0
   ·subst c1;by_cases c2:0<=bar
    ·have hs:zfb m i bar i=[⟨i,0,0,0,zeR m.jb[i].kind,0⟩]:=by simp[zfb,zqn,c2,ek]
     have:=ih (i+1) (bs++[⟨i,0,0,0,zeR m.jb[i].kind,0⟩]) hd' (by omega) (by simp;omega);rw[hs,<-jE,<-this,zj zbd.eq_1];simp[s4E,stM,bsC,swW,zdQ,own,zh,zi,zch,zm,zG,zo,ze,hl,hil,hiT,hT,hB,hw,c2,jV,zg]
    ·have hs:zfb m i bar i=[]:=by simp[zfb,zqn,c2]
     have:=ih (i+1) bs hd' (by omega) (by omega);rw[hs,jh,<-this,zj zbd.eq_1];simp[s4E,stM,bsC,swW,zdQ,own,zh,zi,zch,zm,zG,zo,ze,hl,hil,hiT,hT,hB,hw,c2,jV,zg]
   ·have hs:zfb m x0 bar i=[⟨i,0,0,0,zeR m.jb[i].kind,0⟩]:=by simp[zfb,zqn,c1,ek]
    have c1':((i:Int)==x0)=false:=by simp[c1]
    have c1'':((i:Int) !=x0)=true:=by simp[c1]
    have:=ih (i+1) (bs++[⟨i,0,0,0,zeR m.jb[i].kind,0⟩]) hd' (by omega) (by simp;omega);rw[hs,<-jE,<-this,zj zbd.eq_1];simp[s4E,stM,bsC,swW,zdQ,own,zh,zi,zch,zm,zG,zo,ze,hl,hil,hiT,hT,hB,hw,c1',c1'',jV,zg]
  ·rw[if_neg hbf];rw[decide_eq_false hbf]at hT;have:=ih (i+1) bs hd' (by omega) (by omega);rw[<-this,zj zbd.eq_1];simp[s4E,stM,bsC,swW,zdQ,own,zh,zi,zch,zm,zG,zo,ze,hl,hil,hiT,hT,hw,zg]
abbrev sN(N k:Nat):WV:=.c (.slice 0 N 6 0 k none)
abbrev cB:WV:=fn1 zdc
def swp(l:List zk)(i j:Nat):List zk:=(l.set i (l.getD j z9)).set j (l.getD i z9)
@[simp] theorem zDr(l:List zk)(i j:Nat):(swp l i j).length=l.length:=by simp[swp]
def zxj(f:FuncId)(N k:Nat)(rest:List Int)(l l':List zk):Prop:=∀v,∃v',v<=v'/\(v'=v->l'=l)/\R L Cs f (sN N k::(rest.map W++[cB])) [blk v l]=some (.t [],[blk v' l'])
theorem zrm{f:FuncId}{N k:Nat}{a b:Int}{l l':List zk}(h:zxj f N k [a,b] l l')(hl:l.length=N)(hl':l'.length=N)(v:Nat) :
  ∃v' fp,v<=v'/\(v'=v->l'=l)/\zx (R L Cs) ⟨false⟩ (fn1 f) [.c (.slice 0 N 6 0 k none),W a,W b,fn1 zdc] [some { box:=false,esz:=6,rows:=zI l,gen:=N,fz:=false,ver:=v }]=some (.t [],[some { box:=false,esz:=6,rows:=zI l',gen:=N,fz:=false,ver:=v' }],fp):=by
 obtain⟨v',h1,h2,h3⟩:=h v;simp only[blk,hl,hl',List.map,jk,jh]at h3;by_cases hv:v'=v
 ·have:=h2 hv;subst hv this;exact⟨v',.no,h1,h2,by simp[h3]⟩
 ·exact⟨v',.wr [(0,0,whole)],h1,h2,by simp[h3,hv]⟩
theorem zfi{f:FuncId}{N k:Nat}{a b c:Int}{l l':List zk}(h:zxj f N k [a,b,c] l l')(hl:l.length=N)(hl':l'.length=N)(v:Nat) :
  ∃v' fp,v<=v'/\(v'=v->l'=l)/\zx (R L Cs) ⟨false⟩ (fn1 f) [.c (.slice 0 N 6 0 k none),W a,W b,W c,fn1 zdc] [some { box:=false,esz:=6,rows:=zI l,gen:=N,fz:=false,ver:=v }]=some (.t [],[some { box:=false,esz:=6,rows:=zI l',gen:=N,fz:=false,ver:=v' }],fp):=by
 obtain⟨v',h1,h2,h3⟩:=h v;simp only[blk,hl,hl',List.map,jk,jh]at h3;by_cases hv:v'=v
 ·have:=h2 hv;subst hv this;exact⟨v',.no,h1,h2,by simp[h3]⟩
 ·exact⟨v',.wr [(0,0,whole)],h1,h2,by simp[h3,hv]⟩
def swR(a b:Nat):Nat->Nat->List zk->List zk
 |_,0,l=>l
 |i,m+1,l=>swR a b (i+1) m (swp l (a+i) (b+i))
@[simp] theorem zBg(a b:Nat):∀(m i:Nat) (l:List zk),(swR a b i m l).length=l.length
  |0,_,_=>rfl
  |m+1,i,l=>by rw[swR,zBg a b m];simp
theorem zv8(N k a b n:Nat)(hk:k<=N)(hN:N<=900000000000)(ha:a+n<=k)(hb:b+n<=k):∀(m i:Nat) (l:List zk) (v:Nat),i+m=n->l.length=N->∃v',v<=v'/\(v'=v->swR a b i m l=l) /\
  Y L Cs zbo (some [10,3,2,0,1]) 1 [(10,.w (W i)),(3,.w (W n)),(2,.w (W b)),(0,.w (sN N k)),(1,.w (W a))] [some { box:=false,esz:=6,rows:=zI l,gen:=N,fz:=false,ver:=v }] =
    some (.exit 0,[(13,.w (Bo false)),(10,.w (W n)),(3,.w (W n)),(2,.w (W b)),(0,.w (sN N k)),(1,.w (W a))],[some { box:=false,esz:=6,rows:=zI (swR a b i m l),gen:=N,fz:=false,ver:=v' }]):=by
 intro m;induction m with
 |zero =>
  intro i l v hi hl;have:i=n:=by omega
  subst this;refine⟨v,jm _,fun _=>rfl,?_⟩;rw[zj zbo.eq_1];simp[swR]
 |succ m ih =>
  intro i l v hi hl;obtain⟨v',h1,h2,h3⟩:=ih (i+1) (swp l (a+i) (b+i)) (v+1+1) (by omega) (by simp[hl]);refine⟨v',by omega,fun hv=>by omega,?_⟩;rw[swR,<-h3,zj zbo.eq_1];have hw:=zB (i:=i) (by omega);have hwa:IntKind.i64.wrap ((a:Int)+(i:Int))=((a+i:Nat):Int):=by rw[zTd _ (by omega) (by omega)];omega
  have hwb:IntKind.i64.wrap ((b:Int)+(i:Int))=((b+i:Nat):Int):=by rw[zTd _ (by omega) (by omega)];omega
  have a1:a+i<k:=by omega
  have a2:b+i<k:=by omega
  have a3:a+i<N:=by omega
  have a4:b+i<N:=by omega
  have a5:a+i<l.length:=by omega
  have a6:b+i<l.length:=by omega
  have hin:i<n:=by omega
  have hs1:=zeg l (a+i) l[b+i];have hs2:=zeg (l.set (a+i) l[b+i]) (b+i) l[a+i];have hsw:swp l (a+i) (b+i)=(l.set (a+i) l[b+i]).set (b+i) l[a+i]:=by simp[swp,a5,a6]
  have e1:(((a+i:Nat):Int)).toNat=a+i:=by omega
  have e2:(((b+i:Nat):Int)).toNat=b+i:=by omega
  simp only[ze]at hs1 hs2;clear ih h3 h1 h2;simp[hin,hw,hwa,hwb,a1,a2,a3,a4,a5,a6,hl,hs1,hs2,hsw,ze,e1,e2,zy3,-Int.natCast_add]
theorem zmn(N k a b n:Nat)(hk:k<=N)(hN:N<=900000000000)(ha:a+n<=k)(hb:b+n<=k)(l:List zk)(hl:l.length=N):zxj zg5 N k [(a:Int),(b:Int),(n:Int)] l (swR a b 0 n l):=by
 intro v;obtain⟨v',h1,h2,h3⟩:=zv8 N k a b n hk hN ha hb n 0 l v (by omega) hl;refine⟨v',h1,h2,?_⟩;simp only[ji]at h3;rw[zUa zhc rfl];simp[zcH,h3,hl,blk]
def zkm(m:Nat):Nat->Nat->Nat->List zk->Nat×List zk
 |0,i,j,l=>(i,l)
 |f+1,i,j,l=>if i=j then(i,l) else if j<i then zkm m f (i-j) j (swR (m-i) m 0 j l) else zkm m f i (j-i) (swR (m-i) (m+j-i) 0 i l)
theorem znR(m:Nat):∀(f i j:Nat) (l:List zk),(zkm m f i j l).2.length=l.length/\(0<i->0<j->i+j<=f->0<(zkm m f i j l).1/\(zkm m f i j l).1<=i/\(zkm m f i j l).1<=j)
 |0,i,j,l=>⟨rfl,fun _ _ _=>by omega⟩
 |f+1,i,j,l=>by
  rw[zkm];split
  ·exact⟨rfl,fun _ _ _=>by dsimp;omega⟩
  ·split
   ·obtain⟨h1,h2⟩:=znR m f (i-j) j (swR (m-i) m 0 j l);exact⟨by rw[h1];simp,fun a b c=>by have:=h2 (by omega) b (by omega);omega⟩
   ·obtain⟨h1,h2⟩:=znR m f i (j-i) (swR (m-i) (m+j-i) 0 i l);exact⟨by rw[h1];simp,fun a b c=>by have:=h2 a (by omega) (by omega);omega⟩
theorem zzB(N k m:Nat)(hk:k<=N)(hN:N<=900000000000):∀(f i j:Nat) (l:List zk) (v:Nat),i+j<=f->0<i->0<j->i<=m->m+j<=k->l.length=N->∃v' j',v<=v'/\(v'=v->(zkm m f i j l).2=l) /\
  Y L Cs zbc (some [10,0,2,4,11]) 1 [(10,.w (W i)),(0,.w (sN N k)),(2,.w (W m)),(4,.w cB),(11,.w (W j))] [some { box:=false,esz:=6,rows:=zI l,gen:=N,fz:=false,ver:=v }] =
    some (.exit 0,[(20,.w (Bo false)),(10,.w (W (zkm m f i j l).1)),(0,.w (sN N k)),(2,.w (W m)),(4,.w cB),(11,.w (W j'))],[some { box:=false,esz:=6,rows:=zI (zkm m f i j l).2,gen:=N,fz:=false,ver:=v' }]):=by
 intro f;induction f with
 |zero=>intro i j l v h1 h2;omega
 |succ f ih =>
  intro i j l v hf hi hj him hmj hl;rw[zkm];by_cases c:i=j
  ·subst c;refine⟨v,i,jm _,fun _=>by rw[if_pos rfl],?_⟩;rw[if_pos rfl,zj zbc.eq_1];simp
  ·rw[if_neg c];have hne:((i:Int) !=(j:Int))=true:=by simp;omega
   have hne2:((i:Int)==(j:Int))=false:=by simp;omega
   have hw1:IntKind.i64.wrap ((m:Int)-(i:Int))=((m-i:Nat):Int):=by rw[zTd _ (by omega) (by omega)];omega
   by_cases c2:j<i
   ·rw[if_pos c2];have hd:=zmn N k (m-i) m j hk hN (by omega) (by omega) l hl;obtain⟨v1,fp,q1,q2,q3⟩:=zfi hd hl (by simp[hl]) v;obtain⟨v',j',h1,h2,h3⟩:=ih (i-j) j (swR (m-i) m 0 j l) v1 (by omega) (by omega) hj (by omega) hmj (by simp[hl]);refine⟨v',j',by omega,fun hv=>by rw[h2 (by omega),q2 (by omega)],?_⟩;rw[<-h3,zj zbc.eq_1];have hw2:IntKind.i64.wrap ((i:Int)-(j:Int))=((i-j:Nat):Int):=by rw[zTd _ (by omega) (by omega)];omega
    have hc:(j:Int)<(i:Int):=by omega
    clear ih h3 hd;simp[hne,hne2,c,c2,hc,hw1,hw2,q3,-zx]
   ·rw[if_neg c2];have hd:=zmn N k (m-i) (m+j-i) i hk hN (by omega) (by omega) l hl;obtain⟨v1,fp,q1,q2,q3⟩:=zfi hd hl (by simp[hl]) v;obtain⟨v',j',h1,h2,h3⟩:=ih i (j-i) (swR (m-i) (m+j-i) 0 i l) v1 (by omega) hi (by omega) him (by omega) (by simp[hl]);refine⟨v',j',by omega,fun hv=>by rw[h2 (by omega),q2 (by omega)],?_⟩;rw[<-h3,zj zbc.eq_1];have hw2:IntKind.i64.wrap ((j:Int)-(i:Int))=((j-i:Nat):Int):=by rw[zTd _ (by omega) (by omega)];omega
    have hw3:IntKind.i64.wrap ((m:Int)+(j:Int))=((m+j:Nat):Int):=by rw[zTd _ (by omega) (by omega)];omega
    have hw4:IntKind.i64.wrap (((m+j:Nat):Int)-(i:Int))=((m+j-i:Nat):Int):=by rw[zTd _ (by omega) (by omega)];omega
    have hc:¬(j:Int)<(i:Int):=by omega
    clear ih h3 hd;simp[hne,hne2,c,c2,hc,hw1,hw2,hw3,hw4,q3,-zx,-Int.natCast_add]
def ztB(a m b:Nat)(l:List zk):List zk:=swR (m-(zkm m (b-a) (m-a) (b-m) l).1) m 0 (zkm m (b-a) (m-a) (b-m) l).1 (zkm m (b-a) (m-a) (b-m) l).2
@[simp] theorem zDj(a m b:Nat)(l:List zk):(ztB a m b l).length=l.length:=by simp[ztB,(znR m _ _ _ l).1]
theorem zAQ(N k a m b:Nat)(hk:k<=N)(hN:N<=900000000000)(ha:a<m)(hm:m<b)(hb:b<=k)(l:List zk)(hl:l.length=N):zxj ze4 N k [(a:Int),(m:Int),(b:Int)] l (ztB a m b l):=by
 intro v;obtain⟨v1,j',h1,h2,h3⟩:=zzB N k m hk hN (b-a) (m-a) (b-m) l v (by omega) (by omega) (by omega) (by omega) (by omega) hl;obtain⟨g1,g2⟩:=znR m (b-a) (m-a) (b-m) l;have g3:=g2 (by omega) (by omega) (by omega);unfold ztB;generalize zkm m (b-a) (m-a) (b-m) l=q at *;obtain⟨i,l1⟩:=q;dsimp only at *;have hd:=zmn N k (m-i) m i hk hN (by omega) (by omega) l1 (by omega);obtain⟨v2,fp,q1,q2,q3⟩:=zfi hd (by omega) (by simp;omega) v1;refine⟨v2,by omega,fun hv=>by rw[q2 (by omega),h2 (by omega)],?_⟩;rw[zUa zh9 rfl];have hw1:IntKind.i64.wrap ((m:Int)-(a:Int))=((m-a:Nat):Int):=by rw[zTd _ (by omega) (by omega)];omega
 have hw2:IntKind.i64.wrap ((b:Int)-(m:Int))=((b-m:Nat):Int):=by rw[zTd _ (by omega) (by omega)];omega
 have hw3:IntKind.i64.wrap ((m:Int)-(i:Int))=((m-i:Nat):Int):=by rw[zTd _ (by omega) (by omega)];omega
 simp[zdk,h3,hl,blk,g1,hw1,hw2,hw3,q3,-zx]
def bsF(p:Nat->Bool):Nat->Nat->Nat->Nat
 |0,i,_=>i
 |f+1,i,j=>if i<j then(if p ((i+j) / 2) then bsF p f ((i+j) / 2+1) j else bsF p f i ((i+j) / 2)) else i
theorem zju(p:Nat->Bool):∀(f i j:Nat),i<=j->i<=bsF p f i j/\bsF p f i j<=j
 |0,i,j,h=>⟨jm _,h⟩
 |f+1,i,j,h=>by
  rw[bsF];split
  ·split
   ·have:=zju p f ((i+j) / 2+1) j (by omega);omega
   ·have:=zju p f i ((i+j) / 2) (by omega);omega
  ·omega
theorem ztp(n:Nat)(h:n<4000000000000):IntKind.u64.wrap (n:Int)=(n:Int):=by
 simp[IntKind.wrap,IntKind.signed,IntKind.bits];omega
theorem zqe(n:Nat):Int.fdiv (n:Int) (2 ^ min 1 IntKind.u64.bits)=((n / 2:Nat):Int):=by
 show Int.fdiv (n:Int) 2=_;rw[Int.fdiv_eq_ediv_of_nonneg _ (by omega)];omega
theorem zqd(n:Nat)(h:n<4000000000000):IntKind.i64.wrap (n:Int)=(n:Int):=zTd _ (by omega) (by omega)
def pA(l:List zk)(a h:Nat):Bool:=decide (ziK (l.getD h z9) (l.getD a z9)<0)
def pB(l:List zk)(m h:Nat):Bool:=!decide (ziK (l.getD m z9) (l.getD h z9)<0)
def pC(l:List zk)(p c:Nat):Bool:=!decide (ziK (l.getD (p-c) z9) (l.getD c z9)<0)
theorem zxW(N k a:Nat)(hk:k<=N)(hN:N<=900000000000)(ha:a<k)(l:List zk)(hl:l.length=N)(v:Nat):∀(f i j:Nat),j-i<=f->i<=j->j<=k ->
  Y L Cs zaC (some [10,11,4,0,1]) 1 [(10,.w (W i)),(11,.w (W j)),(4,.w cB),(0,.w (sN N k)),(1,.w (W a))] [some { box:=false,esz:=6,rows:=zI l,gen:=N,fz:=false,ver:=v }] =
    some (.exit 0,[(33,.w (Bo false)),(10,.w (W (bsF (pA l a) f i j))),(11,.w (W (bsF (pA l a) f i j))),(4,.w cB),(0,.w (sN N k)),(1,.w (W a))],[some { box:=false,esz:=6,rows:=zI l,gen:=N,fz:=false,ver:=v }]):=by
 intro f;induction f with
 |zero =>
  intro i j hf hi hj;have:i=j:=by omega
  subst this;rw[bsF,zj zaC.eq_1];simp
 |succ f ih =>
  intro i j hf hi hj;rw[bsF];by_cases c:i<j
  ·rw[if_pos c];have hw1:IntKind.i64.wrap ((i:Int)+(j:Int))=((i+j:Nat):Int):=by rw[zTd _ (by omega) (by omega)];omega
   have hu:=ztp (i+j) (by omega);have hh:=zqe (i+j);generalize hhh:(i+j) / 2=h at *;have hi1:=zqd h (by omega);have hks:h<k:=by omega
   have hNs:h<N:=by omega
   have hls:h<l.length:=by omega
   have haN:a<N:=by omega
   have hal:a<l.length:=by omega
   have hc:=zop l[h] l[a];have hwh:=zB (i:=h) (by omega);have hp:pA l a h=decide (ziK l[h] l[a]<0):=by simp[pA,hls,hal]
   rw[hp];simp only[ze]at hc;by_cases q:ziK l[h] l[a]<0
   ·rw[if_pos (by simpa using q),<-ih (h+1) j (by omega) (by omega) hj,zj zaC.eq_1];clear ih;simp[c,hw1,hu,hh,hi1,hks,hNs,hls,haN,hal,hc,q,hwh,hl,ha,ze,-Int.natCast_add]
   ·rw[if_neg (by simpa using q),<-ih i h (by omega) (by omega) (by omega),zj zaC.eq_1];clear ih;simp[c,hw1,hu,hh,hi1,hks,hNs,hls,haN,hal,hc,q,hwh,hl,ha,ze,-Int.natCast_add]
  ·rw[if_neg c];have:i=j:=by omega
   subst this;rw[zj zaC.eq_1];simp
theorem zxU(N k m:Nat)(hk:k<=N)(hN:N<=900000000000)(ha:m<k)(l:List zk)(hl:l.length=N)(v:Nat):∀(f i j:Nat),j-i<=f->i<=j->j<=k ->
  Y L Cs zaB (some [14,15,4,2,0]) 1 [(14,.w (W i)),(15,.w (W j)),(4,.w cB),(2,.w (W m)),(0,.w (sN N k))] [some { box:=false,esz:=6,rows:=zI l,gen:=N,fz:=false,ver:=v }] =
    some (.exit 4,[(85,.w (Bo false)),(14,.w (W (bsF (pB l m) f i j))),(15,.w (W (bsF (pB l m) f i j))),(4,.w cB),(2,.w (W m)),(0,.w (sN N k))],[some { box:=false,esz:=6,rows:=zI l,gen:=N,fz:=false,ver:=v }]):=by
 intro f;induction f with
 |zero =>
  intro i j hf hi hj;have:i=j:=by omega
  subst this;rw[bsF,zj zaB.eq_1];simp
 |succ f ih =>
  intro i j hf hi hj;rw[bsF];by_cases c:i<j
  ·rw[if_pos c];have hw1:IntKind.i64.wrap ((i:Int)+(j:Int))=((i+j:Nat):Int):=by rw[zTd _ (by omega) (by omega)];omega
   have hu:=ztp (i+j) (by omega);have hh:=zqe (i+j);generalize hhh:(i+j) / 2=h at *;have hi1:=zqd h (by omega);have hks:h<k:=by omega
   have hNs:h<N:=by omega
   have hls:h<l.length:=by omega
   have haN:m<N:=by omega
   have hal:m<l.length:=by omega
   have hc:=zop l[m] l[h];have hwh:=zB (i:=h) (by omega);have hp:pB l m h = !decide (ziK l[m] l[h]<0):=by simp[pB,hls,hal]
   rw[hp];simp only[ze]at hc;by_cases q:ziK l[m] l[h]<0
   ·rw[if_neg (by simpa using q),<-ih i h (by omega) (by omega) (by omega),zj zaB.eq_1];clear ih;simp[c,hw1,hu,hh,hi1,hks,hNs,hls,haN,hal,hc,q,hwh,hl,ha,ze,-Int.natCast_add]
   ·rw[if_pos (by simpa using q),<-ih (h+1) j (by omega) (by omega) hj,zj zaB.eq_1];clear ih;simp[c,hw1,hu,hh,hi1,hks,hNs,hls,haN,hal,hc,q,hwh,hl,ha,ze,-Int.natCast_add]
  ·rw[if_neg c];have:i=j:=by omega
   subst this;rw[zj zaB.eq_1];simp
abbrev e5(b mid a m n p:Nat)(N k i j:Nat):Env:=[(20,.w (W i)),(3,.w (W b)),(18,.w (W mid)),(1,.w (W a)),(2,.w (W m)),(19,.w (W n)),(21,.w (W j)),(4,.w cB),(22,.w (W p)),(0,.w (sN N k))]
theorem zxS(N k b mid a m n p:Nat)(hk:k<=N)(hN:N<=900000000000)(hp1:p<=2000000000000)(l:List zk)(hl:l.length=N)(v:Nat):∀(f i j:Nat),j-i<=f->i<=j->j<=k->j<=p+1->p<k+i ->
  Y L Cs zaA (some [20,3,18,1,2,19,21,4,22,0]) 1 (e5 b mid a m n p N k i j) [some { box:=false,esz:=6,rows:=zI l,gen:=N,fz:=false,ver:=v }] =
    some (.exit 8,(151,.w (Bo false))::e5 b mid a m n p N k (bsF (pC l p) f i j) (bsF (pC l p) f i j),[some { box:=false,esz:=6,rows:=zI l,gen:=N,fz:=false,ver:=v }]):=by
 intro f;induction f with
 |zero =>
  intro i j hf hi hj hjp hpi;have:i=j:=by omega
  subst this;rw[bsF,zj zaA.eq_1];simp
 |succ f ih =>
  intro i j hf hi hj hjp hpi;rw[bsF];by_cases c:i<j
  ·rw[if_pos c];have hw1:IntKind.i64.wrap ((i:Int)+(j:Int))=((i+j:Nat):Int):=by rw[zTd _ (by omega) (by omega)];omega
   have hu:=ztp (i+j) (by omega);have hh:=zqe (i+j);generalize hhh:(i+j) / 2=h at *;have hi1:=zqd h (by omega);have hks:h<k:=by omega
   have hNs:h<N:=by omega
   have hls:h<l.length:=by omega
   have hw2:IntKind.i64.wrap ((p:Int)-(h:Int))=((p-h:Nat):Int):=by rw[zTd _ (by omega) (by omega)];omega
   have hkp:p-h<k:=by omega
   have hNp:p-h<N:=by omega
   have hlp:p-h<l.length:=by omega
   have hc:=zop l[p-h] l[h];have hwh:=zB (i:=h) (by omega);have hp:pC l p h = !decide (ziK l[p-h] l[h]<0):=by simp[pC,hls,hlp]
   rw[hp];simp only[ze]at hc;by_cases q:ziK l[p-h] l[h]<0
   ·rw[if_neg (by simpa using q),<-ih i h (by omega) (by omega) (by omega) (by omega) (by omega),zj zaA.eq_1];clear ih;simp[c,hw1,hu,hh,hi1,hks,hNs,hls,hw2,hkp,hNp,hlp,hc,q,hwh,hl,ze,-Int.natCast_add]
   ·rw[if_pos (by simpa using q),<-ih (h+1) j (by omega) (by omega) hj (by omega) (by omega),zj zaA.eq_1];clear ih;simp[c,hw1,hu,hh,hi1,hks,hNs,hls,hw2,hkp,hNp,hlp,hc,q,hwh,hl,ze,-Int.natCast_add]
  ·rw[if_neg c];have:i=j:=by omega
   subst this;rw[zj zaA.eq_1];simp
def upF:Nat->Nat->List zk->List zk
 |_,0,l=>l
 |k,c+1,l=>upF (k+1) c (swp l k (k+1))
def dnF:Nat->Nat->List zk->List zk
 |_,0,l=>l
 |k,c+1,l=>dnF (k-1) c (swp l k (k-1))
@[simp] theorem zBf:∀(c k:Nat) (l:List zk),(upF k c l).length=l.length
  |0,_,_=>rfl
  |c+1,k,l=>by rw[upF,zBf c];simp
@[simp] theorem zBN:∀(c k:Nat) (l:List zk),(dnF k c l).length=l.length
  |0,_,_=>rfl
  |c+1,k,l=>by rw[dnF,zBN c];simp
theorem zxV(N k i:Nat)(hk:k<=N)(hN:N<=900000000000)(hi0:0<i)(hi:i<=k):∀(c q:Nat) (l:List zk) (v:Nat),q+c=i-1->l.length=N->∃v',v<=v'/\(v'=v->upF q c l=l) /\
  Y L Cs zbv (some [13,10,0]) 1 [(13,.w (W q)),(10,.w (W i)),(0,.w (sN N k))] [some { box:=false,esz:=6,rows:=zI l,gen:=N,fz:=false,ver:=v }] =
    some (.exit 2,[(58,.w (Bo false)),(13,.w (W ((i-1:Nat):Int))),(10,.w (W i)),(0,.w (sN N k))],[some { box:=false,esz:=6,rows:=zI (upF q c l),gen:=N,fz:=false,ver:=v' }]):=by
 intro c;have hw0:IntKind.i64.wrap ((i:Int)-1)=((i-1:Nat):Int):=by rw[zTd _ (by omega) (by omega)];omega
 induction c with
 |zero =>
  intro q l v hq hl;have:q=i-1:=by omega
  subst this;refine⟨v,jm _,fun _=>rfl,?_⟩;rw[zj zbv.eq_1];simp[upF,hw0]
 |succ c ih =>
  intro q l v hq hl;obtain⟨v',h1,h2,h3⟩:=ih (q+1) (swp l q (q+1)) (v+1+1) (by omega) (by simp[hl]);refine⟨v',by omega,fun hv=>by omega,?_⟩;rw[upF,<-h3,zj zbv.eq_1];have hw:=zB (i:=q) (by omega);have a1:q<k:=by omega
  have a2:q+1<k:=by omega
  have a3:q<N:=by omega
  have a4:q+1<N:=by omega
  have a5:q<l.length:=by omega
  have a6:q+1<l.length:=by omega
  have hin:q<i-1:=by omega
  have hs1:=zeg l q l[q+1];have hs2:=zeg (l.set q l[q+1]) (q+1) l[q];have hsw:swp l q (q+1)=(l.set q l[q+1]).set (q+1) l[q]:=by simp[swp,a5,a6]
  have e2:(((q+1:Nat):Int)).toNat=q+1:=by omega
  simp only[ze]at hs1 hs2;clear ih h3 h1 h2;simp[hin,hw,hw0,a1,a2,a3,a4,a5,a6,hl,hs1,hs2,hsw,ze,e2,-Int.natCast_add]
theorem zxT(N k i:Nat)(hk:k<=N)(hN:N<=900000000000):∀(c q:Nat) (l:List zk) (v:Nat),i+c=q->q<k->l.length=N->∃v',v<=v'/\(v'=v->dnF q c l=l) /\
  Y L Cs zbu (some [17,14,0]) 1 [(17,.w (W q)),(14,.w (W i)),(0,.w (sN N k))] [some { box:=false,esz:=6,rows:=zI l,gen:=N,fz:=false,ver:=v }] =
    some (.exit 6,[(110,.w (Bo false)),(17,.w (W i)),(14,.w (W i)),(0,.w (sN N k))],[some { box:=false,esz:=6,rows:=zI (dnF q c l),gen:=N,fz:=false,ver:=v' }]):=by
 intro c;induction c with
 |zero =>
  intro q l v hq hqk hl;have:q=i:=by omega
  subst this;refine⟨v,jm _,fun _=>rfl,?_⟩;rw[zj zbu.eq_1];simp[dnF]
 |succ c ih =>
  intro q l v hq hqk hl;obtain⟨q,rfl⟩:∃r,q=r+1:=⟨q-1,by omega⟩;obtain⟨v',h1,h2,h3⟩:=ih q (swp l (q+1) q) (v+1+1) (by omega) (by omega) (by simp[hl]);refine⟨v',by omega,fun hv=>by omega,?_⟩;rw[dnF,yj,<-h3,zj zbu.eq_1];have hw:IntKind.i64.wrap (((q+1:Nat):Int)-1)=(q:Int):=by rw[zTd _ (by omega) (by omega)];omega
  have a1:q<k:=by omega
  have a2:q+1<k:=by omega
  have a3:q<N:=by omega
  have a4:q+1<N:=by omega
  have a5:q<l.length:=by omega
  have a6:q+1<l.length:=by omega
  have hin:i<q+1:=by omega
  have hs1:=zeg l (q+1) l[q];have hs2:=zeg (l.set (q+1) l[q]) q l[q+1];have hsw:swp l (q+1) q=(l.set (q+1) l[q]).set q l[q+1]:=by simp[swp,a5,a6]
  have e2:(((q+1:Nat):Int)).toNat=q+1:=by omega
  simp only[ze]at hs1 hs2;clear ih h3 h1 h2;simp[hin,hw,a1,a2,a3,a4,a5,a6,hl,hs1,hs2,hsw,ze,e2,-Int.natCast_add]
def zbS(a b:Nat):Nat:=(a+b) / 2
def loS(a m b:Nat):Nat:=if zbS a b<m then zbS a b+m-b else a
def hiS(a m b:Nat):Nat:=if zbS a b<m then zbS a b else m
def stS(a m b:Nat)(l:List zk):Nat:=bsF (pC l (zbS a b+m-1)) (hiS a m b-loS a m b) (loS a m b) (hiS a m b)
def enS(a m b:Nat)(l:List zk):Nat:=zbS a b+m-stS a m b l
def zjz(a m b:Nat)(l:List zk):List zk:=if stS a m b l<m/\m<enS a m b l then ztB (stS a m b l) m (enS a m b l) l else l
def zlI:Nat->Nat->Nat->Nat->List zk->List zk
 |0,_,_,_,l=>l
 |f+1,a,m,b,l =>
  if m-a=1 then upF a (bsF (pA l a) (b-m) m b-1-a) l
  else if b-m=1 then dnF m (m-bsF (pB l m) (m-a) a m) l
  else
   let l2:=if a<stS a m b l/\stS a m b l<zbS a b then zlI f a (stS a m b l) (zbS a b) (zjz a m b l) else zjz a m b l
   if zbS a b<enS a m b l/\enS a m b l<b then zlI f (zbS a b) (enS a m b l) b l2 else l2
@[simp] theorem zC6(a m b:Nat)(l:List zk):(zjz a m b l).length=l.length:=by unfold zjz;split<;>simp
@[simp] theorem zzn:∀(f a m b:Nat) (l:List zk),(zlI f a m b l).length=l.length
  |0,_,_,_,_=>rfl
  |f+1,a,m,b,l=>by
   rw[zlI];split
   ·simp
   ·split
    ·simp
    ·dsimp only;split<;>split<;>simp[zzn f]
structure Bd(a m b:Nat)(l:List zk):Prop where
 lo:loS a m b<=hiS a m b
 st:loS a m b<=stS a m b l/\stS a m b l<=hiS a m b
 hi:hiS a m b<=m/\a<=loS a m b
 en:m<=enS a m b l/\enS a m b l<=b
 mid:a<zbS a b/\zbS a b<b
 p:hiS a m b<=zbS a b+m-1+1/\zbS a b+m-1<b+loS a m b
 sm:loS a m b<4000000000000
theorem zDk{a m b:Nat}(h1:a<m)(h2:m<b)(hb:b<=900000000000)(l:List zk):Bd a m b l:=by
 have hm:zbS a b=(a+b) / 2:=rfl;have hlo:loS a m b<=hiS a m b:=by unfold loS hiS;split<;>omega
 have hst:=zju (pC l (zbS a b+m-1)) (hiS a m b-loS a m b) (loS a m b) (hiS a m b) hlo;have BW:loS a m b<=stS a m b l/\stS a m b l<=hiS a m b:=hst;have hen:enS a m b l=zbS a b+m-stS a m b l:=rfl;have e1:hiS a m b<=m/\a<=loS a m b/\loS a m b<4000000000000:=by unfold loS hiS;split<;>omega
 have e2:hiS a m b<=zbS a b+m-1+1/\zbS a b+m-1<b+loS a m b:=by unfold loS hiS;split<;>omega
 have e3:m<=zbS a b+m-stS a m b l/\zbS a b+m-stS a m b l<=b:=by
  have h3:=BW.1;have h4:=BW.2;by_cases c:zbS a b<m
  ·simp only[loS,if_pos c]at h3;simp only[hiS,if_pos c]at h4;omega
  ·simp only[loS,if_neg c]at h3;simp only[hiS,if_neg c]at h4;omega
 exact⟨hlo,BW,⟨e1.1,e1.2.1⟩,by rw[hen];exact e3,by omega,e2,e1.2.2⟩
theorem Ci{P Q C A B:Prop}(h:P/\Q->C)(h':¬(P/\Q)->A/\B):(P/\Q/\C)\/(P/\¬Q/\A/\B/\True)\/(¬P/\True/\A/\B/\True):=by
 by_cases p:P
 ·by_cases q:Q
  ·exact .inl ⟨p,q,h ⟨p,q⟩⟩
  ·have:=h' fun x=>q x.2
   exact .inr (.inl ⟨p,q,this.1,this.2,trivial⟩)
 ·have:=h' fun x=>p x.1
  exact .inr (.inr ⟨p,trivial,this.1,this.2,trivial⟩)
theorem zrM(N k:Nat)(hk:k<=N)(hN:N<=900000000000):∀(f a m b:Nat) (l:List zk),b-a<=f->a<m->m<b->b<=k->l.length=N->zxj zcQ N k [(a:Int),(m:Int),(b:Int)] l (zlI f a m b l):=by
 intro f;induction f with
 |zero=>intro a m b l h1 h2 h3;omega
 |succ f ih =>
  intro a m b l hf ham hmb hbk hl v;have w1:IntKind.i64.wrap ((m:Int)-(a:Int))=((m-a:Nat):Int):=by rw[zTd _ (by omega) (by omega)];omega
  have w2:IntKind.i64.wrap ((b:Int)-(m:Int))=((b-m:Nat):Int):=by rw[zTd _ (by omega) (by omega)];omega
  rw[zlI];by_cases c1:m-a=1
  ·rw[if_pos c1];have h1:=zxW N k a hk hN (by omega) l hl v (b-m) m b (jm _) (by omega) hbk;have hb:=zju (pA l a) (b-m) m b (by omega);obtain⟨v',g1,g2,h2⟩:=zxV N k (bsF (pA l a) (b-m) m b) hk hN (by omega) (by omega) (bsF (pA l a) (b-m) m b-1-a) a l v (by omega) hl;refine⟨v',g1,g2,?_⟩;generalize bsF (pA l a) (b-m) m b=i at *;rw[zUa zcU rfl];have c1':((m-a:Nat):Int)=1:=by omega
   simp[zc,w1,c1,h1,h2,blk,hl]
  ·rw[if_neg c1];have c1':(((m-a:Nat):Int)==1)=false:=by simp;omega
   by_cases c2:b-m=1
   ·rw[if_pos c2];have h1:=zxU N k m hk hN (by omega) l hl v (m-a) a m (jm _) (by omega) (by omega);have hb:=zju (pB l m) (m-a) a m (by omega);obtain⟨v',g1,g2,h2⟩:=zxT N k (bsF (pB l m) (m-a) a m) hk hN (m-bsF (pB l m) (m-a) a m) m l v (by omega) (by omega) hl;refine⟨v',g1,g2,?_⟩;generalize bsF (pB l m) (m-a) a m=i at *;rw[zUa zcU rfl];simp[zc,w1,w2,c1',c2,h1,h2,blk,hl]
   ·rw[if_neg c2];have c2':(((b-m:Nat):Int)==1)=false:=by simp;omega
    have bd:=zDk ham hmb (by omega) l;have hL:=zxS N k b (zbS a b) a m (zbS a b+m) (zbS a b+m-1) hk hN (by have:=bd.mid;omega) l hl v (hiS a m b-loS a m b) (loS a m b) (hiS a m b) (jm _) bd.lo (by have:=bd.hi;omega) bd.p.1 (by have:=bd.p.2;omega);have eS:bsF (pC l (zbS a b+m-1)) (hiS a m b-loS a m b) (loS a m b) (hiS a m b)=stS a m b l:=rfl;rw[eS]at hL;have hen:enS a m b l=zbS a b+m-stS a m b l:=rfl;have b1:=bd.st;have b2:=bd.hi;have b3:=bd.en;have b4:=bd.mid;have hT:∃v1 fp1,v<=v1/\(v1=v->zjz a m b l=l)/\(stS a m b l<m/\m<enS a m b l->zx (R L Cs) ⟨false⟩ (fn1 ze4) [.c (.slice 0 N 6 0 k none),W (stS a m b l),W m,W (enS a m b l),fn1 zdc] [some { box:=false,esz:=6,rows:=zI l,gen:=N,fz:=false,ver:=v }]=some (.t [],[some { box:=false,esz:=6,rows:=zI (zjz a m b l),gen:=N,fz:=false,ver:=v1 }],fp1))/\(¬(stS a m b l<m/\m<enS a m b l)->zjz a m b l=l/\v1=v):=by
     by_cases c:stS a m b l<m/\m<enS a m b l
     ·have e:zjz a m b l=ztB (stS a m b l) m (enS a m b l) l:=by rw[zjz,if_pos c]
      have hd:=zAQ N k (stS a m b l) m (enS a m b l) hk hN c.1 c.2 (by omega) l hl;rw[<-e]at hd;obtain⟨v1,fp,q1,q2,q3⟩:=zfi hd hl (by simp[hl]) v;exact⟨v1,fp,q1,q2,fun _=>q3,fun h=>absurd c h⟩
     ·have e:zjz a m b l=l:=by rw[zjz,if_neg c]
      exact⟨v,.no,jm _,fun _=>e,fun h=>absurd h c,fun _=>⟨e,rfl⟩⟩
    obtain⟨v1,fp1,t1,t2,t3,t4⟩:=hT;generalize hl1:zjz a m b l=l1 at *;have hl1n:l1.length=N:=by rw[<-hl1];simp[hl]
    dsimp only;generalize hl2:(if a<stS a m b l/\stS a m b l<zbS a b then zlI f a (stS a m b l) (zbS a b) l1 else l1)=l2;have hl2n:l2.length=N:=by rw[<-hl2];split<;>simp[hl1n]
    have hA:∃v2 fp2,v1<=v2/\(v2=v1->l2=l1)/\(a<stS a m b l/\stS a m b l<zbS a b->zx (R L Cs) ⟨false⟩ (fn1 zcQ) [.c (.slice 0 N 6 0 k none),W a,W (stS a m b l),W (zbS a b),fn1 zdc] [some { box:=false,esz:=6,rows:=zI l1,gen:=N,fz:=false,ver:=v1 }]=some (.t [],[some { box:=false,esz:=6,rows:=zI l2,gen:=N,fz:=false,ver:=v2 }],fp2))/\(¬(a<stS a m b l/\stS a m b l<zbS a b)->l2=l1/\v2=v1):=by
     by_cases c:a<stS a m b l/\stS a m b l<zbS a b
     ·rw[if_pos c]at hl2;have hd:=ih a (stS a m b l) (zbS a b) l1 (by omega) c.1 c.2 (by omega) hl1n;rw[hl2]at hd;obtain⟨v2,fp,q1,q2,q3⟩:=zfi hd hl1n hl2n v1;exact⟨v2,fp,q1,q2,fun _=>q3,fun h=>absurd c h⟩
     ·rw[if_neg c]at hl2;exact⟨v1,.no,jm _,fun _=>hl2.symm,fun h=>absurd h c,fun _=>⟨hl2.symm,rfl⟩⟩
    obtain⟨v2,fp2,s1,s2,s3,s4⟩:=hA;generalize hl3:(if zbS a b<enS a m b l/\enS a m b l<b then zlI f (zbS a b) (enS a m b l) b l2 else l2)=l3;have hl3n:l3.length=N:=by rw[<-hl3];split<;>simp[hl2n]
    have hB:∃v3 fp3,v2<=v3/\(v3=v2->l3=l2)/\(zbS a b<enS a m b l/\enS a m b l<b->zx (R L Cs) ⟨false⟩ (fn1 zcQ) [.c (.slice 0 N 6 0 k none),W (zbS a b),W (enS a m b l),W b,fn1 zdc] [some { box:=false,esz:=6,rows:=zI l2,gen:=N,fz:=false,ver:=v2 }]=some (.t [],[some { box:=false,esz:=6,rows:=zI l3,gen:=N,fz:=false,ver:=v3 }],fp3))/\(¬(zbS a b<enS a m b l/\enS a m b l<b)->l3=l2/\v3=v2):=by
     by_cases c:zbS a b<enS a m b l/\enS a m b l<b
     ·rw[if_pos c]at hl3;have hd:=ih (zbS a b) (enS a m b l) b l2 (by omega) c.1 c.2 (by omega) hl2n;rw[hl3]at hd;obtain⟨v3,fp,q1,q2,q3⟩:=zfi hd hl2n hl3n v2;exact⟨v3,fp,q1,q2,fun _=>q3,fun h=>absurd c h⟩
     ·rw[if_neg c]at hl3;exact⟨v2,.no,jm _,fun _=>hl3.symm,fun h=>absurd h c,fun _=>⟨hl3.symm,rfl⟩⟩
    obtain⟨v3,fp3,r1,r2,r3,r4⟩:=hB;refine⟨v3,by omega,fun hv=>by rw[r2 (by omega),s2 (by omega),t2 (by omega)],?_⟩;have w3:IntKind.i64.wrap ((a:Int)+(b:Int))=((a+b:Nat):Int):=by rw[zTd _ (by omega) (by omega)];omega
    have w4:=ztp (a+b) (by omega);have w5:Int.fdiv ((a+b:Nat):Int) (2 ^ min 1 IntKind.u64.bits)=((zbS a b:Nat):Int):=zqe (a+b);have w6:=zqd (zbS a b) (by omega);have w7:IntKind.i64.wrap ((zbS a b:Int)+(m:Int))=((zbS a b+m:Nat):Int):=by rw[zTd _ (by omega) (by omega)];omega
    have w8:IntKind.i64.wrap (((zbS a b+m:Nat):Int)-1)=((zbS a b+m-1:Nat):Int):=by rw[zTd _ (by omega) (by omega)];omega
    have w9:IntKind.i64.wrap (((zbS a b+m:Nat):Int)-(stS a m b l:Int))=((enS a m b l:Nat):Int):=by rw[zTd _ (by omega) (by omega)];omega
    have w10:zbS a b<m->IntKind.i64.wrap (((zbS a b+m:Nat):Int)-(b:Int))=((loS a m b:Nat):Int):=fun h=>by
     have:loS a m b=zbS a b+m-b:=by rw[loS,if_pos h]
     rw[zTd _ (by omega) (by omega)];have:b<=zbS a b+m:=by have:zbS a b=(a+b) / 2:=rfl;omega
     omega
    have w11:zbS a b<m->hiS a m b=zbS a b:=fun h=>by rw[hiS,if_pos h]
    have w12:¬zbS a b<m->hiS a m b=m/\loS a m b=a:=fun h=>by rw[hiS,loS,if_neg h,if_neg h];exact⟨rfl,rfl⟩
    generalize stS a m b l=st at *;generalize enS a m b l=en at *;generalize zbS a b=mid at *;generalize loS a m b=lo at *;generalize hiS a m b=hi at *;rw[zUa zcU rfl];clear ih bd;have AJ:∀E,X L Cs zc.code E [blk v l]=X L Cs zc.code E [some { box:=false,esz:=6,rows:=zI l,gen:=N,fz:=false,ver:=v }]:=fun E=>by simp[blk,hl]
    simp only[e5]at hL;by_cases d1:mid<m
    ·rw[w11 d1]at hL;have w10:=w10 d1;rcases Ci t3 t4 with⟨d2,d2b,t3⟩ |⟨d2,d2b,e1,e2,t3⟩ |⟨d2,d2b,e1,e2,t3⟩<;>(try subst e1 e2)<;>rcases Ci s3 s4 with⟨d3,d3b,s3⟩ |⟨d3,d3b,e1,e2,s3⟩ |⟨d3,d3b,e1,e2,s3⟩<;>(try subst e1 e2)<;>rcases Ci r3 r4 with⟨d4,d4b,r3⟩ |⟨d4,d4b,e1,e2,r3⟩ |⟨d4,d4b,e1,e2,r3⟩<;>(try subst e1 e2)<;>simp[zc,w1,w2,c1',c2',w3,w4,w5,w6,w7,w8,w9,w10,hL,d1,d2,d2b,d3,d3b,d4,d4b,t3,s3,r3,blk,hl,hl3n,-zx,-Int.natCast_add]
    ·obtain⟨e3,e4⟩:=w12 d1;rw[e3,e4]at hL;rcases Ci t3 t4 with⟨d2,d2b,t3⟩ |⟨d2,d2b,e1,e2,t3⟩ |⟨d2,d2b,e1,e2,t3⟩<;>(try subst e1 e2)<;>rcases Ci s3 s4 with⟨d3,d3b,s3⟩ |⟨d3,d3b,e1,e2,s3⟩ |⟨d3,d3b,e1,e2,s3⟩<;>(try subst e1 e2)<;>rcases Ci r3 r4 with⟨d4,d4b,r3⟩ |⟨d4,d4b,e1,e2,r3⟩ |⟨d4,d4b,e1,e2,r3⟩<;>(try subst e1 e2)<;>simp[zc,w1,w2,c1',c2',w3,w4,w5,w6,w7,w8,w9,hL,d1,d2,d2b,d3,d3b,d4,d4b,t3,s3,r3,blk,hl,hl3n,-zx,-Int.natCast_add]
def zrH(a:Nat):Nat->List zk->List zk
 |0,l=>l
 |c+1,l=>if ziK (l.getD (a+c+1) z9) (l.getD (a+c) z9)<0 then zrH a c (swp l (a+c+1) (a+c)) else l
@[simp] theorem zAE(a:Nat):∀(c:Nat) (l:List zk),(zrH a c l).length=l.length
  |0,l=>rfl
  |c+1,l=>by
   rw[zrH];split
   ·rw[zAE a c];simp
   ·rfl
theorem zwR(N k a b i:Nat)(hk:k<=N)(hN:N<=900000000000):∀(c:Nat) (l:List zk) (v:Nat),a+c<k->l.length=N->∃v' j',v<=v'/\(v'=v->zrH a c l=l) /\
  Y L Cs zaD (some [9,3,1,2,8,0]) 1 [(9,.w (W ((a+c:Nat):Int))),(3,.w cB),(1,.w (W a)),(2,.w (W b)),(8,.w (W i)),(0,.w (sN N k))] [some { box:=false,esz:=6,rows:=zI l,gen:=N,fz:=false,ver:=v }] =
    some (.exit 2,[(34,.w (Bo false)),(9,.w (W j')),(3,.w cB),(1,.w (W a)),(2,.w (W b)),(8,.w (W i)),(0,.w (sN N k))],[some { box:=false,esz:=6,rows:=zI (zrH a c l),gen:=N,fz:=false,ver:=v' }]):=by
 intro c;induction c with
 |zero =>
  intro l v hc hl;refine⟨v,a,jm _,fun _=>rfl,?_⟩;rw[zj zaD.eq_1];simp[zrH]
 |succ c ih =>
  intro l v hc hl;have a1:a+c+1<k:=by omega
  have a2:a+c<k:=by omega
  have a3:a+c+1<N:=by omega
  have a4:a+c<N:=by omega
  have a5:a+c+1<l.length:=by omega
  have a6:a+c<l.length:=by omega
  have hg:a<a+c+1:=by omega
  have hw:IntKind.i64.wrap (((a+c+1:Nat):Int)-1)=((a+c:Nat):Int):=by rw[zTd _ (by omega) (by omega)];omega
  have e1:l.getD (a+c+1) z9=l[a+c+1]:=by simp[a5]
  have e2:l.getD (a+c) z9=l[a+c]:=by simp[a6]
  have e3:(((a+c+1:Nat):Int)).toNat=a+c+1:=by omega
  have e4:(((a+c:Nat):Int)).toNat=a+c:=by omega
  have e5:a+(c+1)=a+c+1:=by omega
  have hc2:=zop l[a+c+1] l[a+c];simp only[ze]at hc2;rw[zrH,e1,e2,e5];by_cases h:ziK l[a+c+1] l[a+c]<0
  ·obtain⟨v',j',hv1,hv2,h4⟩:=ih (swp l (a+c+1) (a+c)) (v+1+1) (by omega) (by simp[hl]);refine⟨v',j',by omega,fun hv=>by omega,?_⟩;rw[if_pos h,<-h4,zj zaD.eq_1];have hs1:=zeg l (a+c+1) l[a+c];have hs2:=zeg (l.set (a+c+1) l[a+c]) (a+c) l[a+c+1];have hsw:swp l (a+c+1) (a+c)=(l.set (a+c+1) l[a+c]).set (a+c) l[a+c+1]:=by simp[swp,a5,a6]
   simp only[ze]at hs1 hs2;clear ih h4;simp[hg,hc2,h,hw,a1,a2,a3,a4,a5,a6,e3,e4,hl,ze,hs1,hs2,hsw,-Int.natCast_add]
  ·refine⟨v,((a+c+1:Nat):Int),jm _,fun _=>by rw[if_neg h],?_⟩;rw[if_neg h,zj zaD.eq_1];clear ih;simp[hg,hc2,h,hw,a1,a2,a3,a4,a5,a6,e3,e4,hl,ze,-Int.natCast_add]
def zjJ(a:Nat):Nat->Nat->List zk->List zk
 |_,0,l=>l
 |i,m+1,l=>zjJ a (i+1) m (zrH a i l)
@[simp] theorem zAn(a:Nat):∀(m i:Nat) (l:List zk),(zjJ a i m l).length=l.length
  |0,i,l=>rfl
  |m+1,i,l=>by rw[zjJ,zAn a m];simp
theorem zwQ(N k a b:Nat)(hk:k<=N)(hN:N<=900000000000)(hb:b<=k):∀(m i:Nat) (l:List zk) (v:Nat),b-(a+i)=m->a+i<=b+1->l.length=N->∃v' i',v<=v'/\(v'=v->zjJ a i m l=l) /\
  Y L Cs za3 (some [2,1,3,8,0]) 1 [(2,.w (W b)),(1,.w (W a)),(3,.w cB),(8,.w (W ((a+i:Nat):Int))),(0,.w (sN N k))] [some { box:=false,esz:=6,rows:=zI l,gen:=N,fz:=false,ver:=v }] =
    some (.exit 0,[(14,.w (Bo false)),(3,.w cB),(1,.w (W a)),(2,.w (W b)),(8,.w (W i')),(0,.w (sN N k))],[some { box:=false,esz:=6,rows:=zI (zjJ a i m l),gen:=N,fz:=false,ver:=v' }]):=by
 intro m;induction m with
 |zero =>
  intro i l v hm hi hl;have hg:¬a+i<b:=by omega
  refine⟨v,(a+i:Nat),jm _,fun _=>rfl,?_⟩;rw[zj za3.eq_1];simp[hg,zjJ,-Int.natCast_add]
 |succ m ih =>
  intro i l v hm hi hl;have hg:a+i<b:=by omega
  have hw:=zB (i:=a+i) (by omega);obtain⟨v1,j1,q1,q2,h1⟩:=zwR N k a b (a+i) hk hN i l v (by omega) hl;obtain⟨v2,i2,q3,q4,h2⟩:=ih (i+1) (zrH a i l) v1 (by omega) (by omega) (by simp[hl]);refine⟨v2,i2,by omega,fun hv=>by rw[zjJ,q4 (by omega),q2 (by omega)],?_⟩;rw[show a+(i+1)=a+i+1 by omega]at h2;rw[zjJ,<-h2,zj za3.eq_1];clear ih h2;simp[hg,h1,hw,hl,-Int.natCast_add]
theorem zAW(N k a b:Nat)(hk:k<=N)(hN:N<=900000000000)(ha:a<=b)(hb:b<=k)(l:List zk)(hl:l.length=N):zxj zf0 N k [(a:Int),(b:Int)] l (zjJ a 1 (b-(a+1)) l):=by
 intro v;obtain⟨v',i',q1,q2,h⟩:=zwQ N k a b hk hN hb (b-(a+1)) 1 l v rfl (by omega) hl;refine⟨v',q1,q2,?_⟩;rw[zUa zgc rfl];have hw:=zB (i:=a) (by omega);simp[zce,hw,h,blk,hl,-Int.natCast_add]
def zok(bs n:Nat):Nat->Nat->List zk->Nat×List zk
 |0,a,l=>(a,l)
 |f+1,a,l=>if a+bs<=n then zok bs n f (a+bs) (zjJ a 1 (a+bs-(a+1)) l) else(a,l)
theorem zrJ(bs n:Nat):∀(f a:Nat) (l:List zk),(zok bs n f a l).2.length=l.length/\(a<=n->(zok bs n f a l).1<=n)
 |0,a,l=>⟨rfl,fun h=>h⟩
 |f+1,a,l=>by
  rw[zok];split
  ·have:=zrJ bs n f (a+bs) (zjJ a 1 (a+bs-(a+1)) l);exact⟨by rw[this.1];simp,fun _=>this.2 (by omega)⟩
  ·exact⟨rfl,fun h=>h⟩
theorem zAH(N k bs:Nat)(hk:k<=N)(hN:N<=900000000000)(h0:0<bs)(h1:bs<=900000000000):∀(f a:Nat) (l:List zk) (v:Nat),k-a<f*bs->a<=k->l.length=N->∃v' b',v<=v'/\(v'=v->(zok bs k f a l).2=l) /\
  Y L Cs zbO (some [7,8,1,0,2,6]) 1 [(7,.w (W a)),(8,.w (W ((a+bs:Nat):Int))),(1,.w (W k)),(0,.w (sN N k)),(2,.w cB),(6,.w (W bs))] [some { box:=false,esz:=6,rows:=zI l,gen:=N,fz:=false,ver:=v }] =
    some (.exit 0,[(13,.w (Bo false)),(7,.w (W (zok bs k f a l).1)),(8,.w (W b')),(1,.w (W k)),(0,.w (sN N k)),(2,.w cB),(6,.w (W bs))],[some { box:=false,esz:=6,rows:=zI (zok bs k f a l).2,gen:=N,fz:=false,ver:=v' }]):=by
 intro f;induction f with
 |zero=>intro a l v hf;omega
 |succ f ih =>
  intro a l v hf ha hl;rw[zok];by_cases c:a+bs<=k
  ·rw[if_pos c];have hd:=zAW N k a (a+bs) hk hN (by omega) c l hl;obtain⟨v1,fp,q1,q2,q3⟩:=zrm hd hl (by simp[hl]) v;obtain⟨v2,b2,q4,q5,q6⟩:=ih (a+bs) (zjJ a 1 (a+bs-(a+1)) l) v1 (by rw[k6]at hf;omega) c (by simp[hl]);refine⟨v2,b2,by omega,fun hv=>by rw[q5 (by omega),q2 (by omega)],?_⟩;rw[<-q6,zj zbO.eq_1];have hw:IntKind.i64.wrap (((a+bs:Nat):Int)+(bs:Int))=((a+bs+bs:Nat):Int):=by rw[zTd _ (by omega) (by omega)];omega
   clear ih q6 hd;simp[c,q3,hw,-zx,-Int.natCast_add]
  ·rw[if_neg c];refine⟨v,(a+bs:Nat),jm _,fun _=>rfl,?_⟩;rw[zj zbO.eq_1];simp[c,-Int.natCast_add]
def zgP(bs n:Nat):Nat->Nat->List zk->Nat×List zk
 |0,a,l=>(a,l)
 |f+1,a,l=>if a+2*bs<=n then zgP bs n f (a+2*bs) (zlI (2*bs) a (a+bs) (a+2*bs) l) else(a,l)
theorem zqR(bs n:Nat):∀(f a:Nat) (l:List zk),(zgP bs n f a l).2.length=l.length/\(a<=n->(zgP bs n f a l).1<=n)
 |0,a,l=>⟨rfl,fun h=>h⟩
 |f+1,a,l=>by
  rw[zgP];split
  ·have:=zqR bs n f (a+2*bs) (zlI (2*bs) a (a+bs) (a+2*bs) l);exact⟨by rw[this.1];simp,fun _=>this.2 (by omega)⟩
  ·exact⟨rfl,fun h=>h⟩
theorem zzZ(N k bs:Nat)(hk:k<=N)(hN:N<=900000000000)(h0:0<bs)(h1:bs<=900000000000):∀(f a:Nat) (l:List zk) (v:Nat),k-a<f*(2*bs)->a<=k->l.length=N->∃v' b',v<=v'/\(v'=v->(zgP bs k f a l).2=l) /\
  Y L Cs zbN (some [7,8,1,0,2,6]) 1 [(7,.w (W a)),(8,.w (W ((a+2*bs:Nat):Int))),(1,.w (W k)),(0,.w (sN N k)),(2,.w cB),(6,.w (W bs))] [some { box:=false,esz:=6,rows:=zI l,gen:=N,fz:=false,ver:=v }] =
    some (.exit 4,[(35,.w (Bo false)),(7,.w (W (zgP bs k f a l).1)),(8,.w (W b')),(1,.w (W k)),(0,.w (sN N k)),(2,.w cB),(6,.w (W bs))],[some { box:=false,esz:=6,rows:=zI (zgP bs k f a l).2,gen:=N,fz:=false,ver:=v' }]):=by
 intro f;induction f with
 |zero=>intro a l v hf;omega
 |succ f ih =>
  intro a l v hf ha hl;rw[zgP];by_cases c:a+2*bs<=k
  ·rw[if_pos c];have hd:=zrM N k hk hN (2*bs) a (a+bs) (a+2*bs) l (by omega) (by omega) (by omega) c hl;obtain⟨v1,fp,q1,q2,q3⟩:=zfi hd hl (by simp[hl]) v;obtain⟨v2,b2,q4,q5,q6⟩:=ih (a+2*bs) (zlI (2*bs) a (a+bs) (a+2*bs) l) v1 (by rw[k6]at hf;omega) c (by simp[hl]);refine⟨v2,b2,by omega,fun hv=>by rw[q5 (by omega),q2 (by omega)],?_⟩;rw[<-q6,zj zbN.eq_1];have hw0:IntKind.i64.wrap ((a:Int)+(bs:Int))=((a+bs:Nat):Int):=by rw[zTd _ (by omega) (by omega)];omega
   have hw1:IntKind.i64.wrap (2*(bs:Int))=((2*bs:Nat):Int):=by rw[zTd _ (by omega) (by omega)];omega
   have hw:IntKind.i64.wrap (((a+2*bs:Nat):Int)+((2*bs:Nat):Int))=((a+2*bs+2*bs:Nat):Int):=by rw[zTd _ (by omega) (by omega)];omega
   clear ih q6 hd;simp[c,q3,hw0,hw1,hw,-zx,-Int.natCast_add,-Int.natCast_mul]
  ·rw[if_neg c];refine⟨v,(a+2*bs:Nat),jm _,fun _=>rfl,?_⟩;rw[zj zbN.eq_1];simp[c,-Int.natCast_add,-Int.natCast_mul]
def zjE(bs n:Nat)(l:List zk):List zk :=
 if(zgP bs n (n+1) 0 l).1+bs<n then zlI (n-(zgP bs n (n+1) 0 l).1) (zgP bs n (n+1) 0 l).1 ((zgP bs n (n+1) 0 l).1+bs) n (zgP bs n (n+1) 0 l).2 else(zgP bs n (n+1) 0 l).2
@[simp] theorem zDc(bs n:Nat)(l:List zk):(zjE bs n l).length=l.length:=by
  unfold zjE;have:=(zqR bs n (n+1) 0 l).1;split<;>simp[this]
def vJ(n:Nat):Nat->Nat->List zk->List zk
 |0,_,l=>l
 |f+1,bs,l=>if bs<n then vJ n f (2*bs) (zjE bs n l) else l
@[simp] theorem zwz(n:Nat):∀(f bs:Nat) (l:List zk),(vJ n f bs l).length=l.length
  |0,_,_=>rfl
  |f+1,bs,l=>by
   rw[vJ];split
   ·rw[zwz n f];simp
   ·rfl
theorem zyk(N k:Nat)(hk:k<=N)(hN:N<=900000000000):∀(f bs:Nat) (l:List zk) (v:Nat),k<bs+f->0<bs->bs<=1800000000000->l.length=N->∃v' b',v<=v'/\(v'=v->vJ k f bs l=l) /\
  Y L Cs zaO (some [1,0,2,6]) 1 [(1,.w (W k)),(0,.w (sN N k)),(2,.w cB),(6,.w (W bs))] [some { box:=false,esz:=6,rows:=zI l,gen:=N,fz:=false,ver:=v }] =
    some (.exit 2,[(30,.w (Bo false)),(1,.w (W k)),(0,.w (sN N k)),(2,.w cB),(6,.w (W b'))],[some { box:=false,esz:=6,rows:=zI (vJ k f bs l),gen:=N,fz:=false,ver:=v' }]):=by
 intro f;induction f with
 |zero =>
  intro bs l v hf h0 h1 hl;refine⟨v,bs,jm _,fun _=>rfl,?_⟩;have c:¬bs<k:=by omega
  rw[vJ,zj zaO.eq_1];simp[c]
 |succ f ih =>
  intro bs l v hf h0 h1 hl;rw[vJ];by_cases c:bs<k
  ·rw[if_pos c];obtain⟨v1,b1,q1,q2,q3⟩:=zzZ N k bs hk hN h0 (by omega) (k+1) 0 l v (by have:k+1<=(k+1)*(2*bs):=kU _ (by omega);omega) (jx _) hl;obtain⟨g1,g2⟩:=zqR bs k (k+1) 0 l;have g2:=g2 (jx _);have hw1:IntKind.i64.wrap (2*(bs:Int))=((2*bs:Nat):Int):=by rw[zTd _ (by omega) (by omega)];omega
   have hw2:IntKind.i64.wrap ((bs:Int)*2)=((2*bs:Nat):Int):=by rw[zTd _ (by omega) (by omega)];omega
   simp only[jF,ji]at q3;by_cases d:(zgP bs k (k+1) 0 l).1+bs<k
   ·have e:zjE bs k l=zlI (k-(zgP bs k (k+1) 0 l).1) (zgP bs k (k+1) 0 l).1 ((zgP bs k (k+1) 0 l).1+bs) k (zgP bs k (k+1) 0 l).2:=by rw[zjE,if_pos d]
    have hd:=zrM N k hk hN (k-(zgP bs k (k+1) 0 l).1) (zgP bs k (k+1) 0 l).1 ((zgP bs k (k+1) 0 l).1+bs) k (zgP bs k (k+1) 0 l).2 (jm _) (by omega) d (jm _) (by omega);rw[<-e]at hd;have pl:(zjE bs k l).length=N:=by simp[hl]
    obtain⟨v2,fp,q4,q5,q6⟩:=zfi hd (by omega) pl v1;obtain⟨v3,b3,q7,q8,q9⟩:=ih (2*bs) (zjE bs k l) v2 (by omega) (by omega) (by omega) pl;refine⟨v3,b3,by omega,fun hv=>by rw[q8 (by omega),q5 (by omega),q2 (by omega)],?_⟩;rw[<-q9,zj zaO.eq_1];clear ih q9 hd e;generalize zjE bs k l=pF at *;generalize zgP bs k (k+1) 0 l=q at *;have hw0:IntKind.i64.wrap ((q.1:Int)+(bs:Int))=((q.1+bs:Nat):Int):=by rw[zTd _ (by omega) (by omega)];omega
    simp[c,d,q3,q6,hw0,hw1,hw2,-zx,-Int.natCast_add,-Int.natCast_mul]
   ·have e:zjE bs k l=(zgP bs k (k+1) 0 l).2:=by rw[zjE,if_neg d]
    obtain⟨v3,b3,q7,q8,q9⟩:=ih (2*bs) (zjE bs k l) v1 (by omega) (by omega) (by omega) (by simp[hl]);refine⟨v3,b3,by omega,fun hv=>by rw[q8 (by omega),e,q2 (by omega)],?_⟩;rw[<-q9,e,zj zaO.eq_1];clear ih q9 e q8;generalize zgP bs k (k+1) 0 l=q at *;have hw0:IntKind.i64.wrap ((q.1:Int)+(bs:Int))=((q.1+bs:Nat):Int):=by rw[zTd _ (by omega) (by omega)];omega
    simp[c,d,q3,hw0,hw1,hw2,-zx,-Int.natCast_add,-Int.natCast_mul]
  ·rw[if_neg c];refine⟨v,bs,jm _,fun _=>rfl,?_⟩;rw[zj zaO.eq_1];simp[c]
def zmz(k:Nat)(l:List zk):List zk:=vJ k k 20 (zjJ (zok 20 k (k+1) 0 l).1 1 (k-((zok 20 k (k+1) 0 l).1+1)) (zok 20 k (k+1) 0 l).2)
@[simp] theorem zCc(k:Nat)(l:List zk):(zmz k l).length=l.length:=by simp[zmz,(zrJ 20 k (k+1) 0 l).1]
theorem zsp(N k:Nat)(hk:k<=N)(hN:N<=900000000000)(l:List zk)(hl:l.length=N):zxj zhA N k [] l (zmz k l):=by
 intro v;obtain⟨v1,b1,q1,q2,q3⟩:=zAH N k 20 hk hN (by decide) (by decide) (k+1) 0 l v (by omega) (jx _) hl;obtain⟨g1,g2⟩:=zrJ 20 k (k+1) 0 l;have g2:=g2 (jx _);unfold zmz;generalize zok 20 k (k+1) 0 l=q at *;have hd:=zAW N k q.1 k hk hN g2 (jm _) q.2 (by omega);obtain⟨v2,fp,q4,q5,q6⟩:=zrm hd (by omega) (by simp;omega) v1;obtain⟨v3,b3,q7,q8,q9⟩:=zyk N k hk hN k 20 (zjJ q.1 1 (k-(q.1+1)) q.2) v2 (by omega) (by decide) (by decide) (by simp;omega);have vd:v3=v->vJ k k 20 (zjJ q.1 1 (k-(q.1+1)) q.2)=l:=fun hv=>by rw[q8 (by omega),q5 (by omega),q2 (by omega)]
 refine⟨v3,by omega,vd,?_⟩;have hlen:(vJ k k 20 (zjJ q.1 1 (k-(q.1+1)) q.2)).length=N:=by simp;omega
 generalize zjJ q.1 1 (k-(q.1+1)) q.2=l2 at *;generalize vJ k k 20 l2=l3 at *;simp only[jF,ji]at q3;rw[show((20:Nat):Int)=20 from rfl]at q3 q9;have hs:∀v0,v0=v->R L Cs zhZ [sN N k,W k,cB] [some { box:=false,esz:=6,rows:=zI l,gen:=N,fz:=false,ver:=v0 }]=some (.t [],[some { box:=false,esz:=6,rows:=zI l3,gen:=N,fz:=false,ver:=v3 }]):=by
  intro v0 h0;subst h0;rw[zUa zh8 rfl];simp[zdj,q3,q6,q9,-zx]
 have hs:=hs v rfl;rw[zUa zhK rfl];by_cases hv:v3=v
 ·have:=vd hv;subst hv this;simp[zcd,hs,blk,hl]
 ·simp[zcd,hs,blk,hl,hlen,hv]
theorem zts(P M Q:List zk)(x y:zk):swp (P++x::(M++y::Q)) P.length (P.length+1+M.length)=P++y::(M++x::Q):=by
 have e1:(P++x::(M++y::Q)).getD (P.length+1+M.length) z9=y:=by
  rw[jp,jN (by omega),show P.length+1+M.length-P.length=M.length+1 by omega,List.getElem?_cons_succ,jN (by omega)];simp
 have e2:(P++x::(M++y::Q)).getD P.length z9=x:=by
  rw[jp,jN (by omega)];simp
 rw[swp,e1,e2,kM _ _ (by omega),Nat.sub_self,List.set_cons_zero,kM _ _ (by omega),show P.length+1+M.length-P.length=M.length+1 by omega,List.set_cons_succ,kM _ _ (by omega),Nat.sub_self,List.set_cons_zero]
theorem zzo(l:List zk)(i j:Nat)(h:i≠j):swp l i j=swp l j i:=by
 unfold swp;exact ux _ _ (qE h) |>.symm ▸ rfl
theorem zsF(a b:Nat):∀(m i:Nat) (l:List zk),swR a b (i+1) m l=swR (a+1) (b+1) i m l
 |0,i,l=>rfl
 |m+1,i,l=>by
  rw[swR,swR,zsF a b m (i+1),show a+(i+1)=a+1+i by omega,show b+(i+1)=b+1+i by omega]
theorem zp7:∀(A B P M Q:List zk),A.length=B.length->swR P.length (P.length+A.length+M.length) 0 A.length (P++(A++(M++(B++Q))))=P++(B++(M++(A++Q)))
 |[],[],P,M,Q,_=>rfl
 |x::A,y::B,P,M,Q,h=>by
  have h':A.length=B.length:=by simpa using h
  have:=zp7 A B (P++[y]) (M++[x]) Q h';rw[jl,swR,zsF];have e:swp (P++(x::A++(M++(y::B++Q)))) (P.length+0) (P.length+(A.length+1)+M.length+0)=P++(y::(A++(M++(x::(B++Q))))):=by
   have:=zts P (A++M) (B++Q) x y;simp only[jv,jE,jk]at this ⊢;rw[show P.length+(A.length+1)+M.length+0=P.length+1+(A.length+M.length) by omega,qQ];exact this
  rw[e];simp only[jv,jl,ju,jE,jk,jh]at this ⊢;rw[show P.length+(A.length+1)+M.length+1=P.length+(0+1)+A.length+(M.length+(0+1)) by omega];exact this
theorem zzC:∀(f:Nat) (P A B Q:List zk) (m:Nat),m=P.length+A.length->0<A.length->0<B.length->A.length+B.length<=f ->
  swR (m-(zkm m f A.length B.length (P++(A++(B++Q)))).1) m 0 (zkm m f A.length B.length (P++(A++(B++Q)))).1 (zkm m f A.length B.length (P++(A++(B++Q)))).2=P++(B++(A++Q)):=by
 intro f;induction f with
 |zero=>intro P A B Q m hm ha hb hf;omega
 |succ f ih =>
  intro P A B Q m hm ha hb hf;rw[zkm];by_cases c:A.length=B.length
  ·rw[if_pos c];have:=zp7 A B P [] Q c;simp only[jh,ju,qQ]at this;dsimp only;rw[show m-A.length=P.length by omega,hm];exact this
  ·rw[if_neg c];by_cases c2:B.length<A.length
   ·rw[if_pos c2];have hA:=jT B.length A;have l1:(A.take B.length).length=B.length:=by simp;omega
    have l2:(A.drop B.length).length=A.length-B.length:=by simp
    generalize A.take B.length=A1 at *;generalize A.drop B.length=A2 at *;have e:=zp7 A1 B P A2 Q l1;rw[l1]at e;have h2:=ih (P++B) A2 A1 Q m (by simp;omega) (by omega) (by omega) (by omega);rw[show m-A.length=P.length by omega];have hm2:m=P.length+B.length+A2.length:=by omega
    rw[<-hA,jE A1 A2];have e':swR P.length m 0 B.length (P++(A1++(A2++(B++Q))))=P++(B++(A2++(A1++Q))):=by rw[hm2];exact e
    rw[e'];simp only[jE,jv,l1,l2]at h2 ⊢;rw[<-l2]at h2 ⊢;have hs:B.length+A2.length-B.length=A2.length:=by omega
    rw[hs];exact h2
   ·rw[if_neg c2];have hB:=jT (B.length-A.length) B;have l1:(B.take (B.length-A.length)).length=B.length-A.length:=by simp
    have l2:(B.drop (B.length-A.length)).length=A.length:=by simp;omega
    generalize B.take (B.length-A.length)=B1 at *;generalize B.drop (B.length-A.length)=B2 at *;have e:=zp7 A B2 P B1 Q l2.symm;have h2:=ih P B2 B1 (A++Q) m (by omega) (by omega) (by omega) (by omega);have e':swR (m-A.length) (m+B.length-A.length) 0 A.length (P++(A++(B++Q)))=P++(B2++(B1++(A++Q))):=by
     rw[<-hB,show m-A.length=P.length by omega,show m+(B1++B2).length-A.length=P.length+A.length+B1.length by simp;omega];simp only[jE];exact e
    rw[e',<-l1,<-hB];rw[l2]at h2;simp only[jE];exact h2
theorem zzD(P A B Q:List zk)(ha:0<A.length)(hb:0<B.length):ztB P.length (P.length+A.length) (P.length+A.length+B.length) (P++(A++(B++Q)))=P++(B++(A++Q)):=by
 have:=zzC (A.length+B.length) P A B Q _ rfl ha hb (jm _);unfold ztB;rw[show P.length+A.length+B.length-P.length=A.length+B.length by omega,show P.length+A.length-P.length=A.length by omega,show P.length+A.length+B.length-(P.length+A.length)=B.length by omega];exact this
theorem zxl:∀(C P Q:List zk) (x:zk),upF P.length C.length (P++x::(C++Q))=P++(C++x::Q)
 |[],P,Q,x=>rfl
 |y::C,P,Q,x=>by
  have h:=zts P [] (C++Q) x y;have h2:=zxl C (P++[y]) Q x;simp only[jh,ju,qQ]at h;rw[jl,upF,jk,h];simp only[jv,jl,ju,jE,jk,jh]at h2 ⊢;exact h2
theorem zxG:∀(n:Nat) (C P Q:List zk) (x:zk),C.length=n->dnF (P.length+C.length) C.length (P++(C++x::Q))=P++x::(C++Q)
 |0,C,P,Q,x,h=>by
  have:C=[]:=j9.1 h;subst this;rfl
 |n+1,C,P,Q,x,h=>by
  obtain⟨D,y,rfl⟩:∃D y,C=D++[y]:=by
   rcases vD C with e |⟨D,y,e⟩
   ·subst e;simp at h
   ·exact⟨D,y,by rw[e,vE]⟩
  have hD:D.length=n:=by simpa using h
  have h1:=zts (P++D) [] Q y x;have h2:=zxG n D P (y::Q) x hD;simp only[jh,ju,qQ,jE,jv]at h1;simp only[jv,jl,ju,jE,jk,jh]at h2 ⊢;rw[dnF,show P.length+(D.length+(0+1))-1=P.length+D.length by omega,zzo _ _ _ (by omega),show P.length+(D.length+(0+1))=P.length+D.length+1 by omega,h1,h2]
theorem zmj(p:Nat->Bool):∀(f i j:Nat),j-i<=f->i<=j->(∀x y,i<=x->x<=y->y<j->p y=true->p x=true)->∀h,i<=h->h<j->(p h=true<->h<bsF p f i j)
 |0,i,j,hf,hi,hm,h,h1,h2=>by omega
 |f+1,i,j,hf,hi,hm,h,h1,h2=>by
  rw[bsF,if_pos (by omega)];by_cases c:p ((i+j) / 2)=true
  ·rw[if_pos c];by_cases c2:h<=(i+j) / 2
   ·have hb:=(zju p f ((i+j) / 2+1) j (by omega)).1;exact⟨fun _=>by omega,fun _=>hm h _ h1 c2 (by omega) c⟩
   ·exact zmj p f ((i+j) / 2+1) j (by omega) (by omega) (fun x y a b d e=>hm x y (by omega) b d e) h (by omega) h2
  ·rw[if_neg c];by_cases c2:(i+j) / 2<=h
   ·have hb:=(zju p f i ((i+j) / 2) (by omega)).2;exact⟨fun e=>absurd (hm _ h (by omega) c2 h2 e) c,fun _=>by omega⟩
   ·exact zmj p f i ((i+j) / 2) (by omega) (by omega) (fun x y a b d e=>hm x y a b (by omega) e) h h1 (by omega)
end Go.TrRun
