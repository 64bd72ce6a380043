/- This text proves what functions of this seat's program answer, run by the evaluator; no condition. -/
import Derived.Test.YtammkplkmigccaaGreatNTx2
set_option maxHeartbeats 8000000
set_option linter.unusedVariables false
set_option linter.unusedSimpArgs false
set_option linter.unusedSectionVars false
/- Plain laws of cars, ramps, stops and profiles: no program in sight. -/
namespace Go.PlanLaw
structure Car where
 len:Int
 Ak:Int
 qT:Int
 Be:Int
 delay:Int
def Car.ok(c:Car):Prop:=300<=c.len/\c.len<=20000/\1<=c.Ak/\c.Ak<=30/\20<=c.qT/\c.qT<=90/\5<=c.Be/\c.Be<=120/\0<=c.delay/\c.delay<=5
instance(c:Car):Decidable c.ok:=by unfold Car.ok;infer_instance
def zVH(c:Car)(x:Int):Int:=max (-c.qT) (min x c.Ak)
def zFX(c:Car)(last w:Int):Int:=max (zVH c last-c.Be) (min (zVH c w) (zVH c last+c.Be))
def doV(v x:Int):Int:=min (max (v+max (-2000) (min x 2000)) 0) 2000
theorem zG1(v x:Int):0<=doV v x/\doV v x<=2000:=by unfold doV;omega
theorem zG2{c:Car}(h:c.ok)(x:Int):-c.qT<=zVH c x/\zVH c x<=c.Ak:=by
 obtain⟨h1,h2,h3,h4,h5,h6,h7,h8,h9,h10⟩:=h;unfold zVH;omega
theorem zG3{c:Car}(h:c.ok){x:Int}(h1:-c.qT<=x)(h2:x<=c.Ak):zVH c x=x:=by unfold zVH;omega
def zGI(c:Car):Nat->Bool->Int->Int->Option (List Int)
 |0,_,_,_=>none
 |m+1,f,last,v=>if f=true\/0<v\/0<last then(zGI c m false (zFX c last (-c.qT)) (doV v (zFX c last (-c.qT)))).map (zFX c last (-c.qT) :: ·) else some []
theorem zF7(c:Car)(m:Nat)(f:Bool)(last v:Int):zGI c (m+1) f last v=if(f=true\/0<v\/0<last) then(zGI c m false (zFX c last (-c.qT)) (doV v (zFX c last (-c.qT)))).map (zFX c last (-c.qT) :: ·) else some []:=rfl
theorem zG8(v x:Int)(hv:0<=v/\v<=2000)(hx:-100<=x/\x<=100):doV v x=max 0 (min 2000 (v+x)):=by unfold doV;omega
theorem zGx{c:Car}(h:c.ok)(last:Int):zFX c last (-c.qT)=max (zVH c last-c.Be) (-c.qT):=by
 obtain⟨h1,h2,h3,h4,h5,h6,h7,h8,h9,h10⟩:=h;unfold zFX zVH;omega
theorem zGM{c:Car}{last:Int}(h:c.ok)(h1:-c.qT<=last)(h2:last<=c.Ak):zFX c last (-c.qT)=max (last-c.Be) (-c.qT):=by
 rw[zGx h last,zG3 h h1 h2]
theorem ends2{c:Car}(h:c.ok):∀(m:Nat) (last v:Int),-c.qT<=last->last<=-20->0<=v->v<=2000->v<=20*m->∃l,zGI c (m+1) false last v=some l/\l.length<=m
 |0,last,v,h1,h2,h3,h4,h5=>⟨[],by
   rw[zF7,if_neg (by simp;omega)],by simp⟩
 |m+1,last,v,h1,h2,h3,h4,h5=>by
  have hcar:=h;obtain⟨q1,q2,q3,q4,q5,q6,q7,q8,q9,q10⟩:=hcar;rw[zF7];split
  ·have hr:=zGM h h1 (by omega:last<=c.Ak);have hd:=zG8 v (zFX c last (-c.qT)) ⟨h3,h4⟩ (by omega);obtain⟨l,hl,hn⟩:=ends2 h m (zFX c last (-c.qT)) (doV v (zFX c last (-c.qT))) (by omega) (by omega) (by omega) (by omega) (by omega);exact⟨_::l,by rw[hl];rfl,by simp;omega⟩
  ·exact⟨[],rfl,by simp⟩
theorem ends1{c:Car}(h:c.ok):∀(t:Nat) (last v:Int),-c.qT<=last->last<=c.Ak->last<=5*t-20->0<=v->v<=2000->∃l,zGI c (101+t) false last v=some l/\l.length<=100+t
 |0,last,v,h1,h2,h3,h4,h5=>ends2 h 100 last v h1 (by omega) h4 h5 (by omega)
 |t+1,last,v,h1,h2,h3,h4,h5=>by
  have hcar:=h;obtain⟨q1,q2,q3,q4,q5,q6,q7,q8,q9,q10⟩:=hcar;rw[show 101+(t+1)=(101+t)+1 by omega,zF7];split
  ·have hr:=zGM h h1 h2;have hd:=zG1 v (zFX c last (-c.qT));obtain⟨l,hl,hn⟩:=ends1 h t (zFX c last (-c.qT)) (doV v (zFX c last (-c.qT))) (by omega) (by omega) (by omega) hd.1 hd.2;exact⟨_::l,by rw[hl];rfl,by simp;omega⟩
  ·exact⟨[],rfl,by simp⟩
theorem ends{c:Car}(h:c.ok)(last v:Int)(h4:0<=v)(h5:v<=2000):∃l,zGI c 111 true last v=some l/\0<l.length/\l.length<=110:=by
 have hcar:=h;obtain⟨q1,q2,q3,q4,q5,q6,q7,q8,q9,q10⟩:=hcar;have hr:=zGx h last;have hcl:=zG2 h last;have hd:=zG1 v (zFX c last (-c.qT));obtain⟨l,hl,hn⟩:=ends1 h 9 (zFX c last (-c.qT)) (doV v (zFX c last (-c.qT))) (by omega) (by omega) (by omega) hd.1 hd.2;refine⟨_::l,by rw[show 111=(101+9)+1 from rfl,zF7,if_pos (.inl rfl),hl];rfl,by simp,by simp;omega⟩
def chain(c:Car):Int->List Int->Prop
 |_,[]=>True
 |a,x::xs=>(-c.qT<=x/\x<=c.Ak)/\(-c.Be<=x-a/\x-a<=c.Be)/\chain c x xs
def zG0:Int->List Int->Int
 |a,[]=>a
 |_,x::xs=>zG0 x xs
def zHd:Int->List Int->Int
 |v,[]=>v
 |v,x::xs=>zHd (doV v x) xs
structure Drv where
 last:Int
 v:Int
 l:List Int
def Drv.from(c:Car)(a:Int)(s:Drv):Prop:=chain c a s.l/\s.last=zG0 a s.l/\0<=s.v/\s.v<=2000
end Go.PlanLaw
set_option maxRecDepth 10000
namespace Go.TrRun.Pl
open Go Go.Eng Go.PlanLaw
def Drv.run(s:Drv)(l:List Int):Drv:=⟨zG0 s.last l,zHd s.v l,s.l++l⟩
end Go.TrRun.Pl
namespace Go.TrRun
open Go Go.Eng
theorem zRq(n:Nat)(p:Nat->Bool)(h:(List.range n).findIdx? p=none):(List.range n).any p=false:=by
 rw[kZ]at h;simpa using h
theorem zRn(n:Nat)(p:Nat->Bool){i:Nat}(h:(List.range n).findIdx? p=some i):(List.range n).any p=true:=by
 obtain⟨h1,h2,_⟩:=jP.1 h;exact kM.2 ⟨_,jb h1,h2⟩
theorem zR0{m:zD}(h:zcp m)(x:Int):R L Cs zD9 [.a (zf m),W x] []=some (.w (Bo (decide (0<=x)&&decide (x<m.jc.length))),[]):=by
 have hk:=h.Au;rw[zUa zEa rfl];simp only[zf]at hk;by_cases c1:0<=x
 ·by_cases c2:x<m.jc.length
  ·simp[zDW,zf,hk,c1,c2]
  ·simp[zDW,zf,hk,c1,c2]
 ·simp[zDW,zf,hk,c1]
theorem zRT{m:zD}{zs:List Zon}{ss:List Sgn}(hf:zmq m zs ss)(j:Nat)(hj:j<ss.length)(x:Int)(hx:0<=x/\x<m.jc.length)(tick:Int)(ht:0<=tick) :
  R L Cs zRa [.a (zf m),W j,W x,W tick] []=some (.w (Bo (zfA ss[j] x tick)),[]):=by
 have h1:=zR0 hf.qt x;have h2:=zrO ss[j] x tick (hf.zd.ph _ (jb hj));have hs:=hf.zd.s;have hji:(j:Int)<ss.length:=by omega
 simp only[zf,hx.1,hx.2,decide_true,Bool.and_self]at h1;simp only[zeq]at h2;rw[hs]at h1;rw[zUa zRd rfl];simp[zJV,zf,zeq,hs,h1,h2,hj,hji,ht]
@[simp] theorem zHc(k:zci):(zG k).length=6:=rfl
structure AgV where
 jg:List Int
 s:Int
 v:Int
 len:Int
 start:Int
 uQ:Bool
 gone:Bool
def agC(a:AgV):List Cl:=[.je (zu a.jg),I a.s,I a.v,I a.len,I a.start,.bool a.uQ,.bool a.gone]
structure z2T where
 qy:Int
 uf:Int
 since:Int
 qX:Int
def z29(x:z2T):List Cl:=[I x.qy,I x.uf,I x.since,I x.qX]
structure SnV where
 tick:Int
 agents:List AgV
 ins:List z2T
def Zbn(l:List AgV):List (List Cl):=l.map agC
def z2H(l:List z2T):List (List Cl):=l.map z29
@[simp] theorem z7m(l:List AgV):(Zbn l).length=l.length:=by simp[Zbn]
@[simp] theorem z6C{l:List AgV}{i:Nat}(h:i<(Zbn l).length):(Zbn l)[i]=agC (l[i]'(by simpa using h)):=by simp[Zbn]
@[simp] theorem z7w(a:AgV):(agC a).length=7:=rfl
@[simp] theorem z7l(l:List z2T):(z2H l).length=l.length:=by simp[z2H]
@[simp] theorem z6B{l:List z2T}{i:Nat}(h:i<(z2H l).length):(z2H l)[i]=z29 (l[i]'(by simpa using h)):=by simp[z2H]
@[simp] theorem z5R(a:z2T):(z29 a).length=4:=rfl
def snC(s:SnV):List Cl:=[I s.tick,.je (Zbn s.agents),.je (z2H s.ins)]
def laF(st:List Int)(s:Int):Nat->Nat
 |0=>0
 |k+1=>if st.getD k 0<=s then k else laF st s k
theorem z6R(st:List Int)(s:Int):∀k,laF st s (k+1)<=k
 |0=>by simp[laF]
 |k+1=>by
  have:=z6R st s k;unfold laF;split<;>omega
structure WAg(m:zD)(a:AgV):Prop where
 jg:zdA m a.jg=0
 len:300<=a.len/\a.len<=20000
 start:0<=a.start/\a.start<=1099511627776
 s:0<=a.s/\a.s<=zmd m 0 a.jg+a.len+2000
 here:a.gone=decide (zmd m 0 a.jg<a.s-a.len)
structure KAg(m:zD)(a:AgV):Prop extends WAg m a where
 up:a.s<=zmd m 0 a.jg
 late:0<a.start->a.s=0
theorem KAg.stay{m:zD}{a:AgV}(h:KAg m a):a.gone=false:=by
 have h1:=h.up;have h2:=h.len;rw[h.here];exact decide_eq_false (by omega)
def z4R(m:zD)(a:AgV):Nat:=laF (zW m 0 a.jg) a.s a.jg.length
def z42(m:zD)(a:AgV):Int:=a.jg.getD (z4R m a) 0
theorem WAg.on{m:zD}(h:zcp m){a:AgV}(ha:WAg m a):zj2 m a.jg/\a.jg≠[]/\a.jg.length<=8:=zg1 h ha.jg
theorem WAg.Bu{m:zD}(h:zcp m){a:AgV}(ha:WAg m a):z4R m a<a.jg.length:=by
 obtain⟨_,h2,_⟩:=ha.on h;have h0:0<a.jg.length:=j9.2 h2;unfold z4R;obtain⟨k,hk⟩:∃k,a.jg.length=k+1:=⟨a.jg.length-1,by omega⟩;rw[hk];have:=z6R (zW m 0 a.jg) a.s k;omega
theorem WAg.on_ok{m:zD}(h:zcp m){a:AgV}(ha:WAg m a):0<=z42 m a/\z42 m a<m.jc.length:=by
 have hl:=ha.Bu h;have e:z42 m a=a.jg[z4R m a]:=by simp[z42,jm,hl]
 rw[e];exact(ha.on h).1 _ (jb hl)
theorem WAg.vw{m:zD}(h:zcp m){a:AgV}(ha:WAg m a):0<=zmd m 0 a.jg/\zmd m 0 a.jg<=8000000:=by
 obtain⟨h1,_,h3⟩:=ha.on h;have:=zEC h a.jg 0 h1 (by omega);omega
theorem WAg.BN{m:zD}(h:zcp m){a:AgV}(ha:WAg m a){i:Nat}(hi:i<a.jg.length):0<=zb4 m a.jg i/\zb4 m a.jg i<=8000000:=by
 obtain⟨h1,_,h3⟩:=ha.on h;exact zmA (bar:=0) ⟨h,h3,h1,by omega⟩ hi
theorem z58(m:zD)(a:AgV)(st:List Int)(hl:st.length<=100):∀(f i:Nat),i+f=st.length ->
  Y L Cs z23 (some [7,8,6,3]) 2 [(7,.w (W (laF st a.s i))),(8,.w (W i)),(6,.w (.c (.je (zu st)))),(3,.w (Pt 1))] [bx 5 (zf m),bx 7 (agC a)] =
    some (.exit 0,[(16,.w (Bo false)),(7,.w (W (laF st a.s st.length))),(8,.w (W st.length)),(6,.w (.c (.je (zu st)))),(3,.w (Pt 1))],[bx 5 (zf m),bx 7 (agC a)]):=by
 intro f;induction f with
 |zero =>
  intro i hi;obtain rfl:i=st.length:=by omega
  rw[zj z23.eq_1];simp
 |succ f ih =>
  intro i hi;have hil:i<st.length:=by omega
  have hw:=zB (i:=i) (by omega);rw[<-ih (i+1) (by omega),zj z23.eq_1];clear ih;rw[laF];by_cases c:st[i]<=a.s
  ·have c':st.getD i 0<=a.s:=by simpa [hil]using c
   rw[if_pos c'];simp[agC,zf,hil,hw,c]
  ·have c':¬st.getD i 0<=a.s:=by simpa [hil]using c
   rw[if_neg c'];simp[agC,zf,hil,hw,c]
theorem z6w{m:zD}(h:zcp m){a:AgV}(ha:WAg m a):R L Cs z4n [.a (zf m),.a (agC a)] []=some (.t [W (z42 m a),W (a.s-zb4 m a.jg (z4R m a))],[]):=by
 obtain⟨_,_,h3⟩:=ha.on h;have hs:=ha.BN h (ha.Bu h);have hS:=zRG h ha.jg;have hl:=z58 m a (zW m 0 a.jg) (by rw[zcO];omega) a.jg.length 0 (by rw[zcO];omega);have h0l:=ha.len;have h1:=ha.s;have h2:=ha.vw h;have w1:=kj (a.s-zb4 m a.jg (z4R m a));have hat:=ha.Bu h;unfold z42;rw[zcO]at hl;have e1:laF (zW m 0 a.jg) a.s a.jg.length=z4R m a:=rfl;rw[e1,show laF (zW m 0 a.jg) a.s 0=0 from rfl]at hl;generalize z4R m a=k at *;have hk:k<(zW m 0 a.jg).length:=by rw[zcO];exact hat
 have e2:(zW m 0 a.jg)[k]=zb4 m a.jg k:=by simp[zb4,hk]
 simp only[zf,agC,ji]at hS hl;rw[zUa z4s rfl];simp[z3r,zf,agC,hS,hl,hk,hat,e2,w1,zg]
theorem z7e{m:zD}(h:zcp m){a:AgV}(ha:WAg m a):R L Cs z4o [.a (zf m),.a (agC a)] []=some (.w (Bo a.gone),[]):=by
 have hS:=zEp h ha.jg;have h0l:=ha.len;have h1:=ha.s;have h2:=ha.vw h;have h3:=ha.len;have w1:=kj (a.s-a.len);have hh:=ha.here;simp only[zf]at hS;rw[zUa z4t rfl];by_cases hc:zmd m 0 a.jg<a.s-a.len
 ·rw[decide_eq_true hc]at hh;simp[z3s,zf,agC,hS,w1,hc,hh,zg]
 ·rw[decide_eq_false hc]at hh;simp[z3s,zf,agC,hS,w1,hc,hh,zg]
theorem z6s{m:zD}(h:zcp m){a:AgV}(ha:WAg m a):R L Cs z4m [.a (agC a)] []=some (.w (Bo true),[]):=by
 have h0l:=ha.len;have h1:=ha.s;have h2:=ha.vw h;have h3:=ha.len;have c1:a.s<=1099511627776:=by omega
 have c2:0<=a.len:=by omega
 have c3:a.len<=1099511627776:=by omega
 rw[zUa z4r rfl];simp[z3q,agC,h1.1,c1,c2,c3,zg]
def thA(t:Int)(a:AgV):Bool:=decide (a.start<=t) && !a.gone
theorem z56(s:SnV)(i:Nat)(hi:i<s.agents.length):R L Cs z3I [.a (snC s),W i] []=some (.w (Bo (thA s.tick s.agents[i])),[]):=by
 rw[zUa z4i rfl];unfold thA;cases hg:s.agents[i].gone<;>by_cases c:s.agents[i].start<=s.tick<;>simp[z3b,snC,agC,hi,c,hg,zg]
def z3z(m:zD)(a:AgV):Int:=if 0<=a.v/\a.v<=zeR (zaK m (z42 m a)) then 0 else 2
theorem z50{m:zD}{a:AgV}(h:¬z3z m a=0):z3z m a=2:=by unfold z3z at *;split at h<;>simp_all
theorem z5b{m:zD}{x:Int}(h:0<=x/\x<m.jc.length):∃j:Nat,∃hj:j<m.jc.length,x=(j:Int)/\zaK m x=m.jc[j].kind:=by
 obtain⟨j,rfl⟩:=jw h.1;have hj:j<m.jc.length:=by omega
 exact⟨j,hj,rfl,by simp[zaK,hj]⟩
theorem z5q{m:zD}(h:zcp m)(s:SnV)(ht:0<=s.tick)(i:Nat)(hi:i<s.agents.length)(ha:WAg m s.agents[i])(hla:s.tick<s.agents[i].start->s.agents[i].s=0)(h0:i=0->s.agents[i].start=0) :
  R L Cs z3u [.a (zf m),.a (snC s),W i] []=some (.w (W (z3z m s.agents[i])),[]):=by
 have hR:=zp0 m h.small h.Au s.agents[i].jg (by have:=(ha.on h).2.2;omega);rw[ha.jg]at hR;have hE:=zEp h ha.jg;have hL:=z6w h ha;have hG:=z7e h ha;have Cb:=ha.vw h;obtain⟨h1,h2,h3,h4,h6⟩:=ha;have hon:=WAg.on_ok h ⟨h1,h2,h3,h4,h6⟩;have hk:=zu9 h hon;have hB:=zhv hk;obtain⟨j,hj,ej,ek⟩:=z5b hon;unfold z3z;generalize s.agents[i].s-zb4 m s.agents[i].jg (z4R m s.agents[i])=off at *;generalize z42 m s.agents[i]=x at *;generalize hag:s.agents[i]=a at *;subst ej;have hnum:(decide (a.len<300)=false)/\decide (20000<a.len)=false/\decide (a.start<0)=false/\decide (1099511627776<a.start)=false/\decide (a.s<0)=false/\decide (zmd m 0 a.jg+a.len+2000<a.s)=false:=by
  refine⟨?_,?_,?_,?_,?_,?_⟩<;>simp<;>omega
 obtain⟨n1,n2,n3,n4,n5,n6⟩:=hnum;have w1:=kj (zmd m 0 a.jg+a.len);have w2:=kj (zmd m 0 a.jg+a.len+2000);have hlate:(decide (s.tick<a.start) && !(a.s==0))=false:=by
  by_cases c:s.tick<a.start
  ·have:=hla (by omega);simp[this]
  ·simp[c]
 have hzero:((i:Int)==0 && !(a.start==0))=false:=by
  by_cases c:i=0
  ·simp[h0 c]
  ·simp[c]
 have hob:(decide (s.tick<a.start) && !(a.s==0)||(i:Int)==0 && !(a.start==0))=false:=by rw[hlate,hzero];rfl
 have m1:¬a.len<300:=by omega
 have m2:¬20000<a.len:=by omega
 have m3:¬a.start<0:=by omega
 have m4:¬1099511627776<a.start:=by omega
 have m5:¬a.s<0:=by omega
 have m6:¬zmd m 0 a.jg+a.len+2000<a.s:=by omega
 rw[ek]at hB ⊢;simp only[zf,agC]at hR hE hL hG hB;rw[zUa z3W rfl];by_cases c1:a.v<0
 ·have c1':¬(0<=a.v/\a.v<=zeR m.jc[j].kind):=by omega
  rw[if_neg c1'];simp[z2w,zf,snC,hi,hag,agC,zo,hj,hR,hE,hL,hG,hB,w1,w2,m1,m2,m3,m4,m5,m6,c1,zg,zH]
 ·by_cases c2:zeR m.jc[j].kind<a.v
  ·have c1':¬(0<=a.v/\a.v<=zeR m.jc[j].kind):=by omega
   rw[if_neg c1'];simp[z2w,zf,snC,hi,hag,agC,zo,hj,hR,hE,hL,hG,hB,w1,w2,m1,m2,m3,m4,m5,m6,c1,c2,zg,zH]
  ·have c1':(0<=a.v/\a.v<=zeR m.jc[j].kind):=by omega
   rw[if_pos c1'];by_cases d1:s.tick<a.start
   ·have d2:a.s=0:=hla (by omega);have d3:i≠0:=by intro e;have:=h0 e;omega
    have d3':((i:Int)==0)=false:=by simp[d3]
    have d2b:(a.s !=0)=false:=by simp[d2]
    simp[z2w,zf,snC,hi,hag,agC,zo,hj,hR,hE,hL,hG,hB,w1,w2,m1,m2,m3,m4,m5,m6,c1,c2,d1,d2b,d3',zg,zH]
   ·by_cases d3:i=0
    ·have d4:=h0 d3;have d3b:((i:Int)==0)=true:=by simp[d3]
     have d4b:(a.start !=0)=false:=by simp[d4]
     simp[z2w,zf,snC,hi,hag,agC,zo,hj,hR,hE,hL,hG,hB,w1,w2,m1,m2,m3,m4,m5,m6,c1,c2,d1,d3b,d4b,zg,zH]
    ·have d3':((i:Int)==0)=false:=by simp[d3]
     simp[z2w,zf,snC,hi,hag,agC,zo,hj,hR,hE,hL,hG,hB,w1,w2,m1,m2,m3,m4,m5,m6,c1,c2,d1,d3,d3',zg,zH]
abbrev z3A:z2T:=⟨0,0,0,0⟩
def z7a(x y:z2T):Bool:=decide (x.qy<y.qy)||decide (x.qy=y.qy)&&decide (x.uf<=y.uf)
def z5F(nA nZ:Nat)(l:List z2T)(i:Nat):Bool :=
 decide ((l.getD i z3A).qy<0)||decide ((nA:Int)<=(l.getD i z3A).qy)||decide ((l.getD i z3A).uf<0)||decide ((nZ:Int)<=(l.getD i z3A).uf)||(match i with |0=>false |k+1=>z7a (l.getD (k+1) z3A) (l.getD k z3A))
def zIY(tick:Int)(x:z2T):Bool:=decide (x.since<0)||decide (tick<x.since)||decide (x.qX<0)||decide (100<x.qX)
structure KSn(m:zD)(s:SnV):Prop where
 tick:0<=s.tick/\s.tick<=1099511627776
 ags:∀a∈s.agents,WAg m a
 lat:∀a∈s.agents,s.tick<a.start->a.s=0
 few:s.agents.length<=8
 some:0<s.agents.length
 first:(s.agents[0]'some).start=0
 ins:s.ins.length<=1000
def z31(m:zD)(s:SnV):Int :=
 if s.agents.any (fun a=>decide (z3z m a≠0)) then 2 else
 if(List.range s.ins.length).any (z5F s.agents.length m.kh.length s.ins) then 11 else
 if s.ins.any (zIY s.tick) then 2 else 0
theorem z5V(m:zD)(s:SnV)(hn:s.ins.length<=1000)(i:Nat)(hi:i<s.ins.length) :
  Y L Cs z2F (some [7,2,3]) 2 [(7,.w (W i)),(2,.w (Pt 0)),(3,.w (Pt 1))] [bx 5 (zf m),bx 3 (snC s)] =
    if z5F s.agents.length m.kh.length s.ins i then some (.ret,[(4,.w (W 11))],[bx 5 (zf m),bx 3 (snC s),bxv 1 4 (z29 s.ins[i])])
    else Y L Cs z2F (some [7,2,3]) 2 [(7,.w (W (i+1:Nat))),(2,.w (Pt 0)),(3,.w (Pt 1))] [bx 5 (zf m),bx 3 (snC s)]:=by
 have hw:=zB (i:=i) (by omega);rw[zj z2F.eq_1];unfold z5F;rw[show s.ins.getD i z3A=s.ins[i] by simp[hi]];by_cases c1:s.ins[i].qy<0
 ·simp[snC,z29,zf,hi,c1,zg,zH]
 by_cases c2:(s.agents.length:Int)<=s.ins[i].qy
 ·simp[snC,z29,zf,hi,c1,c2,zg,zH]
 by_cases c3:s.ins[i].uf<0
 ·simp[snC,z29,zf,hi,c1,c2,c3,zg,zH]
 by_cases c4:(m.kh.length:Int)<=s.ins[i].uf
 ·simp[snC,z29,zf,hi,c1,c2,c3,c4,zg,zH]
 cases i with
 |zero =>
  have w1:IntKind.i64.wrap 1=1:=rfl;simp[snC,z29,zf,hi,w1,c1,c2,c3,c4,zg,zH]
 |succ k =>
  have hk:k<s.ins.length:=by omega
  have wk:=kj (k:Int);simp only[show s.ins.getD (k+1) z3A=s.ins[k+1] by simp[hi],show s.ins.getD k z3A=s.ins[k] by simp[hk]];unfold z7a;have qs:(0:Int)<(k:Int)+1:=by omega
  have a0:IntKind.i64.wrap ((k:Int)+1-1)=(k:Int):=by rw[zTd _ (by omega) (by omega)];omega
  have a1:(0:Int)<=(k:Int)+1:=by omega
  have a2:(k:Int)+1<(s.ins.length:Int):=by omega
  have a3:((k:Int)+1).toNat=k+1:=by omega
  have a4:(k:Int)<(s.ins.length:Int):=by omega
  have hw2:=kj ((k:Int)+1+1);generalize hy:s.ins[k]=y at *;generalize hx:s.ins[k+1]=x at *;by_cases c5:x.qy<y.qy
  ·simp[snC,z29,zf,hi,hx,hy,a0,a1,a2,a3,a4,hk,wk,qs,c1,c2,c3,c4,c5,zg,zH]
  by_cases c6:x.qy=y.qy
  ·have c6':(x.qy==y.qy)=true:=by simp[c6]
   have c6d:decide (x.qy=y.qy)=true:=by simp[c6]
   by_cases c7:x.uf<=y.uf
   ·simp[snC,z29,zf,hi,hx,hy,a0,a1,a2,a3,a4,hk,wk,qs,c1,c2,c3,c4,c5,c6',c6d,c7,zg,zH]
   ·simp[snC,z29,zf,hi,hx,hy,a0,a1,a2,a3,a4,hk,hw2,wk,qs,c1,c2,c3,c4,c5,c6',c6d,c7,zg,zH]
  ·have c6':(x.qy==y.qy)=false:=by simp[c6]
   simp[snC,z29,zf,hi,hx,hy,a0,a1,a2,a3,a4,hk,hw2,wk,qs,c1,c2,c3,c4,c5,c6',c6,zg,zH]
theorem z6G{m:zD}(h:zcp m)(s:SnV)(hs:KSn m s):Y L Cs z2G (some [2,3,6]) 2 [(2,.w (Pt 0)),(3,.w (Pt 1)),(6,.w (W 0))] [bx 5 (zf m),bx 3 (snC s)] =
  some (if s.agents.any (fun a=>decide (z3z m a≠0)) then(.ret,[(4,.w (W 2))],[bx 5 (zf m),bx 3 (snC s)]) else(.exit 0,[(36,.w (Bo false)),(3,.w (Pt 1)),(2,.w (Pt 0)),(6,.w (W s.agents.length))],[bx 5 (zf m),bx 3 (snC s)])):=by
 have vR:=hs.few;have hC:∀(i:Nat) (hi:i<s.agents.length),R L Cs z3u [.a (zf m),.a (snC s),W i] []=some (.w (W (z3z m s.agents[i])),[]):=fun i hi=>z5q h s hs.tick.1 i hi (hs.ags _ (jb hi)) (hs.lat _ (jb hi)) (by rintro rfl;exact hs.first)
 have:=zpE (L:=L) (Cs:=Cs) (b:=z2G) (live:=some [2,3,6]) (n0:=2) s.agents (fun i=>[(2,.w (Pt 0)),(3,.w (Pt 1)),(6,.w (W i))]) [bx 5 (zf m),bx 3 (snC s)] (fun a=>decide (z3z m a≠0)) (.ret,[(4,.w (W 2))],[bx 5 (zf m),bx 3 (snC s)]) (.exit 0,[(36,.w (Bo false)),(3,.w (Pt 1)),(2,.w (Pt 0)),(6,.w (W s.agents.length))],[bx 5 (zf m),bx 3 (snC s)])
  (fun i hi hb=>by
   have hw:=zB (i:=i) (by omega);have hc:=hC i hi;have e0:z3z m s.agents[i]=0:=by simpa using hb
   rw[e0]at hc;simp only[zf,snC]at hc;rw[zj z2G.eq_1];simp[zf,snC,hi,hw,hc])
  (fun i hi hb=>by
   have hc:=hC i hi;have e0:z3z m s.agents[i]=2:=z50 (by simpa using hb);rw[e0]at hc;simp only[zf,snC]at hc;rw[zj z2G.eq_1];simp[zf,snC,hi,hc])
  (by rw[zj z2G.eq_1];simp[snC,zf])
 simpa using this
theorem z5f{m:zD}(h:zcp m)(s:SnV)(hs:KSn m s):R L Cs z3m [.a (zf m),.a (snC s)] []=some (.w (W (z31 m s)),[]):=by
 have hk:=h.Au;have ht:=hs.tick;have vR:=hs.few;have k8:=hs.some;have AP:=hs.ins;have h1:=z6G h s hs;have h2:=zxf (L:=L) (Cs:=Cs) (b:=z2F) (live:=some [7,2,3]) (n0:=2) (List.range s.ins.length) (fun i=>[(7,.w (W i)),(2,.w (Pt 0)),(3,.w (Pt 1))]) [bx 5 (zf m),bx 3 (snC s)] (z5F s.agents.length m.kh.length s.ins) (fun i=>(.ret,[(4,.w (W 11))],[bx 5 (zf m),bx 3 (snC s),bxv 1 4 (z29 (s.ins.getD i z3A))])) (.exit 2,[(50,.w (Bo false)),(7,.w (W s.ins.length)),(2,.w (Pt 0)),(3,.w (Pt 1))],[bx 5 (zf m),bx 3 (snC s)])
  (fun i hi hb=>by
   rw[List.length_range]at hi;rw[List.getElem_range]at hb;rw[z5V m s AP i hi,hb];simp)
  (fun i hi hb=>by
   rw[List.length_range]at hi;rw[List.getElem_range]at hb;rw[z5V m s AP i hi,hb];simp[hi])
  (by rw[zj z2F.eq_1];simp[snC,zf])
 have h3:=zxf (L:=L) (Cs:=Cs) (b:=z2R) (live:=some [3,9]) (n0:=2) s.ins (fun i=>[(3,.w (Pt 1)),(9,.w (W i))]) [bx 5 (zf m),bx 3 (snC s)] (zIY s.tick) (fun i=>(.ret,[(4,.w (W 2))],[bx 5 (zf m),bx 3 (snC s),bxv 1 4 (z29 (s.ins.getD i z3A))])) (.exit 4,[(124,.w (Bo false)),(3,.w (Pt 1)),(9,.w (W s.ins.length))],[bx 5 (zf m),bx 3 (snC s)])
  (fun i hi hb=>by
   have hw:=zB (i:=i) (by omega);unfold zIY at hb;simp only[vH,decide_eq_false_iff_not]at hb;rw[zj z2R.eq_1];simp[zf,snC,z29,hi,hw,hb,zg,zH])
  (fun i hi hb=>by
   rw[zj z2R.eq_1];rw[show s.ins.getD i z3A=s.ins[i] by simp[hi]];unfold zIY at hb;by_cases c1:s.ins[i].since<0
   ·simp[zf,snC,z29,hi,c1,zg,zH]
   by_cases c2:s.tick<s.ins[i].since
   ·simp[zf,snC,z29,hi,c1,c2,zg,zH]
   by_cases c3:s.ins[i].qX<0
   ·simp[zf,snC,z29,hi,c1,c2,c3,zg,zH]
   by_cases c4:100<s.ins[i].qX
   ·simp[zf,snC,z29,hi,c1,c2,c3,c4,zg,zH]
   ·simp[c1,c2,c3,c4]at hb)
  (by rw[zj z2R.eq_1];simp[snC,zf])
 have t1:¬s.tick<0:=by omega
 have t2:¬1099511627776<s.tick:=by omega
 have t3:((s.agents.length:Int)==0)=false:=beq_false_of_ne (by omega);have t3':s.agents≠[]:=by intro e;simp[e]at k8
 have t4:¬8<s.agents.length:=by omega
 have t4':¬(8:Int)<s.agents.length:=by omega
 unfold z31;simp only[zf,snC,ji]at hk h1 h2 h3;rw[zUa z3L rfl];by_cases c1:s.agents.any (fun a=>decide (z3z m a≠0))
 ·rw[if_pos c1]at h1 ⊢;simp[z2I,zf,snC,hk,t1,t2,t3,t3',t4,t4',h1,zg]
 ·rw[if_neg c1]at h1 ⊢;cases e2:(List.range s.ins.length).findIdx? (z5F s.agents.length m.kh.length s.ins)with
  |some i =>
   rw[zRn _ _ e2];rw[e2]at h2;simp[z2I,zf,snC,hk,t1,t2,t3,t3',t4,t4',h1,h2,zg]
  |none =>
   rw[zRq _ _ e2];rw[e2]at h2;cases e3:s.ins.findIdx? (zIY s.tick)with
   |some i =>
    rw[e3]at h3;obtain⟨g1,g2,_⟩:=jP.1 e3;have:s.ins.any (zIY s.tick)=true:=kM.2 ⟨_,jb g1,g2⟩;rw[this];simp[z2I,zf,snC,hk,t1,t2,t3,t3',t4,t4',h1,h2,h3,zg]
   |none =>
    rw[e3]at h3;rw[kZ]at e3;have:s.ins.any (zIY s.tick)=false:=by simpa using e3
    rw[this];simp[z2I,zf,snC,hk,t1,t2,t3,t3',t4,t4',h1,h2,h3,zg]
def z4Q(m:zD)(a:AgV)(i:Nat)(x:Int):Spn:=⟨x,max 0 (a.s-a.len-zb4 m a.jg i),min (a.s-zb4 m a.jg i) (z8 m x)⟩
def z4F(m:zD)(a:AgV):Nat->List Int->List Spn
 |_,[]=>[]
 |i,x::r=>(if(z4Q m a i x).lo<=(z4Q m a i x).hi then [z4Q m a i x] else [])++z4F m a (i+1) r
theorem z51(m:zD)(a:AgV):∀(r:List Int) (i:Nat),(z4F m a i r).length<=r.length
 |[],_=>by simp[z4F]
 |x::r,i=>by
  have:=z51 m a r (i+1);unfold z4F;split<;>simp<;>omega
def z2B(m:zD)(a:AgV):List Spn:=z4F m a 0 a.jg
theorem z38{m:zD}(h:zcp m){a:AgV}(ha:WAg m a):(z2B m a).length<=8:=by
 have:=z51 m a a.jg 0;have:=(ha.on h).2.2;unfold z2B;omega
theorem z59{m:zD}(h:zcp m){a:AgV}(ha:WAg m a):∀(r:List Int) (i:Nat) (out:List Spn),a.jg.drop i=r->i<=a.jg.length->out.length<=i ->
  Y L Cs z2V (some [5,7,6,2,3]) 4 [(5,.w (.c (sl 3 3 (zWx out)))),(7,.w (W i)),(6,.w (.c (.je (zu (zW m 0 a.jg))))),(2,.w (Pt 0)),(3,.w (Pt 1))] [bx 5 (zf m),bx 7 (agC a),gb 3,some (own 3 (zWx out))] =
    some (.exit 0,[(20,.w (Bo false)),(5,.w (.c (sl 3 3 (zWx (out++z4F m a i r))))),(7,.w (W a.jg.length)),(6,.w (.c (.je (zu (zW m 0 a.jg))))),(2,.w (Pt 0)),(3,.w (Pt 1))],[bx 5 (zf m),bx 7 (agC a),gb 3,some (own 3 (zWx (out++z4F m a i r)))]):=by
 obtain⟨hon,hne,hl8⟩:=ha.on h;have hsl:(zW m 0 a.jg).length=a.jg.length:=zcO _ _ _;intro r;induction r with
 |nil =>
  intro i out hd hi ho;obtain rfl:=zUb hd hi;rw[zj z2V.eq_1];simp[z4F,hsl]
 |cons x r ih =>
  intro i out hd hi ho;obtain⟨hil,hx,hd'⟩:=zL hd;have hw:=zB (i:=i) (by omega);have hxm:=hon x (by rw[<-hx];exact jb _);have hL:=zEV h hxm;have hst:=ha.BN h hil;have h1:=ha.s;have h2:=ha.vw h;have h3:=ha.len;have hsi:i<(zW m 0 a.jg).length:=by omega
  have e2:(zW m 0 a.jg)[i]=zb4 m a.jg i:=by simp[zb4,hsi]
  have w1:=kj (a.s-a.len);have w2:=kj (a.s-a.len-zb4 m a.jg i);have w3:=kj (a.s-zb4 m a.jg i);have jX:(out.length+1)*24<=140737488355328:=by omega
  have hci:(i:Int)<a.jg.length:=by omega
  unfold z4F;simp only[zf]at hL;by_cases c:(z4Q m a i x).lo<=(z4Q m a i x).hi
  ·rw[if_pos c,<-jA,<-ih (i+1) (out++[z4Q m a i x]) hd' hil (by simp;omega),zj z2V.eq_1];clear ih;simp only[z4Q]at c;simp[z4Q,zWX,agC,hil,hci,hx,hsl,hsi,e2,hL,zf,hw,w1,w2,w3,c,jX,zg,zH]
  ·rw[if_neg c,jG,<-ih (i+1) out hd' hil (by omega),zj z2V.eq_1];clear ih;simp only[z4Q]at c;simp[agC,hil,hci,hx,hsl,hsi,e2,hL,zf,hw,w1,w2,w3,c,zg,zH]
theorem z5H{m:zD}(h:zcp m){a:AgV}(ha:WAg m a):R L Cs z4p [.a (zf m),.a (agC a)] []=some (.w (.c (.je (zWx (z2B m a)))),[]):=by
 have hl:=z59 h ha a.jg 0 [] rfl (jF _) (jk _);have hS:=zRG h ha.jg;have AX:=z6s h ha;rw[jG]at hl;have e:z4F m a 0 a.jg=z2B m a:=rfl;rw[e]at hl;simp only[zf,agC,ji,sl,own,zZb,jv,zXJ]at hl hS AX;rw[zUa z4v rfl];simp[z3t,zf,agC,AX,hS,hl,zg,zX]
theorem Zel{y:Int}:∀(l:List zfn) (i j:Nat) (h:j<l.length),y∈l[j].next->zes y i l≠[]
 |[],_,j,h,_=>absurd h (by simp)
 |a::l,i,j,h,hy=>by
  unfold zes;split
  ·simp
  ·cases j with
   |zero=>rename_i hn;exact absurd hy hn
   |succ j=>exact Zel l (i+1) j (by simpa using h) (by simpa using hy)
theorem Zea{m:zD}{x y:Int}(h:y∈zS m x):zes y 0 m.jc≠[]:=by
 unfold zS at h;cases hq:m.jc[x.toNat]? with
 |none=>rw[hq]at h;simp at h
 |some l =>
  rw[hq]at h;obtain⟨hl,e⟩:=jZ.1 hq;refine Zel m.jc 0 x.toNat hl ?_;rw[e];simpa using h
theorem Zb8{m:zD}{zs:List Zon}{ss:List Sgn}(hf:zmq m zs ss){r:List Int}(hr:zdA m r=0) :
  ∃x t,r=x::t/\(0<=x/\x<m.jc.length)/\zes x 0 m.jc=[]/\(t=[]\/∃y,t=[y]/\y∈zS m x/\(0<=y/\y<m.jc.length)/\zes y 0 m.jc≠[]/\zaK m y=zaK m x):=by
 obtain⟨hon,hne,_⟩:=zg1 hf.qt hr;have h2:=zlP hf.yT hr;cases r with
 |nil=>exact absurd rfl hne
 |cons x t =>
  have hbg:zes x 0 m.jc=[]/\goF m x t=true:=by
   simp only[zdA]at hr
   (repeat' split at hr)<;>first |(exact absurd hr (by decide)) |(rename_i h g;exact⟨k7 fun hc=>h hc,g⟩)
  obtain⟨hb,hg⟩:=hbg;refine⟨x,t,rfl,hon x (by simp),hb,?_⟩;cases t with
  |nil=>exact .inl rfl
  |cons y t =>
   cases t with
   |cons z t=>simp at h2
   |nil =>
    have hy:y∈zS m x:=by simpa [goF,zS]using hg
    exact .inr ⟨y,rfl,hy,hon y (by simp),Zea hy,hf.yT.kn x y hy⟩
theorem ZdA{m:zD}{x:Int}(hx:0<=x/\x<m.jc.length)(h:zes x 0 m.jc=[]):x∈zbK m 0 m.jc:=by
 rw[zqS];exact⟨x.toNat,by omega,by omega,h⟩
theorem Zdp(m:zD)(a:AgV)(p:Spn):∀(r:List Int) (i:Nat),p∈z4F m a i r<->∃(j:Nat) (h:j<r.length),p=z4Q m a (i+j) r[j]/\p.lo<=p.hi
 |[],i=>by simp[z4F]
 |x::r,i=>by
  have ih:=Zdp m a p r (i+1);unfold z4F;rw[jr,ih];constructor
  ·rintro(h |⟨j,hj,e,hp⟩)
   ·split at h
    ·simp at h;subst h;exact⟨0,by simp,rfl,by assumption⟩
    ·cases h
   ·exact⟨j+1,by simpa using hj,by rw[e];simp[kv,vS 1 j],hp⟩
  ·rintro⟨j,hj,e,hp⟩;cases j with
   |zero =>
    left;simp only[kP,List.getElem_cons_zero]at e;rw[<-e,if_pos hp];simp
   |succ j=>exact .inr ⟨j,by simpa using hj,by rw[e];simp[kv,vS 1 j],hp⟩
theorem Zb9{m:zD}{a:AgV}{p:Spn}:p∈z2B m a<->∃(j:Nat) (h:j<a.jg.length),p=z4Q m a j a.jg[j]/\p.lo<=p.hi:=by
 unfold z2B;rw[Zdp];simp
theorem ZeA{x fr to:Int}{b:zk}{o:Int}(h1:b.lo<=o)(h2:o<=b.hi)(h:b.lane=x->fr<=to->o<fr\/to<o):∃c∈zoX x fr to b,c.lane=b.lane/\c.lo<=o/\o<=c.hi/\c.vlo=b.vlo/\c.vhi=b.vhi/\c.hold=b.hold/\(∀p q,p<=o->o<=q->b.lo<=p->q<=b.hi->(b.lane=x->fr<=to->q<fr\/to<p)->c.lo<=p/\q<=c.hi):=by
 unfold zoX;split
 ·exact⟨b,by simp,rfl,h1,h2,rfl,rfl,rfl,fun p q _ _ hp hq _=>⟨hp,hq⟩⟩
 ·rename_i hc;have c1:b.lane=x:=by omega
  have c2:fr<=to:=by omega
  rcases h c1 c2 with h|h
  ·refine⟨{ b with hi:=fr-1 },?_,rfl,h1,by show o<=fr-1;omega,rfl,rfl,rfl,fun p q hp hq a1 a2 a3=>?_⟩
   ·rw[jr,if_pos (by omega)];simp
   ·have:=a3 c1 c2;exact⟨a1,by show q<=fr-1;omega⟩
  ·refine⟨{ b with lo:=to+1 },?_,rfl,by show to+1<=o;omega,h2,rfl,rfl,rfl,fun p q hp hq a1 a2 a3=>?_⟩
   ·rw[jr,if_pos (show to<b.hi by omega)];simp
   ·have:=a3 c1 c2;exact⟨by show to+1<=p;omega,a2⟩
theorem Zc3(m:zD)(e:Ego)(len:Int)(x p q:Int)(hpq:p<=q):∀(r:List Int) (a:Int) (l:List zk) (b:zk),b∈l->b.lane=x->b.lo<=p->q<=b.hi->(∀(i:Nat) (h:i<r.length),r[i]=x->q<e.shi-len-(zW m a r).getD i 0\/e.slo-(zW m a r).getD i 0<p) ->
  ∃c∈zpO m e len a r l,c.lane=x/\c.lo<=p/\q<=c.hi/\c.vlo=b.vlo/\c.vhi=b.vhi/\c.hold=b.hold
 |[],a,l,b,hb,hx,h1,h2,_=>⟨b,hb,hx,h1,h2,rfl,rfl,rfl⟩
 |y::r,a,l,b,hb,hx,h1,h2,hg=>by
  unfold zpO;have h0:b.lane=y->e.shi-len-a<=e.slo-a->q<e.shi-len-a\/e.slo-a<p:=fun hy _=>by
   have:=hg 0 (by simp) (by simp;omega);simpa [zW]using this
  obtain⟨c,hc,e1,e2,e3,e4,e5,e6,e7⟩:=ZeA (x:=y) (fr:=e.shi-len-a) (to:=e.slo-a) (b:=b) (o:=p) h1 (by omega) (fun hy hf=>by have:=h0 hy hf;omega);obtain⟨g1,g2⟩:=e7 p q (by omega) (by omega) h1 h2 h0;obtain⟨d,hd,f1,f2,f3,f4,f5,f6⟩:=Zc3 m e len x p q hpq r (a+z8 m y) (zhn y (e.shi-len-a) (e.slo-a) l) c (zUl.2 ⟨b,hb,hc⟩) (by omega) g1 g2 (fun i hi hr=>by
   have:=hg (i+1) (by simpa using hi) (by simpa using hr);simpa [zW]using this)
  exact⟨d,hd,f1,f2,f3,by omega,by omega,by omega⟩
theorem Zc5(m:zD)(e:Ego)(len:Int){x p q:Int}(hpq:p<=q)(r:List Int)(l:List zk)(b:zk)(hb:b∈l)(hx:b.lane=x)(h1:b.lo<=p)(h2:q<=b.hi)(hg:∀(i:Nat) (h:i<r.length),r[i]=x->q<e.shi-len-zb4 m r i\/e.slo-zb4 m r i<p) :
  ∃c∈zkr m e len r l,c.lane=x/\c.lo<=p/\q<=c.hi/\c.vlo=b.vlo/\c.vhi=b.vhi/\c.hold=b.hold:=by
 unfold zkr;split
 ·exact Zc3 m e len x p q hpq r 0 l b hb hx h1 h2 hg
 ·exact⟨b,hb,hx,h1,h2,rfl,rfl,rfl⟩
theorem Zdq{K:List zk}(hK:K.Pairwise Apt){b c:zk}(hb:b∈K)(hc:c∈K){x o u:Int}(h1:b.lane=x)(h2:c.lane=x)(hou:o<=u+1/\u<=o+1)(a1:b.lo<=o)(a2:o<=b.hi)(a3:c.lo<=u)(a4:u<=c.hi):b=c:=by
 rcases zUM hK hb hc with h|h|h
 ·exact h
 ·unfold Apt at h;omega
 ·unfold Apt at h;omega
theorem Zdc{K:List zk}(hK:K.Pairwise Apt)(x v p:Int):∀(n:Nat),(∀o,p<=o->o<=p+n->∃b∈K,b.lane=x/\b.lo<=o/\o<=b.hi/\b.vlo<=v/\v<=b.vhi)->∃b∈K,b.lane=x/\b.lo<=p/\p+n<=b.hi/\b.vlo<=v/\v<=b.vhi
 |0,h=>by
  obtain⟨b,hb,e⟩:=h p (by omega) (by omega);exact⟨b,hb,e.1,e.2.1,by simpa using e.2.2.1,e.2.2.2⟩
 |n+1,h=>by
  obtain⟨b,hb,e1,e2,e3,e4⟩:=Zdc hK x v p n (fun o h1 h2=>h o h1 (by omega));obtain⟨c,hc,f1,f2,f3,f4⟩:=h (p+(n+1:Nat)) (by omega) (by omega);have:=Zdq hK hb hc e1 f1 (o:=p+n) (u:=p+(n+1:Nat)) (by omega) (by omega) e3 f2 f3;subst this;exact⟨b,hb,e1,e2,f3,e4⟩
def ZdE(f v next b r:Int):Prop:=f<r->f+zet v b<r->f+next+zet next b<r
def frF(m:zD)(a:AgV):Int:=a.s-zb4 m a.jg (z4R m a)
structure Mvd(m:zD)(red:List Int)(a b:AgV):Prop where
 jg:b.jg=a.jg
 len:b.len=a.len
 start:b.start=a.start
 uQ:b.uQ=a.uQ
 s:b.s=a.s+b.v
 pos:0<=b.v
 lo:a.v-zd4 (zaK m (z42 m a))<=b.v
 hi:b.v<=a.v+zif (zaK m (z42 m a))/\b.v<=zeR (zaK m (z42 m a))
 gone:b.gone=decide (zmd m 0 a.jg<b.s-a.len)
 red:a.uQ=true->frF m a<=z8 m (z42 m a)->∀l∈red,ZdE (frF m a) a.v b.v (zd4 (zaK m (z42 m a))) l
theorem Zdh{m:zD}{a:AgV}{x:Int}(h:a.jg=[x]):z4R m a=0/\z42 m a=x/\zb4 m a.jg 0=0:=by
 unfold z42 z4R zb4;rw[h];have:laF [0] a.s 1=0:=by unfold laF;split<;>rfl
 simp[this,zW]
theorem ZcN{m:zD}{a:AgV}{x y:Int}(h:a.jg=[x,y]):zb4 m a.jg 0=0/\zb4 m a.jg 1=z8 m x/\(z8 m x<=a.s->z4R m a=1/\z42 m a=y)/\(a.s<z8 m x->z4R m a=0/\z42 m a=x):=by
 have e:zW m 0 [x,y]=[0,z8 m x]:=by simp[zW]
 have h1:z8 m x<=a.s->laF [0,z8 m x] a.s 2=1:=fun h=>by
  unfold laF;rw[if_pos (by simpa using h)]
 have h2:a.s<z8 m x->laF [0,z8 m x] a.s 2=0:=fun h=>by
  unfold laF;rw[if_neg (by simpa using h)];unfold laF;split<;>rfl
 unfold z42 z4R zb4;rw[h,e];refine⟨by simp,by simp,fun hs=>?_,fun hs=>?_⟩
 ·simp[h1 hs]
 ·simp[h2 hs]
theorem ZdF{m:zD}{zs:List Zon}{ss:List Sgn}(hf:zmq m zs ss){a:AgV}(ha:WAg m a):∃hj:z4R m a<a.jg.length,a.jg[z4R m a]=z42 m a/\0<=frF m a:=by
 obtain⟨x,t,er,hx,hxs,ht⟩:=Zb8 hf ha.jg;have hs0:=ha.s.1;refine⟨ha.Bu hf.qt,?_,?_⟩
 ·have h:=ha.Bu hf.qt;simp[z42,jm,h]
 ·unfold frF;rcases ht with rfl |⟨y,rfl,hy,hyo,hys,hky⟩
  ·obtain⟨a1,a2,a3⟩:=Zdh (m:=m) er;rw[a1,a3];omega
  ·obtain⟨a0s,a1s,a2,a3⟩:=ZcN (m:=m) er;by_cases hc:z8 m x<=a.s
   ·rw[(a2 hc).1,a1s];omega
   ·rw[(a3 (by omega)).1,a0s];omega
theorem ZdB{m:zD}{r:List Int}{bar:Int}{b:zk}{lo hi:Int}{cap:Bool}{o:Int}(h0:0<=o)(h1:lo<=o)(h2:o<=hi)(h3:o<=z8 m b.lane)(hc:cap=true->∀i,zgo r b.lane=some i->o<=bar-zb4 m r i) :
  ∃z∈zbA m r bar b lo hi cap,z.1.lane=b.lane/\z.1.lo<=o/\o<=z.1.hi/\z.1.vlo=b.vlo/\z.1.vhi=b.vhi/\z.1.hold=b.hold:=by
 have ht:o<=zcj m r bar b.lane hi cap:=by
  unfold zcj;cases hq:zgo r b.lane with
  |none=>show o<=min hi _;omega
  |some i =>
   show o<=if cap=true then _ else _
   split
   ·rename_i hcc;have:=hc hcc i hq;omega
   ·omega
 refine⟨(zhO m r bar b lo hi cap,zcV r b.lane cap),?_,rfl,?_,ht,rfl,rfl,rfl⟩
 ·unfold zbA;rw[if_pos ?_]
  ·simp
  ·unfold stays;have e1:lo<=z8 m b.lane:=by omega
   have e2:max 0 lo<=zcj m r bar b.lane hi cap:=by omega
   rw[decide_eq_true e1,decide_eq_true e2];rfl
 ·show max 0 lo<=o;omega
theorem ZdD{m:zD}{zs:List Zon}{ss:List Sgn}(hf:zmq m zs ss){a a':AgV}{tick:Int}(hm:Mvd m (zeA zs ss (z42 m a) tick) a a')(hob:a.uQ=true){x st:Int}(hx:0<=x/\x<m.jc.length)
  (hfr:st<=a.s->a.s<st+z8 m x->z42 m a=x/\zb4 m a.jg (z4R m a)=st) {b:zk} (hb:VB m b) (hl:b.lane=x) (hp:max 0 (a.s-a.len-st)<=min (a.s-st) (z8 m x)) (h1:b.lo<=max 0 (a.s-a.len-st)) (h2:min (a.s-st) (z8 m x)<=b.hi) (hv:a.v<=b.vhi)
  (hh:b.lane=z42 m a->b.lo<=frF m a->frF m a<=b.hi->b.hold=0\/frF m a+zet a.v (zd4 (zaK m (z42 m a)))<b.hold) {line:Int} (hln:line∈zeA zs ss b.lane tick) (hq:zcY m b line=true):line<z8 m x/\a'.s-st+zet a'.v (zd4 (zaK m x))<line:=by
 have hn:=(zuT hf hln).2;rw[hl]at hn;refine⟨hn,?_⟩;unfold zcY at hq;simp only[jh,qk,decide_eq_true_eq]at hq;obtain⟨q1,q2⟩:=hq;have e1:a.s-st<=b.hi:=by omega
 obtain⟨f1,f2⟩:=hfr (by omega) (by omega);have hs:=hm.s;have ht:=(Bc (zu9 hf.qt hx)).1;have hfe:frF m a=a.s-st:=by unfold frF;rw[f2]
 have key:frF m a+zet a.v (zd4 (zaK m x))<line:=by
  rcases q2 with q2 |⟨q2,q3⟩
  ·rw[hl]at q2;have:=zUE ht b.vhi.toNat a.v b.vhi hv (by omega);omega
  ·rcases hh (by rw[hl,f1]) (by omega) (by omega)with h|h
   ·exact absurd h q2
   ·rw[f1]at h;omega
 have hr:=hm.red hob (by rw[hfe,f1];omega) line (by rw[f1,<-hl];exact hln);unfold ZdE at hr;rw[f1]at hr;have:=hr (by omega) key;omega
theorem Zc6(m:zD)(zs:List Zon)(ss:List Sgn)(k:zci)(sg:Bool)(b:zk):(mvF m zs ss k sg b).lane=b.lane/\(mvF m zs ss k sg b).lo=(if decide (b.lane∈zbK m 0 m.jc)=true/\b.lo=0 then 0 else b.lo+zcW m b)/\(mvF m zs ss k sg b).vlo=zcW m b/\(mvF m zs ss k sg b).vhi=zde m b /\
  ((mvF m zs ss k sg b).hi=b.hi+zde m b/\(mvF m zs ss k sg b).hold=0\/sg=true/\∃line∈zeA zs ss b.lane k.tick,zcY m b line=true/\(mvF m zs ss k sg b).hi=min (b.hi+zde m b) (line-1)/\(mvF m zs ss k sg b).hold=line):=by
 refine⟨rfl,rfl,rfl,rfl,?_⟩;unfold mvF zdC;cases sg with
 |false=>exact .inl ⟨rfl,rfl⟩
 |true =>
  cases hq:(zeA zs ss b.lane k.tick).find? (zcY m b)with
  |none=>left;simp[hq]
  |some line=>exact .inr ⟨rfl,line,kY hq,uk hq,by simp[hq],by simp[hq]⟩
theorem Zdm{m:zD}{red:List Int}{a a':AgV}(hm:Mvd m red a a'){b:zk}(hk:zaK m b.lane=zaK m (z42 m a))(h1:b.vlo<=a.v)(h2:a.v<=b.vhi):zcW m b<=a'.v/\a'.v<=zde m b:=by
 have e1:=hm.pos;have e2:=hm.lo;have e3:=hm.hi;unfold zcW zde;rw[hk];omega
theorem Zdf{m:zD}{zs:List Zon}{ss:List Sgn}(hf:zmq m zs ss){a a':AgV}{k:zci}(hm:Mvd m (zeA zs ss (z42 m a) k.tick) a a')(sg:Bool)(hob:sg=true->a.uQ=true){x st:Int}(hx:0<=x/\x<m.jc.length)(hkx:zaK m x=zaK m (z42 m a))
  (hfr:st<=a.s->a.s<st+z8 m x->z42 m a=x/\zb4 m a.jg (z4R m a)=st) {b:zk} (hb:VB m b) (hl:b.lane=x) (hp:max 0 (a.s-a.len-st)<=min (a.s-st) (z8 m x)) (h1:b.lo<=max 0 (a.s-a.len-st)) (h2:min (a.s-st) (z8 m x)<=b.hi) (hv1:b.vlo<=a.v) (hv:a.v<=b.vhi)
  (hh:sg=true->b.lane=z42 m a->b.lo<=frF m a->frF m a<=b.hi->b.hold=0\/frF m a+zet a.v (zd4 (zaK m (z42 m a)))<b.hold)
  {o:Int} (ho:0<=o) (hon:o<=z8 m x) (ho1:a'.s-a.len-st<=o) (ho2:o<=a'.s-st) (htail:o-a'.v<0->st=0/\x∈zbK m 0 m.jc)
  {r:List Int} {bar slo len:Int} (uH:zfP m r len k b=true->∀i,zgo r x=some i->o<=bar-zb4 m r i) :
  ∃z∈zm8 m zs ss r bar slo len k sg b,z.1.lane=x/\z.1.lo<=o/\o<=z.1.hi/\z.1.vlo<=a'.v/\a'.v<=z.1.vhi/\(z.1.hold=0\/sg=true/\o+zet a'.v (zd4 (zaK m x))<z.1.hold):=by
 obtain⟨e1,e2,e3,e4,e5⟩:=Zc6 m zs ss k sg b;obtain⟨s1,s2⟩:=Zdm hm (by rw[hl];exact hkx) hv1 hv;have hs:=hm.s;have hlo:=hb.lo;have qs:=hm.pos;have hst:=zVc (Bc (zu9 hf.qt hx)).1 a'.v.toNat a'.v (by omega);have c1:(mvF m zs ss k sg b).lo<=o:=by
  rw[e2];split
  ·exact ho
  ·rename_i hn;by_cases hy:o-a'.v<0
   ·obtain⟨t1,t2⟩:=htail hy;subst t1;exact absurd ⟨decide_eq_true (by rw[hl];exact t2),by omega⟩ hn
   ·omega
 have Cb:∃hd,(mvF m zs ss k sg b).hold=hd/\o<=(mvF m zs ss k sg b).hi/\(hd=0\/sg=true/\o+zet a'.v (zd4 (zaK m x))<hd):=by
  rcases e5 with⟨f1,f2⟩ |⟨hsg,line,f1,f2,f3,f4⟩
  ·refine⟨_,rfl,?_,.inl f2⟩;rw[f1];omega
  ·obtain⟨l1,l2⟩:=ZdD hf hm (hob hsg) hx hfr hb hl hp h1 h2 hv (hh hsg) f1 f2;refine⟨_,rfl,?_,.inr ⟨hsg,?_⟩⟩
   ·rw[f3];omega
   ·rw[f4];omega
 obtain⟨hd,q1,q2,q3⟩:=Cb;obtain⟨z,hz,z1,z2,z3,z4,z5,z6⟩:=ZdB (m:=m) (r:=r) (bar:=bar) (b:=mvF m zs ss k sg b) (lo:=(mvF m zs ss k sg b).lo) (hi:=(mvF m zs ss k sg b).hi) (cap:=zfP m r len k b) ho c1 q2 (by rw[e1,hl];exact hon) (by rw[e1,hl];exact uH);refine⟨z,?_,by omega,z2,z3,by omega,by omega,by rw[z6,q1];exact q3⟩;unfold zm8;rw[if_pos (by omega)];unfold zlZ;exact jW _ hz
theorem Zes{m:zD}{zs:List Zon}{ss:List Sgn}(hf:zmq m zs ss){a a':AgV}{k:zci}(hm:Mvd m (zeA zs ss (z42 m a) k.tick) a a')(sg:Bool)(hob:sg=true->a.uQ=true){x y:Int}(hx:0<=x/\x<m.jc.length)(hsx:x∈zbK m 0 m.jc)(hy:y∈zS m x)(hkx:zaK m x=zaK m (z42 m a))
  (hfr:0<=a.s->a.s<0+z8 m x->z42 m a=x/\zb4 m a.jg (z4R m a)=0) {b:zk} (hb:VB m b) (hl:b.lane=x) (hs0:0<=a.s) (hp:max 0 (a.s-a.len)<=min a.s (z8 m x)) (h1:b.lo<=max 0 (a.s-a.len)) (h2:min a.s (z8 m x)<=b.hi) (hv1:b.vlo<=a.v) (hv:a.v<=b.vhi)
  (hh:sg=true->b.lane=z42 m a->b.lo<=frF m a->frF m a<=b.hi->b.hold=0\/frF m a+zet a.v (zd4 (zaK m (z42 m a)))<b.hold)
  {o:Int} (ho:0<=o) (hon:o<=z8 m y) (ho1:a'.s-a.len-z8 m x<=o) (ho2:o<=a'.s-z8 m x) (BF:o-a'.v<0)
  {r:List Int} {bar slo len:Int} (uH:zhq m r slo x y (zfP m r len k b)=true->∀i,zgo r y=some i->o<=bar-zb4 m r i) :
  ∃z∈zm8 m zs ss r bar slo len k sg b,z.1.lane=y/\z.1.lo<=o/\o<=z.1.hi/\z.1.vlo<=a'.v/\a'.v<=z.1.vhi/\z.1.hold=0:=by
 obtain⟨e1,e2,e3,e4,e5⟩:=Zc6 m zs ss k sg b;obtain⟨s1,s2⟩:=Zdm hm (by rw[hl];exact hkx) hv1 hv;have hs:=hm.s;have hlo:=hb.lo;have qs:=hm.pos;have hst:=zVc (Bc (zu9 hf.qt hx)).1 a'.v.toNat a'.v (by omega);have c1:(mvF m zs ss k sg b).lo<=o+z8 m x:=by
  rw[e2];split
  ·omega
  ·rename_i hn;by_cases hy:b.lo=0
   ·exact absurd ⟨decide_eq_true (by rw[hl];exact hsx),hy⟩ hn
   ·omega
 have c2:o+z8 m x<=(mvF m zs ss k sg b).hi:=by
  rcases e5 with⟨f1,f2⟩ |⟨hsg,line,f1,f2,f3,f4⟩
  ·rw[f1];omega
  ·obtain⟨l1,l2⟩:=ZdD (st:=0) hf hm (hob hsg) hx hfr hb hl (by simpa using hp) (by simpa using h1) (by simpa using h2) hv (hh hsg) f1 f2;omega
 obtain⟨z,hz,z1,z2,z3,z4,z5,z6⟩:=ZdB (m:=m) (r:=r) (bar:=bar) (b:=za6 (mvF m zs ss k sg b) y) (lo:=(mvF m zs ss k sg b).lo-z8 m x) (hi:=(mvF m zs ss k sg b).hi-z8 m x) (cap:=zhq m r slo x y (zfP m r len k b)) ho (by omega) (by omega) hon uH;refine⟨z,?_,z1,z2,z3,?_,?_,z6⟩
 ·unfold zm8;rw[if_pos (by omega)];unfold zlZ;refine kD _ ?_;rw[e1,hl,if_neg (by omega),kL];refine⟨y,hy,?_⟩;unfold zg3;rw[e1,hl];exact hz
 ·rw[z4];exact e3 ▸ s1
 ·rw[z5];exact e4 ▸ s2
structure z7y(m:zD)(zs:List Zon)(ss:List Sgn):Prop where
 full:zmq m zs ss
 pos:0<m.jc.length
 zn2:zs.length<=2
 srt:∀l,zdA m l=0->zN1 (zKh m zs 0 l)
 few:∀l,zdA m l=0->(zKh m zs 0 l).length<=19
theorem z7A(k:Nat)(hk:k<7){lim r o1 o2 o3 v:Int}{ws:List zCP}(nu:zp2 k lim r o1 o2 o3 v ws):z7y (zq k lim r o1 o2 o3 v ws) (zsP k r) (ssP k r o1 o2 o3):=by
 have hf:=zCE k hk nu;obtain⟨z1,z2⟩:=zOQ k hk r;refine⟨hf,zE9 k hk _ _ _ _ _ _ _,z1,fun l hr=>zMq (zTp hf.yT (zQa k hk lim r o1 o2 o3 v ws) hr),fun l hr=>?_⟩;have:=zOu hf z1 z2 hr;omega
def z5u(m:zD)(zs:List Zon)(a b:AgV)(z:Int)(p:Pss):Bool:=decide (p.uf=z)&&decide (a.s-a.len<=p.hi)&&decide (p.lo<=b.s)
def Zb7(m:zD)(zs:List Zon)(a b:AgV)(z:Int):Bool:=(zKh m zs 0 a.jg).any (z5u m zs a b z)
theorem z4G{m:zD}{zs:List Zon}{ss:List Sgn}(hF:z7y m zs ss){a b:AgV}(ha:WAg m a)(hb:WAg m b)(z:Int):R L Cs z3B [.a (zf m),.a (agC a),.a (agC b),W z] []=some (.w (Bo (Zb7 m zs a b z)),[]):=by
 have h:=hF.full.qt;have hP:=zRH hF.full ha.jg (hF.srt _ ha.jg) (hF.few _ ha.jg);have hpl:=hF.few _ ha.jg;have AX:=z6s h ha;have Cp:=z6s h hb;have h1:=ha.s;have h2:=ha.vw h;have h3:=ha.len;have w1:=kj (a.s-a.len);unfold Zb7;generalize zKh m zs 0 a.jg=ps at *;have hL:=zpE (L:=L) (Cs:=Cs) (b:=z2L) (live:=some [3,5,6,9,10]) (n0:=3) ps (fun i=>[(3,.w (W z)),(5,.w (Pt 1)),(6,.w (Pt 2)),(9,.w (.c (.je (zKd ps)))),(10,.w (W i))]) [bx 5 (zf m),bx 7 (agC a),bx 7 (agC b)] (z5u m zs a b z) (.ret,[(8,.w (Bo true))],[bx 5 (zf m),bx 7 (agC a),bx 7 (agC b)]) (.exit 0,[(26,.w (Bo false)),(9,.w (.c (.je (zKd ps)))),(6,.w (Pt 2)),(5,.w (Pt 1)),(3,.w (W z)),(10,.w (W ps.length))],[bx 5 (zf m),bx 7 (agC a),bx 7 (agC b)])
  (fun i hi hc=>by
   have hw:=zB (i:=i) (by omega);generalize hp:ps[i]=p at *;unfold z5u at hc;rw[zj z2L.eq_1];by_cases c1:p.uf=z
   ·have b1:(p.uf==z)=true:=by simp[c1]
    by_cases c2:a.s-a.len<=p.hi
    ·have c3:¬p.lo<=b.s:=by simpa [c1,c2]using hc
     simp[zf,agC,zKF,hi,hp,hw,w1,b1,c2,c3]
    ·simp[zf,agC,zKF,hi,hp,hw,w1,b1,c2]
   ·have b1:(p.uf==z)=false:=by simp[c1]
    simp[zf,agC,zKF,hi,hp,hw,w1,b1])
  (fun i hi hc=>by
   generalize hp:ps[i]=p at *;unfold z5u at hc;simp only[jh,decide_eq_true_eq]at hc;obtain⟨⟨c1,c2⟩,c3⟩:=hc;have b1:(p.uf==z)=true:=by simp[c1]
   rw[zj z2L.eq_1];simp[zf,agC,zKF,hi,hp,w1,b1,c2,c3])
  (by rw[zj z2L.eq_1];simp[zf,agC])
 simp only[zf,agC,ji]at hP AX Cp hL;rw[zUa z34 rfl];cases hq:ps.any (z5u m zs a b z)with
 |true =>
  rw[hq]at hL;simp[z24,zf,agC,hP,AX,Cp,hL,zg]
 |false =>
  rw[hq]at hL;simp[z24,zf,agC,hP,AX,Cp,hL,zg]
theorem z5x(st:Int)(z:Nat)(x:Int):∀(l:List Prt) (k:Nat) (p:Pss),p∈zLB st z x k l->p.uf=z/\∃q∈l,q.lane=x
 |[],_,_,h=>by simp[zLB]at h
 |q::l,k,p,h=>by
  unfold zLB at h;split at h
  ·rename_i c;rcases jD.1 h with rfl|h
   ·exact⟨rfl,q,by simp,c⟩
   ·obtain⟨h1,q',h2,h3⟩:=z5x st z x l _ p h;exact⟨h1,q',by simp[h2],h3⟩
  ·obtain⟨h1,q',h2,h3⟩:=z5x st z x l _ p h;exact⟨h1,q',by simp[h2],h3⟩
theorem z6m(st x:Int):∀(l:List Zon) (z:Nat) (p:Pss),p∈zLA st x z l->∃j:Nat,∃hj:j<l.length,p.uf=((z+j:Nat):Int)/\∃q∈l[j].parts,q.lane=x
 |[],_,_,h=>by simp[zLA]at h
 |q::l,z,p,h=>by
  unfold zLA at h;rcases jr.1 h with h|h
  ·obtain⟨h1,h2⟩:=z5x st z x _ _ p h;exact⟨0,by simp,by simpa using h1,by simpa using h2⟩
  ·obtain⟨j,hj,h1,h2⟩:=z6m st x l (z+1) p h;exact⟨j+1,by simp;omega,by rw[h1];congr 1;omega,by simpa using h2⟩
theorem z6n(m:zD)(zs:List Zon):∀(r:List Int) (a:Int) (p:Pss),p∈zKh m zs a r->∃x∈r,∃j:Nat,∃hj:j<zs.length,p.uf=(j:Int)/\∃q∈zs[j].parts,q.lane=x
 |[],_,_,h=>by simp[zKh]at h
 |x::r,a,p,h=>by
  unfold zKh at h;rcases jr.1 h with h|h
  ·obtain⟨j,hj,h1,h2⟩:=z6m a x zs 0 p h;exact⟨x,by simp,j,hj,by simpa using h1,h2⟩
  ·obtain⟨y,hy,h'⟩:=z6n m zs r _ p h;exact⟨y,by simp[hy],h'⟩
def z6b(q:Zon)(l:List Int):Option Nat:=l.findIdx? fun x=>(zjF q x).isSome
theorem z5g{m:zD}{zs:List Zon}{ss:List Sgn}(hf:zmq m zs ss){l:List Int}(hr:zdA m l=0)(z:Nat)(hz:z<zs.length) :
  R L Cs z4b [.a (zf m),.c (.je (zu l)),W z] []=some (.w (W (match z6b zs[z] l with |some i=>(i:Int) |none=>-1)),[]):=by
 obtain⟨_,_,hl8⟩:=zg1 hf.qt hr;have h1:=zp0 m hf.qt.small hf.qt.Au l (by omega);rw[hr]at h1;have hzz:=hf.zd.z;have hcz:(z:Int)<zs.length:=by omega
 have hpf:=hf.zd.Bw _ (jb hz);have hL:=zxf (L:=L) (Cs:=Cs) (b:=z2S) (live:=some [3,2,1,7]) (n0:=1) l (fun i=>[(3,.w (Pt 0)),(2,.w (W z)),(1,.w (.c (.je (zu l)))),(7,.w (W i))]) [bx 5 (zf m)] (fun x=>(zjF zs[z] x).isSome) (fun i=>(.ret,[(6,.w (W i))],[bx 5 (zf m),bxv 1 4 (zeB ((zjF zs[z] (l.getD i 0)).getD zto))])) (.exit 0,[(28,.w (Bo false)),(1,.w (.c (.je (zu l)))),(2,.w (W z)),(3,.w (Pt 0)),(7,.w (W l.length))],[bx 5 (zf m)])
  (fun i hi hb=>by
   have hw:=zB (i:=i) (by omega);have hp:=zxM zs[z] l[i] (by omega);rw[hb]at hp;generalize hx:l[i]=x at *;generalize (zjF zs[z] x).getD zto=y at *;simp only[zeB,zdP]at hp;rw[zj z2S.eq_1];simp[zf,hzz,zdP,zeB,hi,hz,hcz,hx,hw,hp,zg,zH])
  (fun i hi hb=>by
   have hp:=zxM zs[z] l[i] (by omega);rw[hb]at hp;rw[show l.getD i 0=l[i] by simp[hi]];generalize hx:l[i]=x at *;generalize (zjF zs[z] x).getD zto=y at *;simp only[zeB,zdP]at hp;rw[zj z2S.eq_1];simp[zf,hzz,zdP,zeB,hi,hz,hcz,hx,hp,zg,zH])
  (by rw[zj z2S.eq_1];simp[zf])
 have z0:¬(z:Int)<0:=by omega
 have z1:¬zs.length<=z:=by omega
 simp only[zf,hzz,ji]at h1 hL;rw[zUa z4j rfl];unfold z6b;cases hq:l.findIdx? (fun x=>(zjF zs[z] x).isSome)with
 |none =>
  rw[hq]at hL;simp[z3c,zf,hzz,h1,hL,hz,hcz,z0,z1,zg]
 |some i =>
  rw[hq]at hL;simp[z3c,zf,hzz,h1,hL,hz,hcz,z0,z1,zg]
theorem z5Z{m:zD}{zs:List Zon}{a b:AgV}{z:Nat}(hz:z<zs.length)(hp:Zb7 m zs a b z=true):∃i,z6b zs[z] a.jg=some i/\i<a.jg.length:=by
 unfold Zb7 at hp;obtain⟨p,hp1,hp2⟩:=kM.1 hp;obtain⟨x,hx,j,hj,h1,q,h2,h3⟩:=z6n m zs a.jg 0 p hp1;unfold z5u at hp2;simp only[jh,decide_eq_true_eq]at hp2;have e:j=z:=by have:=hp2.1.1;omega
 subst e;unfold z6b;cases hq:a.jg.findIdx? (fun x=>(zjF zs[j] x).isSome)with
 |some i =>
  obtain⟨g1,_⟩:=jP.1 hq;exact⟨i,rfl,g1⟩
 |none =>
  rw[kZ]at hq;have:=hq x hx;unfold zjF at this;simp at this;exact absurd h3 (this q h2)
def z5a(x y:Spn):Bool:=decide (x.lane=y.lane)&&decide (x.lo<=y.hi)&&decide (y.lo<=x.hi)
abbrev toM(m:zD)(a b:AgV):Mem:=[bx 5 (zf m),bx 7 (agC a),bx 7 (agC b)]
def ZbU(m:zD)(a b:AgV):Bool:=(z2B m a).any fun x=>(z2B m b).any (z5a x)
theorem z5Q(m:zD)(a b:AgV)(k l:List Spn)(hk:k.length<=8)(hl:l.length<=8)(i:Nat)(hi:i<k.length):Y L Cs z2A (some [8,7,9,10]) 3 [(8,.w (.c (.je (zWx l)))),(7,.w (.c (.je (zWx k)))),(9,.w (W i)),(10,.w (W (0:Nat)))] (toM m a b) =
  some (if l.any (z5a k[i]) then(.ret,[(6,.w (Bo true))],toM m a b) else(.exit 2,[(26,.w (Bo false)),(9,.w (W i)),(7,.w (.c (.je (zWx k)))),(8,.w (.c (.je (zWx l)))),(10,.w (W l.length))],toM m a b)):=by
 have hci:(i:Int)<k.length:=by omega
 generalize hx:k[i]=x at *;refine zpE (L:=L) (Cs:=Cs) (b:=z2A) (live:=some [8,7,9,10]) (n0:=3) l (fun j=>[(8,.w (.c (.je (zWx l)))),(7,.w (.c (.je (zWx k)))),(9,.w (W i)),(10,.w (W j))]) (toM m a b) (z5a x) _ _ ?_ ?_ ?_
 ·intro j hj hb;have hw:=zB (i:=j) (by omega);generalize hy:l[j]=y at *;unfold z5a at hb;rw[zj z2A.eq_1];by_cases c1:x.lane=y.lane
  ·have b1:(x.lane==y.lane)=true:=by simp[c1]
   by_cases c2:x.lo<=y.hi
   ·have c3:¬y.lo<=x.hi:=by simpa [c1,c2]using hb
    simp[toM,zf,agC,zWX,hi,hci,hj,hx,hy,hw,b1,c2,c3]
   ·simp[toM,zf,agC,zWX,hi,hci,hj,hx,hy,hw,b1,c2]
  ·have b1:(x.lane==y.lane)=false:=by simp[c1]
   simp[toM,zf,agC,zWX,hi,hci,hj,hx,hy,hw,b1]
 ·intro j hj hb;generalize hy:l[j]=y at *;unfold z5a at hb;simp only[jh,decide_eq_true_eq]at hb;obtain⟨⟨c1,c2⟩,c3⟩:=hb;have b1:(x.lane==y.lane)=true:=by simp[c1]
  rw[zj z2A.eq_1];simp[toM,zf,agC,zWX,hi,hci,hj,hx,hy,b1,c2,c3]
 ·rw[zj z2A.eq_1];simp[toM,zf,agC]
theorem z55{m:zD}(h:zcp m){a b:AgV}(ha:WAg m a)(hb:WAg m b):R L Cs z3y [.a (zf m),.a (agC a),.a (agC b)] []=some (.w (Bo ((z2B m a).any fun x=>(z2B m b).any (z5a x))),[]):=by
 have h1:=z5H h ha;have h2:=z5H h hb;have hk:=z38 h ha;have hl:=z38 h hb;generalize z2B m a=k at *;generalize z2B m b=l at *;have hL:=zpE (L:=L) (Cs:=Cs) (b:=z2J) (live:=some [8,7,9]) (n0:=3) k (fun i=>[(8,.w (.c (.je (zWx l)))),(7,.w (.c (.je (zWx k)))),(9,.w (W i))]) (toM m a b) (fun x=>l.any (z5a x)) (.ret,[(6,.w (Bo true))],toM m a b) (.exit 0,[(20,.w (Bo false)),(8,.w (.c (.je (zWx l)))),(7,.w (.c (.je (zWx k)))),(9,.w (W k.length))],toM m a b)
  (fun i hi hb=>by
   have hw:=zB (i:=i) (by omega);have hI:=z5Q m a b k l hk hl i hi;rw[hb]at hI;simp only[toM,zf,agC,ji]at hI;rw[zj z2J.eq_1];simp[toM,zf,agC,hi,hw,hI])
  (fun i hi hb=>by
   have hI:=z5Q m a b k l hk hl i hi;rw[hb]at hI;simp only[toM,zf,agC,ji]at hI;rw[zj z2J.eq_1];simp[toM,zf,agC,hi,hI])
  (by rw[zj z2J.eq_1];simp[toM,zf,agC])
 simp only[toM,zf,agC,ji]at h1 h2 hL;rw[zUa z30 rfl];cases hq:k.any (fun x=>l.any (z5a x))with
 |true =>
  rw[hq]at hL;simp[z21,zf,agC,h1,h2,hL,zg]
 |false =>
  rw[hq]at hL;simp[z21,zf,agC,h1,h2,hL,zg]
theorem z7f{m:zD}{zs:List Zon}{ss:List Sgn}(hF:z7y m zs ss){a:AgV}(ha:WAg m a)(z:Nat)(hz:z<zs.length)(tk:Int)(htk:0<=tk):∃r,(0<=r/\r<=100)/\R L Cs z3M [.a (zf m),.a (agC a),W z,W tk] []=some (.w (W r),[]):=by
 have hf:=hF.full;have hE:=z5g hf ha.jg z hz;obtain⟨hon,_,hl8⟩:=ha.on hf.qt;have hzz:=hf.zd.z;have hcz:(z:Int)<zs.length:=by omega
 have hpf:=hf.zd.Bw _ (jb hz);have hpv:=hf.pv _ (jb hz);have hsg:=hf.zd.sig _ (jb hz);rw[zUa z4u rfl];cases he:z6b zs[z] a.jg with
 |none =>
  rw[he]at hE;refine⟨0,by omega,?_⟩;simp only[zf,hzz,agC]at hE;simp[z2K,zf,hzz,agC,hE,zg]
 |some i =>
  rw[he]at hE;have hi:i<a.jg.length:=(jP.1 he).1;have hci:(i:Int)<a.jg.length:=by omega
  have hx:=hon _ (jb hi);generalize hxx:a.jg[i]=x at *;generalize hq:zs[z]=q at *;have hn0:¬(i:Int)<0:=by omega
  by_cases c:0<q.vo
  ·obtain⟨j,hj⟩:∃j:Nat,q.vo-1=(j:Int):=⟨(q.vo-1).toNat,by omega⟩;have hjl:j<ss.length:=by omega
   have hsf:=hf.zd.sfew;have hG:=zRT hf j hjl x hx tk htk;have hw:IntKind.i64.wrap (q.vo-1)=(j:Int):=by rw[zTd _ (by omega) (by omega)];exact hj
   generalize zfA ss[j] x tk=g at *;simp only[zf,hzz,agC]at hE hG;cases g with
   |true =>
    refine⟨2,by omega,?_⟩;simp[z2K,zf,hzz,zdP,agC,hE,hG,hz,hcz,hq,hi,hci,hn0,hxx,c,hw,zg,zH]
   |false =>
    refine⟨0,by omega,?_⟩;simp[z2K,zf,hzz,zdP,agC,hE,hG,hz,hcz,hq,hi,hci,hn0,hxx,c,hw,zg,zH]
  ·have hL:=zxf (L:=L) (Cs:=Cs) (b:=z2U) (live:=some [5,9,10,11]) (n0:=3) q.parts (fun i'=>[(5,.w (Pt 1)),(9,.w (W i)),(10,.w (Pt 2)),(11,.w (W i'))]) [bx 5 (zf m),bx 7 (agC a),bxv 1 2 (zdP q)] (fun p=>decide (p.lane=x)) (fun j=>(.ret,[(8,.w (W (q.parts.getD j zto).qX))],[bx 5 (zf m),bx 7 (agC a),bxv 1 2 (zdP q)])) (.exit 0,[(42,.w (Bo false)),(9,.w (W i)),(5,.w (Pt 1)),(10,.w (Pt 2)),(11,.w (W q.parts.length))],[bx 5 (zf m),bx 7 (agC a),bxv 1 2 (zdP q)])
    (fun j hj hb=>by
     have hw:=zB (i:=j) (by omega);generalize hp:q.parts[j]=p at *;have hb:¬p.lane=x:=by simpa using hb
     have b1:(p.lane==x)=false:=by simp[hb]
     rw[zj z2U.eq_1];simp[zf,zdP,agC,zeB,hi,hci,hxx,hj,hp,hw,b1])
    (fun j hj hb=>by
     rw[show q.parts.getD j zto=q.parts[j] by simp[hj]];generalize hp:q.parts[j]=p at *;have b1:(p.lane==x)=true:=by simpa using hb
     rw[zj z2U.eq_1];simp[zf,zdP,agC,zeB,hi,hci,hxx,hj,hp,b1])
    (by rw[zj z2U.eq_1];simp[zf,zdP,agC])
   simp only[zf,hzz,agC,zdP,ji]at hE hL;cases hy:q.parts.findIdx? (fun p=>decide (p.lane=x))with
   |none =>
    rw[hy]at hL;refine⟨0,by omega,?_⟩;simp[z2K,zf,hzz,zdP,agC,hE,hL,hz,hcz,hq,hn0,c,zg,zH]
   |some j =>
    rw[hy]at hL;have hjq:j<q.parts.length:=(jP.1 hy).1;have hrk:=hpv _ (jb hjq);rw[show q.parts[j]=q.parts.getD j zto by simp[hjq]]at hrk;refine⟨(q.parts.getD j zto).qX,hrk.2.2.2.2,?_⟩;simp only at hL;simp[z2K,zf,hzz,zdP,agC,hE,hL,hz,hcz,hq,hn0,c,zg,zH]
def Zde:Zon:=⟨[],0⟩
theorem Zdd{P:Nat->Prop}{z n:Nat}{out:List Int}(h0:¬P z)(h:out≠[]\/∃w,z<=w/\w<n/\P w):out≠[]\/∃w,z+1<=w/\w<n/\P w:=by
 rcases h with h |⟨w,h1,h2,h3⟩
 ·exact .inl h
 ·refine .inr ⟨w,?_,h2,h3⟩;rcases kg z w with h|h
  ·exact h
  ·have:w=z:=by omega
   subst this;exact absurd h3 h0
def ZcH(m:zD)(zs:List Zon)(a b a' b':AgV)(z:Nat):Bool:=Zb7 m zs a a' z&&(Zb7 m zs b b' z&&decide (a.jg.getD ((z6b (zs.getD z Zde) a.jg).getD 0) 0≠b.jg.getD ((z6b (zs.getD z Zde) b.jg).getD 0) 0))
abbrev znM(m:zD)(s t:SnV)(out:List Int):Mem:=[bx 5 (zf m),bx 3 (snC s),bx 3 (snC t),gb 1,some (own 1 (zu out))]
abbrev znE(i j z:Nat)(out:List Int):Env:=[(12,.w (W z)),(6,.w (Pt 1)),(3,.w (W i)),(7,.w (Pt 2)),(4,.w (W j)),(11,.w (.c (sl 4 1 (zu out)))),(5,.w (Pt 0))]
theorem z61{m:zD}{zs:List Zon}{ss:List Sgn}(hF:z7y m zs ss)(s t:SnV)(ht:t.agents.length=s.agents.length)(i j:Nat)(hi:i<s.agents.length)(hj:j<s.agents.length)(ha:WAg m s.agents[i])(hb:WAg m s.agents[j])(hc:WAg m (t.agents[i]'(by omega)))(hd:WAg m (t.agents[j]'(by omega))):∀(f z:Nat) (out:List Int),z+f=zs.length->out.length<=z->∃qV:List Int,(qV.length<=zs.length/\((out≠[]\/∃w,z<=w/\w<zs.length/\ZcH m zs s.agents[i] s.agents[j] (t.agents[i]'(by omega)) (t.agents[j]'(by omega)) w=true)->qV≠[])) /\
  Y L Cs z20 (some [12,6,3,7,4,11,5]) 5 (znE i j z out) (znM m s t out)=some (.exit 0,[(19,.w (Bo false)),(12,.w (W zs.length)),(6,.w (Pt 1)),(3,.w (W i)),(7,.w (Pt 2)),(4,.w (W j)),(11,.w (.c (sl 4 1 (zu qV)))),(5,.w (Pt 0))],znM m s t qV):=by
 have hf:=hF.full;have hzz:=hf.zd.z;have vR:=hf.zd.few;intro f;induction f with
 |zero =>
  intro z out hz _;obtain rfl:z=zs.length:=by omega
  refine⟨out,⟨by omega,fun hx=>?_⟩,?_⟩
  ·rcases hx with hx |⟨w,h1,h2,_⟩
   ·exact hx
   ·omega
  rw[zj z20.eq_1];simp[znE,znM,zf,hzz]
 |succ f ih =>
  intro z out hz ho;have hzl:z<zs.length:=by omega
  have hcz:(z:Int)<zs.length:=by omega
  have hw:=zB (i:=z) (by omega);have hP1:=z4G hF ha hc z;have hP2:=z4G hF hb hd z;have hE1:=z5g hf ha.jg z hzl;have hE2:=z5g hf hb.jg z hzl;have hS1:Zb7 m zs s.agents[i] (t.agents[i]'(by omega)) z=true->∃u,z6b zs[z] s.agents[i].jg=some u/\u<s.agents[i].jg.length:=z5Z hzl;have hS2:Zb7 m zs s.agents[j] (t.agents[j]'(by omega)) z=true->∃u,z6b zs[z] s.agents[j].jg=some u/\u<s.agents[j].jg.length:=z5Z hzl;have hti:i<t.agents.length:=by omega
  have htj:j<t.agents.length:=by omega
  have hgz:zs.getD z Zde=zs[z]:=by simp[hzl]
  have hzb:ZcH m zs s.agents[i] s.agents[j] (t.agents[i]'(by omega)) (t.agents[j]'(by omega)) z=(Zb7 m zs s.agents[i] (t.agents[i]'(by omega)) z&&(Zb7 m zs s.agents[j] (t.agents[j]'(by omega)) z&&decide (s.agents[i].jg.getD ((z6b zs[z] s.agents[i].jg).getD 0) 0≠s.agents[j].jg.getD ((z6b zs[z] s.agents[j].jg).getD 0) 0))):=by unfold ZcH;rw[hgz]
  have hci:(i:Int)<s.agents.length:=by omega
  have hdi:(i:Int)<t.agents.length:=by omega
  have hdj:(j:Int)<t.agents.length:=by omega
  have hcj:(j:Int)<s.agents.length:=by omega
  have jX:(out.length+1)*8<=140737488355328:=by omega
  generalize hag:s.agents[i]=a at *;generalize hbg:s.agents[j]=b at *;generalize hcg:t.agents[i]=a' at *;generalize hdg:t.agents[j]=b' at *;generalize Zb7 m zs a a' z=p1 at *;generalize Zb7 m zs b b' z=p2 at *;rw[zj z20.eq_1];simp only[zf,hzz,agC]at hP1 hP2 hE1 hE2;cases p1 with
  |false =>
   obtain⟨qV,hol,h⟩:=ih (z+1) out (by omega) (by omega);refine⟨qV,⟨hol.1,fun hx=>hol.2 (Zdd (by rw[hzb];simp) hx)⟩,?_⟩;rw[<-h];clear ih h hS1 hS2 hzb;simp[znE,znM,zf,hzz,snC,agC,hi,hci,hj,hcj,hag,hbg,hti,htj,hdi,hdj,hcg,hdg,hzl,hcz,hw,hP1,hP2,zg,zH]
  |true =>
   cases p2 with
   |false =>
    obtain⟨qV,hol,h⟩:=ih (z+1) out (by omega) (by omega);refine⟨qV,⟨hol.1,fun hx=>hol.2 (Zdd (by rw[hzb];simp) hx)⟩,?_⟩;rw[<-h];clear ih h hS1 hS2 hzb;simp[znE,znM,zf,hzz,snC,agC,hi,hci,hj,hcj,hag,hbg,hti,htj,hdi,hdj,hcg,hdg,hzl,hcz,hw,hP1,hP2,zg,zH]
   |true =>
    obtain⟨u,e1,hu⟩:=hS1 rfl;obtain⟨v,e2,hv⟩:=hS2 rfl;clear hS1 hS2;rw[e1]at hE1;rw[e2]at hE2;have hcu:(u:Int)<a.jg.length:=by omega
    have hcv:(v:Int)<b.jg.length:=by omega
    by_cases c:a.jg[u]=b.jg[v]
    ·have cb:(a.jg[u]==b.jg[v])=true:=by simp[c]
     have cb2:(a.jg[u] !=b.jg[v])=false:=by simp[c]
     rw[e1,e2]at hzb;obtain⟨qV,hol,h⟩:=ih (z+1) out (by omega) (by omega);refine⟨qV,⟨hol.1,fun hx=>hol.2 (Zdd (by rw[hzb];simp[hu,hv,c]) hx)⟩,?_⟩;rw[<-h];clear ih h hzb;simp[znE,znM,zf,hzz,snC,agC,hi,hci,hj,hcj,hag,hbg,hti,htj,hdi,hdj,hcg,hdg,hzl,hcz,hw,hP1,hP2,hE1,hE2,hu,hv,hcu,hcv,cb,cb2,zg,zH]
    ·have cb:(a.jg[u]==b.jg[v])=false:=by simp[c]
     have cb2:(a.jg[u] !=b.jg[v])=true:=by simp[c]
     obtain⟨qV,hol,h⟩:=ih (z+1) (out++[(z:Int)]) (by omega) (by simp;omega);refine⟨qV,⟨hol.1,fun _=>hol.2 (.inl (by simp))⟩,?_⟩;rw[<-h];clear ih h hzb;simp[znE,znM,zf,hzz,snC,agC,hi,hci,hj,hcj,hag,hbg,hti,htj,hdi,hdj,hcg,hdg,hzl,hcz,hw,hP1,hP2,hE1,hE2,hu,hv,hcu,hcv,cb,cb2,jX,zg,zH]
theorem z6X{m:zD}{zs:List Zon}{ss:List Sgn}(hF:z7y m zs ss)(s t:SnV)(ht:t.agents.length=s.agents.length)(i j:Nat)(hi:i<s.agents.length)(hj:j<s.agents.length)(ha:WAg m s.agents[i])(hb:WAg m s.agents[j])(hc:WAg m (t.agents[i]'(by omega)))(hd:WAg m (t.agents[j]'(by omega))):∃out:List Int,(out.length<=zs.length/\((∃w,w<zs.length/\ZcH m zs s.agents[i] s.agents[j] (t.agents[i]'(by omega)) (t.agents[j]'(by omega)) w=true)->out≠[]))/\R L Cs z3H [.a (zf m),.a (snC s),.a (snC t),W i,W j] []=some (.w (.c (.je (zu out))),[]):=by
 obtain⟨out,hol,h⟩:=z61 hF s t ht i j hi hj ha hb hc hd zs.length 0 [] (by omega) (by simp);refine⟨out,⟨hol.1,fun⟨w,h1,h2⟩=>hol.2 (.inr ⟨w,by omega,h1,h2⟩)⟩,?_⟩;simp only[znE,znM,zf,snC,sl,own,zay,jv,zfq,ji]at h;rw[zUa z4h rfl];simp[z3n,zf,snC,h,zg,zX]
structure z45 where
 r:Int
 s:Int
 v:Int
 len:Int
 start:Int
 dis:Bool
def z3N(x:z45):List Cl:=[I x.r,I x.s,I x.v,I x.len,I x.start,.bool x.dis]
theorem KAg.of{m:zD}{a:AgV}(h1:zdA m a.jg=0)(h2:300<=a.len/\a.len<=20000)(h3:0<=a.start/\a.start<=1099511627776)(h4:0<=a.s/\a.s<=zmd m 0 a.jg)(h5:0<a.start->a.s=0)(h6:a.gone=false):KAg m a :=
 ⟨⟨h1,h2,h3,⟨h4.1,by omega⟩,by rw[h6];exact(decide_eq_false (by omega)).symm⟩,h4.2,h5⟩
theorem z5w(k:Int):300<=zeR k/\zeR k<=2000:=by unfold zeR;split<;>(try split)<;>omega
theorem z5h{m:zD}{zs:List Zon}{ss:List Sgn}(hF:z7y m zs ss)(x:z45)(first:Bool):∃a,KAg m a/\(first=true->a.start=0)/\((x.len % 4700=0->a.len=300)/\a.uQ=(!first && !x.dis))/\R L Cs z4y [.a (zf m),.a (z3N x),Bo first] []=some (.w (.a (agC a)),[]):=by
 have h:=hF.full.qt;have hR0:=zE3 h x.r;have hl0:=zD0 x.len 4700 (by omega) (by omega);have hl1:=zDJ x.len 4700 (by omega);have wl:=kj (300+x.len % 4700);have hb4:=zEW x.start 4 (by omega) (by omega);have hb40:=zEW x.start 40 (by omega) (by omega);have hbr:=zDJ x.start 40 (by omega);have hr0:=zE5 hF.full hF.pos x.r;obtain⟨k,hk⟩:=zES h x.r;have hrk:=zE5 hF.full hF.pos k;generalize zDT m x.r=r0 at *;generalize zDT m k=rk at *;generalize x.len % 4700=ln at *;generalize x.start % 40=b40 at *;generalize hb:x.start % 4=b4 at *;have fin:∀(r:List Int) (hr:zdA m r=0),∃(x0:Int) (t:List Int) (j:Nat) (hj:j<m.jc.length),r=x0::t/\x0=(j:Int)/\(m.jc[j].kind=1\/m.jc[j].kind=2\/m.jc[j].kind=3):=by
  intro r hr;obtain⟨hon,hne,_⟩:=zg1 h hr;cases r with
  |nil=>exact absurd rfl hne
  |cons y t =>
   obtain⟨j,hj,ej,ek⟩:=z5b (hon y (by simp));exact⟨y,t,j,hj,rfl,ej,h.kind _ (jb hj)⟩
 have gen:∀(r:List Int) (hr:zdA m r=0) (x0:Int) (t:List Int) (j:Nat) (hj:j<m.jc.length),r=x0::t->0<=x.s % (zmd m 0 r+1)/\x.s % (zmd m 0 r+1)<=zmd m 0 r/\0<=zmd m 0 r/\zmd m 0 r<=8000000:=by
  intro r hr x0 t j hj e;obtain⟨hon,hne,hl8⟩:=zg1 h hr;have:=zEC h r 0 hon (by omega);have:=zDJ x.s (zmd m 0 r+1) (by omega);omega
 rw[zUa z4A rfl];cases first with
 |true =>
  obtain⟨x0,t,j,hj,er,rfl,hkd⟩:=fin rk hrk;obtain⟨g1,g2,g3,g4⟩:=gen rk hrk _ _ j hj er;have hE:=zEp h hrk;have hS:=zD0 x.s (zmd m 0 rk+1) (by omega) (by omega);have wE:=kj (zmd m 0 rk+1);generalize x.s % (zmd m 0 rk+1)=sv at *;have hB:=zhv hkd;have htb:=z5w m.jc[j].kind;have wT:=kj (zeR m.jc[j].kind+1);have hV:=zD0 x.v (zeR m.jc[j].kind+1) (by omega) (by omega);generalize x.v % (zeR m.jc[j].kind+1)=vv at *;generalize zeR m.jc[j].kind=tv at *;by_cases c:tv<1000
  ·refine⟨⟨rk,sv,vv,300,0,false,false⟩,KAg.of hrk (by simp only[];omega) (by simp only[];omega) ⟨g1,g2⟩ (fun h=>absurd h (by simp)) rfl,fun _=>rfl,⟨(fun _=>rfl),by simp⟩,?_⟩;subst er;simp only[zf,zaP]at hR0 hk hE;simp[z2E,zf,z3N,agC,zo,hR0,hk,hE,hS,hV,hB,hl0,wl,wE,wT,hj,c,hb4,zg,zH,zX]
  ·refine⟨⟨rk,sv,vv,300+ln,0,false,false⟩,KAg.of hrk (by simp only[];omega) (by simp only[];omega) ⟨g1,g2⟩ (fun h=>absurd h (by simp)) rfl,fun _=>rfl,⟨(fun h0=>by show 300+ln=300;omega),by simp⟩,?_⟩;subst er;simp only[zf,zaP]at hR0 hk hE;simp[z2E,zf,z3N,agC,zo,hR0,hk,hE,hS,hV,hB,hl0,wl,wE,wT,hj,c,hb4,zg,zH,zX]
 |false =>
  obtain⟨x0,t,j,hj,er,rfl,hkd⟩:=fin r0 hr0;obtain⟨g1,g2,g3,g4⟩:=gen r0 hr0 _ _ j hj er;have hE:=zEp h hr0;have hS:=zD0 x.s (zmd m 0 r0+1) (by omega) (by omega);have wE:=kj (zmd m 0 r0+1);generalize x.s % (zmd m 0 r0+1)=sv at *;have hB:=zhv hkd;have htb:=z5w m.jc[j].kind;have wT:=kj (zeR m.jc[j].kind+1);have hV:=zD0 x.v (zeR m.jc[j].kind+1) (by omega) (by omega);generalize x.v % (zeR m.jc[j].kind+1)=vv at *;generalize zeR m.jc[j].kind=tv at *;have wb:=kj b40;by_cases c:tv<1000
  ·by_cases d:b4=3
   ·have db:(b4==3)=true:=by simp[d]
    refine⟨⟨r0,0,vv,300,b40,!x.dis,false⟩,KAg.of hr0 (by simp only[];omega) (by simp only[];omega) ⟨by simp,g3⟩ (fun _=>rfl) rfl,(fun h=>Bool.noConfusion h),⟨(fun _=>rfl),by simp⟩,?_⟩;subst er;simp only[zf,zaP]at hR0 hE;simp[z2E,zf,z3N,agC,zo,hR0,hE,hS,hV,hB,hl0,wl,wE,wT,wb,hj,c,db,hb4,hb40,zg,zH,zX]
   ·have db:(b4==3)=false:=by simp[d]
    refine⟨⟨r0,sv,vv,300,0,!x.dis,false⟩,KAg.of hr0 (by simp only[];omega) (by simp only[];omega) ⟨g1,g2⟩ (fun h=>absurd h (by simp)) rfl,fun _=>rfl,⟨(fun _=>rfl),by simp⟩,?_⟩;subst er;simp only[zf,zaP]at hR0 hE;simp[z2E,zf,z3N,agC,zo,hR0,hE,hS,hV,hB,hl0,wl,wE,wT,hj,c,db,hb4,zg,zH,zX]
  ·by_cases d:b4=3
   ·have db:(b4==3)=true:=by simp[d]
    refine⟨⟨r0,0,vv,300+ln,b40,!x.dis,false⟩,KAg.of hr0 (by simp only[];omega) (by simp only[];omega) ⟨by simp,g3⟩ (fun _=>rfl) rfl,(fun h=>Bool.noConfusion h),⟨(fun h0=>by show 300+ln=300;omega),by simp⟩,?_⟩;subst er;simp only[zf,zaP]at hR0 hE;simp[z2E,zf,z3N,agC,zo,hR0,hE,hS,hV,hB,hl0,wl,wE,wT,wb,hj,c,db,hb4,hb40,zg,zH,zX]
   ·have db:(b4==3)=false:=by simp[d]
    refine⟨⟨r0,sv,vv,300+ln,0,!x.dis,false⟩,KAg.of hr0 (by simp only[];omega) (by simp only[];omega) ⟨g1,g2⟩ (fun h=>absurd h (by simp)) rfl,fun _=>rfl,⟨(fun h0=>by show 300+ln=300;omega),by simp⟩,?_⟩;subst er;simp only[zf,zaP]at hR0 hE;simp[z2E,zf,z3N,agC,zo,hR0,hE,hS,hV,hB,hl0,wl,wE,wT,hj,c,db,hb4,zg,zH,zX]
theorem z2C{l:List Int}(h:l≠[]):zu l≠[]:=by simpa [zu]using h
theorem copy0:R L Cs z2u [.a [I 0,.je (Zbn []),.je []]] []=some (.w (.a [I 0,.jd,.jd]),[]):=by
 rw[zUa z2D rfl];simp[z2v,snC,agC,zg,Zbn,z2H];rw[zj z7C.eq_1];simp[zX,zg,agC,zH]
theorem copy1(a:AgV)(ha:a.jg≠[]/\a.jg.length<=8):R L Cs z2u [.a [I 0,.je (Zbn [a]),.je []]] []=some (.w (.a [I 0,.slice 0 1 7 0 1 none,.jd]),[some { box:=false,esz:=7,rows:=Zbn [a],gen:=1,fz:=false,ver:=1 }]):=by
 have a1:=z2C ha.1;have a2:a.jg.length*8<=140737488355328:=by omega
 have w1:IntKind.i64.wrap 1=1:=rfl;rw[zUa z2D rfl];simp[z2v,snC,agC,zg,Zbn,z2H];rw[zj z7C.eq_1];simp[zX,zg,agC,a1,a2,w1,zH];rw[zj z7C.eq_1];simp[zX,zg,agC,a1,a2,w1,zH]
theorem copy2(a b:AgV)(ha:a.jg≠[]/\a.jg.length<=8)(hb:b.jg≠[]/\b.jg.length<=8):R L Cs z2u [.a [I 0,.je (Zbn [a,b]),.je []]] []=some (.w (.a [I 0,.slice 0 2 7 0 2 none,.jd]),[some { box:=false,esz:=7,rows:=Zbn [a,b],gen:=2,fz:=false,ver:=2 }]):=by
 have a1:=z2C ha.1;have a2:a.jg.length*8<=140737488355328:=by omega
 have b1:=z2C hb.1;have b2:b.jg.length*8<=140737488355328:=by omega
 have w1:IntKind.i64.wrap 1=1:=rfl;have w2:IntKind.i64.wrap 2=2:=rfl;rw[zUa z2D rfl];simp[z2v,snC,agC,zg,Zbn,z2H];rw[zj z7C.eq_1];simp[zX,zg,agC,a1,a2,b1,b2,w1,w2,zH];rw[zj z7C.eq_1];simp[zX,zg,agC,a1,a2,b1,b2,w1,w2,zH];rw[zj z7C.eq_1];simp[zX,zg,agC,a1,a2,b1,b2,w1,w2,zH]
theorem copy3(a b c:AgV)(ha:a.jg≠[]/\a.jg.length<=8)(hb:b.jg≠[]/\b.jg.length<=8)(hc:c.jg≠[]/\c.jg.length<=8):R L Cs z2u [.a [I 0,.je (Zbn [a,b,c]),.je []]] []=some (.w (.a [I 0,.slice 0 3 7 0 3 none,.jd]),[some { box:=false,esz:=7,rows:=Zbn [a,b,c],gen:=3,fz:=false,ver:=3 }]):=by
 have a1:=z2C ha.1;have a2:a.jg.length*8<=140737488355328:=by omega
 have b1:=z2C hb.1;have b2:b.jg.length*8<=140737488355328:=by omega
 have c1:=z2C hc.1;have c2:c.jg.length*8<=140737488355328:=by omega
 have w1:IntKind.i64.wrap 1=1:=rfl;have w2:IntKind.i64.wrap 2=2:=rfl;have w3:IntKind.i64.wrap 3=3:=rfl;rw[zUa z2D rfl];simp[z2v,snC,agC,zg,Zbn,z2H];rw[zj z7C.eq_1];simp[zX,zg,agC,a1,a2,b1,b2,c1,c2,w1,w2,w3,zH];rw[zj z7C.eq_1];simp[zX,zg,agC,a1,a2,b1,b2,c1,c2,w1,w2,w3,zH];rw[zj z7C.eq_1];simp[zX,zg,agC,a1,a2,b1,b2,c1,c2,w1,w2,w3,zH];rw[zj z7C.eq_1];simp[zX,zg,agC,a1,a2,b1,b2,c1,c2,w1,w2,w3,zH]
theorem copy4(a b c d:AgV)(ha:a.jg≠[]/\a.jg.length<=8)(hb:b.jg≠[]/\b.jg.length<=8)(hc:c.jg≠[]/\c.jg.length<=8)(hd:d.jg≠[]/\d.jg.length<=8):R L Cs z2u [.a [I 0,.je (Zbn [a,b,c,d]),.je []]] []=some (.w (.a [I 0,.slice 0 4 7 0 4 none,.jd]),[some { box:=false,esz:=7,rows:=Zbn [a,b,c,d],gen:=4,fz:=false,ver:=4 }]):=by
 have a1:=z2C ha.1;have a2:a.jg.length*8<=140737488355328:=by omega
 have b1:=z2C hb.1;have b2:b.jg.length*8<=140737488355328:=by omega
 have c1:=z2C hc.1;have c2:c.jg.length*8<=140737488355328:=by omega
 have d1:=z2C hd.1;have d2:d.jg.length*8<=140737488355328:=by omega
 have w1:IntKind.i64.wrap 1=1:=rfl;have w2:IntKind.i64.wrap 2=2:=rfl;have w3:IntKind.i64.wrap 3=3:=rfl;have w4:IntKind.i64.wrap 4=4:=rfl;rw[zUa z2D rfl];simp[z2v,snC,agC,zg,Zbn,z2H];rw[zj z7C.eq_1];simp[zX,zg,agC,a1,a2,b1,b2,c1,c2,d1,d2,w1,w2,w3,w4,zH];rw[zj z7C.eq_1];simp[zX,zg,agC,a1,a2,b1,b2,c1,c2,d1,d2,w1,w2,w3,w4,zH];rw[zj z7C.eq_1];simp[zX,zg,agC,a1,a2,b1,b2,c1,c2,d1,d2,w1,w2,w3,w4,zH];rw[zj z7C.eq_1];simp[zX,zg,agC,a1,a2,b1,b2,c1,c2,d1,d2,w1,w2,w3,w4,zH];rw[zj z7C.eq_1];simp[zX,zg,agC,a1,a2,b1,b2,c1,c2,d1,d2,w1,w2,w3,w4,zH]
theorem copy5(a b c d e:AgV)(ha:a.jg≠[]/\a.jg.length<=8)(hb:b.jg≠[]/\b.jg.length<=8)(hc:c.jg≠[]/\c.jg.length<=8)(hd:d.jg≠[]/\d.jg.length<=8)(he:e.jg≠[]/\e.jg.length<=8):R L Cs z2u [.a [I 0,.je (Zbn [a,b,c,d,e]),.je []]] []=some (.w (.a [I 0,.slice 0 5 7 0 5 none,.jd]),[some { box:=false,esz:=7,rows:=Zbn [a,b,c,d,e],gen:=5,fz:=false,ver:=5 }]):=by
 have a1:=z2C ha.1;have a2:a.jg.length*8<=140737488355328:=by omega
 have b1:=z2C hb.1;have b2:b.jg.length*8<=140737488355328:=by omega
 have c1:=z2C hc.1;have c2:c.jg.length*8<=140737488355328:=by omega
 have d1:=z2C hd.1;have d2:d.jg.length*8<=140737488355328:=by omega
 have e1:=z2C he.1;have e2:e.jg.length*8<=140737488355328:=by omega
 have w1:IntKind.i64.wrap 1=1:=rfl;have w2:IntKind.i64.wrap 2=2:=rfl;have w3:IntKind.i64.wrap 3=3:=rfl;have w4:IntKind.i64.wrap 4=4:=rfl;have w5:IntKind.i64.wrap 5=5:=rfl;rw[zUa z2D rfl];simp[z2v,snC,agC,zg,Zbn,z2H];rw[zj z7C.eq_1];simp[zX,zg,agC,a1,a2,b1,b2,c1,c2,d1,d2,e1,e2,w1,w2,w3,w4,w5,zH];rw[zj z7C.eq_1];simp[zX,zg,agC,a1,a2,b1,b2,c1,c2,d1,d2,e1,e2,w1,w2,w3,w4,w5,zH];rw[zj z7C.eq_1];simp[zX,zg,agC,a1,a2,b1,b2,c1,c2,d1,d2,e1,e2,w1,w2,w3,w4,w5,zH];rw[zj z7C.eq_1];simp[zX,zg,agC,a1,a2,b1,b2,c1,c2,d1,d2,e1,e2,w1,w2,w3,w4,w5,zH];rw[zj z7C.eq_1];simp[zX,zg,agC,a1,a2,b1,b2,c1,c2,d1,d2,e1,e2,w1,w2,w3,w4,w5,zH];rw[zj z7C.eq_1];simp[zX,zg,agC,a1,a2,b1,b2,c1,c2,d1,d2,e1,e2,w1,w2,w3,w4,w5,zH]
theorem copy6(a b c d e f:AgV)(ha:a.jg≠[]/\a.jg.length<=8)(hb:b.jg≠[]/\b.jg.length<=8)(hc:c.jg≠[]/\c.jg.length<=8)(hd:d.jg≠[]/\d.jg.length<=8)(he:e.jg≠[]/\e.jg.length<=8)(hf:f.jg≠[]/\f.jg.length<=8):R L Cs z2u [.a [I 0,.je (Zbn [a,b,c,d,e,f]),.je []]] []=some (.w (.a [I 0,.slice 0 6 7 0 6 none,.jd]),[some { box:=false,esz:=7,rows:=Zbn [a,b,c,d,e,f],gen:=6,fz:=false,ver:=6 }]):=by
 have a1:=z2C ha.1;have a2:a.jg.length*8<=140737488355328:=by omega
 have b1:=z2C hb.1;have b2:b.jg.length*8<=140737488355328:=by omega
 have c1:=z2C hc.1;have c2:c.jg.length*8<=140737488355328:=by omega
 have d1:=z2C hd.1;have d2:d.jg.length*8<=140737488355328:=by omega
 have e1:=z2C he.1;have e2:e.jg.length*8<=140737488355328:=by omega
 have f1:=z2C hf.1;have f2:f.jg.length*8<=140737488355328:=by omega
 have w1:IntKind.i64.wrap 1=1:=rfl;have w2:IntKind.i64.wrap 2=2:=rfl;have w3:IntKind.i64.wrap 3=3:=rfl;have w4:IntKind.i64.wrap 4=4:=rfl;have w5:IntKind.i64.wrap 5=5:=rfl;have w6:IntKind.i64.wrap 6=6:=rfl;rw[zUa z2D rfl];simp[z2v,snC,agC,zg,Zbn,z2H];rw[zj z7C.eq_1];simp[zX,zg,agC,a1,a2,b1,b2,c1,c2,d1,d2,e1,e2,f1,f2,w1,w2,w3,w4,w5,w6,zH];rw[zj z7C.eq_1];simp[zX,zg,agC,a1,a2,b1,b2,c1,c2,d1,d2,e1,e2,f1,f2,w1,w2,w3,w4,w5,w6,zH];rw[zj z7C.eq_1];simp[zX,zg,agC,a1,a2,b1,b2,c1,c2,d1,d2,e1,e2,f1,f2,w1,w2,w3,w4,w5,w6,zH];rw[zj z7C.eq_1];simp[zX,zg,agC,a1,a2,b1,b2,c1,c2,d1,d2,e1,e2,f1,f2,w1,w2,w3,w4,w5,w6,zH];rw[zj z7C.eq_1];simp[zX,zg,agC,a1,a2,b1,b2,c1,c2,d1,d2,e1,e2,f1,f2,w1,w2,w3,w4,w5,w6,zH];rw[zj z7C.eq_1];simp[zX,zg,agC,a1,a2,b1,b2,c1,c2,d1,d2,e1,e2,f1,f2,w1,w2,w3,w4,w5,w6,zH];rw[zj z7C.eq_1];simp[zX,zg,agC,a1,a2,b1,b2,c1,c2,d1,d2,e1,e2,f1,f2,w1,w2,w3,w4,w5,w6,zH]
theorem copy7(a b c d e f g:AgV)(ha:a.jg≠[]/\a.jg.length<=8)(hb:b.jg≠[]/\b.jg.length<=8)(hc:c.jg≠[]/\c.jg.length<=8)(hd:d.jg≠[]/\d.jg.length<=8)(he:e.jg≠[]/\e.jg.length<=8)(hf:f.jg≠[]/\f.jg.length<=8)(hg:g.jg≠[]/\g.jg.length<=8):R L Cs z2u [.a [I 0,.je (Zbn [a,b,c,d,e,f,g]),.je []]] []=some (.w (.a [I 0,.slice 0 7 7 0 7 none,.jd]),[some { box:=false,esz:=7,rows:=Zbn [a,b,c,d,e,f,g],gen:=7,fz:=false,ver:=7 }]):=by
 have a1:=z2C ha.1;have a2:a.jg.length*8<=140737488355328:=by omega
 have b1:=z2C hb.1;have b2:b.jg.length*8<=140737488355328:=by omega
 have c1:=z2C hc.1;have c2:c.jg.length*8<=140737488355328:=by omega
 have d1:=z2C hd.1;have d2:d.jg.length*8<=140737488355328:=by omega
 have e1:=z2C he.1;have e2:e.jg.length*8<=140737488355328:=by omega
 have f1:=z2C hf.1;have f2:f.jg.length*8<=140737488355328:=by omega
 have g1:=z2C hg.1;have g2:g.jg.length*8<=140737488355328:=by omega
 have w1:IntKind.i64.wrap 1=1:=rfl;have w2:IntKind.i64.wrap 2=2:=rfl;have w3:IntKind.i64.wrap 3=3:=rfl;have w4:IntKind.i64.wrap 4=4:=rfl;have w5:IntKind.i64.wrap 5=5:=rfl;have w6:IntKind.i64.wrap 6=6:=rfl;have w7:IntKind.i64.wrap 7=7:=rfl;rw[zUa z2D rfl];simp[z2v,snC,agC,zg,Zbn,z2H];rw[zj z7C.eq_1];simp[zX,zg,agC,a1,a2,b1,b2,c1,c2,d1,d2,e1,e2,f1,f2,g1,g2,w1,w2,w3,w4,w5,w6,w7,zH];rw[zj z7C.eq_1];simp[zX,zg,agC,a1,a2,b1,b2,c1,c2,d1,d2,e1,e2,f1,f2,g1,g2,w1,w2,w3,w4,w5,w6,w7,zH];rw[zj z7C.eq_1];simp[zX,zg,agC,a1,a2,b1,b2,c1,c2,d1,d2,e1,e2,f1,f2,g1,g2,w1,w2,w3,w4,w5,w6,w7,zH];rw[zj z7C.eq_1];simp[zX,zg,agC,a1,a2,b1,b2,c1,c2,d1,d2,e1,e2,f1,f2,g1,g2,w1,w2,w3,w4,w5,w6,w7,zH];rw[zj z7C.eq_1];simp[zX,zg,agC,a1,a2,b1,b2,c1,c2,d1,d2,e1,e2,f1,f2,g1,g2,w1,w2,w3,w4,w5,w6,w7,zH];rw[zj z7C.eq_1];simp[zX,zg,agC,a1,a2,b1,b2,c1,c2,d1,d2,e1,e2,f1,f2,g1,g2,w1,w2,w3,w4,w5,w6,w7,zH];rw[zj z7C.eq_1];simp[zX,zg,agC,a1,a2,b1,b2,c1,c2,d1,d2,e1,e2,f1,f2,g1,g2,w1,w2,w3,w4,w5,w6,w7,zH];rw[zj z7C.eq_1];simp[zX,zg,agC,a1,a2,b1,b2,c1,c2,d1,d2,e1,e2,f1,f2,g1,g2,w1,w2,w3,w4,w5,w6,w7,zH]
def z32(l:List z45):List (List Cl):=l.map z3N
@[simp] theorem z7n(l:List z45):(z32 l).length=l.length:=by simp[z32]
@[simp] theorem z6D{l:List z45}{i:Nat}(h:i<(z32 l).length):(z32 l)[i]=z3N (l[i]'(by simpa using h)):=by simp[z32]
@[simp] theorem z7t(a:z45):(z3N a).length=6:=rfl
@[simp] theorem z66(l:List AgV):(∀x,x∈Zbn l->x.length=7)<->True:=by simp[Zbn]
def z3C:List Cl:=[I 0,.je [],.je []]
def Zeq(m:zD)(l:List AgV):Prop:=∀(i j:Nat) (hi:i<l.length) (hj:j<l.length),i<j->(l[i]'hi).start<=0->(l[j]'hj).start<=0->ZbU m (l[i]'hi) (l[j]'hj)=false
structure ZeX(m:zD)(sg:Bool)(l:List AgV):Prop where
 own:∀h:0<l.length,l[0].start=0
 free:∀h:0<l.length,l[0].uQ=false
 all:sg=true->∀(j:Nat) (hj:j<l.length),0<j->l[j].uQ=true
 apart:Zeq m l
def z6t(m:zD):Prop:=∀l:List AgV,0<l.length->l.length<=7->(∀a∈l,KAg m a)->(∀h:0<l.length,l[0].start=0)->∃(e:Int) (ins:List z2T),ins.length<=1000/\((z31 m ⟨0,l,[]⟩=0->l.length=1->e=0)/\(e=0->Zeq m l))/\R L Cs z3v [.a (zf m),.c (.je (Zbn l))] []=some (.t [.a (if e=0 then snC ⟨0,l,ins⟩ else z3C),W e],[])
def agW(l:List AgV):Cl:=if l=[] then .slice 2 0 7 0 0 none else .je (Zbn l)
abbrev scM(m:zD)(v:Nat)(st:List Cl):Mem:=[bx 5 (zf m),bx 3 [I 0,.jd,.jd],gb 7,bxv v 3 st]
abbrev scE(q:List z45)(l:List AgV)(i:Nat):Env:=[(5,.w (.c (agW l))),(8,.w (W i)),(4,.w (Pt 1)),(1,.w (.c (.je (z32 q)))),(2,.w (Pt 0)),(6,.w (Pt 3))]
def z6u(m:zD)(sg:Bool)(l:List AgV)(st:List Cl):Prop:=(∃A B:List (List Cl),st=[I 0,.je A,.je B])/\(∀a∈l,KAg m a)/\ZeX m sg l/\(l≠[]->∃ins:List z2T,ins.length<=1000/\st=snC ⟨0,l,ins⟩)
theorem z6A{m:zD}{zs:List Zon}{ss:List Sgn}(hF:z7y m zs ss)(hN:z6t m)(sg:Bool)(q:List z45)(hsg:sg=true->∀x∈q,x.dis=false)(hq:q.length<=7)(v:Nat)(st:List Cl)(hst:z6u m sg [] st)(i:Nat)(hi:i<q.length):∃(l:List AgV) (v':Nat) (st':List Cl),l.length<=i+1/\z6u m sg l st'/\Y L Cs z2s (some [5,8,4,1,2,6]) 4 (scE q [] i) (scM m v st)=Y L Cs z2s (some [5,8,4,1,2,6]) 4 (scE q l (i+1)) (scM m v' st'):=by
 have hw:=zB (i:=i) (by omega);obtain⟨a,ha,h0,⟨_,ho⟩,hA⟩:=z5h hF q[i] true;obtain⟨e,ins,AP,⟨_,hnt⟩,hNw⟩:=hN [a] (by simp) (by simp) (by simpa using ha) (by intro _;exact h0 rfl);have hci:(i:Int)<q.length:=by omega
 obtain⟨A,B,rfl⟩:=hst.1;simp only[zf,z3N,agC,Zbn,kw,qE]at hA hNw;by_cases c:e=0
 ·refine⟨[a],v+1,snC ⟨0,[a],ins⟩,by simp,⟨⟨_,_,rfl⟩,by simpa using ha,⟨by intro _;exact h0 rfl,by intro _;simpa using ho,by intro _ j hj hp;simp at hj;omega,hnt c⟩,fun _=>⟨ins,AP,rfl⟩⟩,?_⟩;subst c;rw[if_pos rfl]at hNw;rw[zj z2s.eq_1];simp only[snC,Zbn,kw,qE,agC]at hNw;simp[scE,scM,agW,z3C,zf,z3N,agC,hi,hci,hw,hA,hNw,zg,zH,zX,snC,Zbn]
 ·refine⟨[],v,_,by simp,hst,?_⟩;have cb:(e==0)=false:=by simp[c]
  rw[if_neg c]at hNw;rw[zj z2s.eq_1];simp only[z3C]at hNw;simp[scE,scM,agW,z3C,zf,z3N,agC,hi,hci,hw,hA,hNw,c,cb,zg,zH,zX]
theorem z64{m:zD}{zs:List Zon}{ss:List Sgn}(hF:z7y m zs ss)(hN:z6t m)(sg:Bool)(q:List z45)(hsg:sg=true->∀x∈q,x.dis=false)(hq:q.length<=7)(v:Nat)(st:List Cl)(l:List AgV)(hl:l≠[])(hst:z6u m sg l st)(i:Nat)(hi:i<q.length)(hli:l.length<=i):∃(l':List AgV) (v':Nat) (st':List Cl),l'.length<=i+1/\z6u m sg l' st'/\Y L Cs z2s (some [5,8,4,1,2,6]) 4 (scE q l i) (scM m v st)=Y L Cs z2s (some [5,8,4,1,2,6]) 4 (scE q l' (i+1)) (scM m v' st'):=by
 have hw:=zB (i:=i) (by omega);have hp:0<l.length:=j9.2 hl;obtain⟨a,ha,h0,⟨_,ho⟩,hA⟩:=z5h hF q[i] false;have uK:∀x∈l++[a],KAg m x:=by
  intro x hx;rcases jr.1 hx with hx|hx
  ·exact hst.2.1 x hx
  ·simp at hx;rw[hx];exact ha
 have hfst:∀h:0<(l++[a]).length,(l++[a])[0].start=0:=by
  intro h;rw[uL hp];exact hst.2.2.1.own hp
 have hfr:∀h:0<(l++[a]).length,(l++[a])[0].uQ=false:=by
  intro h;rw[uL hp];exact hst.2.2.1.free hp
 have hob:sg=true->∀(j:Nat) (hj:j<(l++[a]).length),0<j->(l++[a])[j].uQ=true:=by
  intro hs j hj hj0;by_cases c:j<l.length
  ·rw[uL c];exact hst.2.2.1.all hs j c hj0
  ·rw[yg (by omega)];simp[ho,hsg hs _ (jb hi)]
 obtain⟨e,ins,AP,⟨_,hnt⟩,hNw⟩:=hN (l++[a]) (by simp) (by simp;omega) uK hfst;have hci:(i:Int)<q.length:=by omega
 obtain⟨A,B,rfl⟩:=hst.1;have l8:l.length<8:=by omega
 have l8':(l.length:Int)<8:=by omega
 have l0:((l.length:Int)==0)=false:=beq_false_of_ne (by omega);have lr:Zbn l≠[]:=by simpa [Zbn]using hl
 have room1:l.length*64<=140737488355328:=by omega
 have room2:(l.length+1)*64<=140737488355328:=by omega
 have tk:(Zbn l).take l.length=Zbn l:=jC (by simp);have tk2:∀r:List Cl,List.take (l.length+1) (Zbn l++[r])=Zbn l++[r]:=fun r=>jC (by simp)
 have ra:Zbn (l++[a])=Zbn l++[agC a]:=by simp[Zbn]
 have lne:l++[a]≠[]:=by simp
 simp only[zf,z3N]at hA hNw;by_cases c:e=0
 ·refine⟨l++[a],v+1,snC ⟨0,l++[a],ins⟩,by simp;omega,⟨⟨_,_,rfl⟩,uK,⟨hfst,hfr,hob,hnt c⟩,fun _=>⟨ins,AP,rfl⟩⟩,?_⟩;subst c;rw[if_pos rfl]at hNw;rw[zj z2s.eq_1];simp only[snC,ra,agC]at hNw hA;simp[scE,scM,agW,hl,lr,z3C,zf,z3N,agC,hi,hci,hw,hA,hNw,l8,l8',l0,room1,room2,tk,tk2,zg,zH,zX,snC,ra]
 ·refine⟨l,v,_,by omega,hst,?_⟩;have cb:(e==0)=false:=by simp[c]
  rw[if_neg c]at hNw;rw[zj z2s.eq_1];simp only[z3C,ra,agC]at hNw hA;simp[scE,scM,agW,hl,lr,z3C,zf,z3N,agC,hi,hci,hw,hA,hNw,c,cb,l8,l8',l0,room1,room2,tk,tk2,zg,zH,zX]
theorem z65{m:zD}{zs:List Zon}{ss:List Sgn}(hF:z7y m zs ss)(hN:z6t m)(sg:Bool)(q:List z45)(hsg:sg=true->∀x∈q,x.dis=false)(hq:q.length<=7):∀(f i v:Nat) (st:List Cl) (l:List AgV),i+f=q.length->l.length<=i->z6u m sg l st->∃(l':List AgV) (v':Nat) (st':List Cl) (b:Bool),l'.length<=7/\z6u m sg l' st'/\Y L Cs z2s (some [5,8,4,1,2,6]) 4 (scE q l i) (scM m v st)=some (.exit 0,[(25,.w (Bo b)),(5,.w (.c (agW l'))),(8,.w (W q.length)),(4,.w (Pt 1)),(1,.w (.c (.je (z32 q)))),(2,.w (Pt 0)),(6,.w (Pt 3))],scM m v' st'):=by
 intro f;induction f with
 |zero =>
  intro i v st l hi hl hst;obtain rfl:i=q.length:=by omega
  refine⟨l,v,st,false,by omega,hst,?_⟩;obtain⟨A,B,rfl⟩:=hst.1;rw[zj z2s.eq_1];by_cases c:l=[]<;>simp[scE,scM,agW,c,zf,z3C]
 |succ f ih =>
  intro i v st l hi hl hst;by_cases c:l=[]
  ·subst c;obtain⟨l2,v2,st2,h1,h2,h3⟩:=z6A hF hN sg q hsg hq v st hst i (by omega);rw[h3];exact ih (i+1) v2 st2 l2 (by omega) h1 h2
  ·obtain⟨l2,v2,st2,h1,h2,h3⟩:=z64 hF hN sg q hsg hq v st l c hst i (by omega) hl;rw[h3];exact ih (i+1) v2 st2 l2 (by omega) h1 h2
abbrev z7j:List Cl:=[I 0,.jd,.jd]
abbrev z4M(fz:Bool)(va:Nat)(l:List AgV):Option Blk:=some { box:=false,esz:=7,rows:=Zbn l,gen:=l.length,fz:=fz,ver:=va }
abbrev z4w(fz:Bool)(vb:Nat)(s:List z2T):Option Blk:=some { box:=false,esz:=4,rows:=z2H s,gen:=s.length,fz:=fz,ver:=vb }
abbrev z4k(y:z2T):Option Blk:=some { box:=false,esz:=4,rows:=[z29 y],gen:=1,fz:=false,ver:=1 }
def nwT(q:Nat)(fz:Bool)(vb:Nat)(x y:z2T)(s:List z2T):Mem:=if q=0 then [] else if q=1 then [z4k x,z4w fz vb s] else [z4k x,z4w fz vb s,z4k y]
def nwI(q:Nat)(s:List z2T):Cl:=if q=0 then .jd else .slice 5 s.length 4 0 s.length none
abbrev nwM(m:zD)(l:List AgV)(v q:Nat)(fz:Bool)(va vb:Nat)(x y:z2T)(s:List z2T):Mem:=bx 5 (zf m)::bx 3 z7j::bxv v 3 [I 0,.slice 3 l.length 7 0 l.length none,nwI q s]::z4M fz va l::nwT q fz vb x y s
abbrev z49(l:List AgV)(i z:Nat):Env:=[(10,.w (W z)),(4,.w (Pt 1)),(1,.w (.c (.je (Zbn l)))),(9,.w (W i)),(2,.w (Pt 0)),(6,.w (Pt 2))]
theorem z63(l:List AgV):(Zbn l).take l.length=Zbn l:=jC (by simp)
theorem z62(l:List z2T):(z2H l).take l.length=z2H l:=jC (by simp)
theorem z5U(l:List z2T)(a:z2T):z2H (l++[a])=z2H l++[z29 a]:=by simp[z2H]
def z46:z2T:=⟨0,0,0,0⟩
structure NwC(m:zD)(l:List AgV):Prop where
 there:∀(s:List z2T) (i:Nat) (hi:i<l.length),R L Cs z3I [.a [I 0,.je (Zbn l),.je (z2H s)],W i] []=some (.w (Bo (decide ((l[i]'hi).start<=0))),[])
 pres:∀(i:Nat) (hi:i<l.length) (z:Nat),z<m.kh.length->∃b,R L Cs z3B [.a (zf m),.a (agC (l[i]'hi)),.a (agC (l[i]'hi)),W z] []=some (.w (Bo b),[])
 qX:∀(i:Nat) (hi:i<l.length) (z:Nat),z<m.kh.length->∃r,R L Cs z3M [.a (zf m),.a (agC (l[i]'hi)),W z,W 0] []=some (.w (W r),[])
 touch:∀(i j:Nat) (hi:i<l.length) (hj:j<l.length),R L Cs z3y [.a (zf m),.a (agC (l[i]'hi)),.a (agC (l[j]'hj))] []=some (.w (Bo (ZbU m (l[i]'hi) (l[j]'hj))),[])
 kh:∀(s:List z2T) (i j:Nat) (hi:i<l.length) (hj:j<l.length),s.length<=1000->∃out:List Int,R L Cs z3H [.a (zf m),.a [I 0,.je (Zbn l),.je (z2H s)],.a [I 0,.je (Zbn l),.je (z2H s)],W i,W j] []=some (.w (.c (.je (zu out))),[])
 gone:∀(i:Nat) (hi:i<l.length),(l[i]'hi).gone=false
 few:l.length<=7
 zn2:m.kh.length<=2
def NwI(q n0 z:Nat)(s:List z2T):Prop:=q=0/\n0=4/\s=[]\/q=1/\n0=4/\1<=z/\s≠[]\/q=2/\n0=4/\2<=z/\s≠[]\/q=1/\n0=6/\s≠[]\/q=2/\n0=7/\s≠[]
theorem z5X{m:zD}{l:List AgV}(h:NwC m l)(i:Nat)(hi:i<l.length)(z v q n0 va vb:Nat)(x y:z2T)(s:List z2T)(hq:NwI q n0 z s)(hz:z=m.kh.length\/z<m.kh.length/\¬(l[i]'hi).start<=0):∃b,
  Y L Cs z7 (some [10,4,1,9,2,6]) n0 (z49 l i z) (nwM m l v q false va vb x y s)=some (.exit 4,[(50,.w (Bo b)),(10,.w (W z)),(4,.w (Pt 1)),(1,.w (.c (.je (Zbn l)))),(9,.w (W i)),(2,.w (Pt 0)),(6,.w (Pt 2))],nwM m l v q false va vb x y s):=by
 have hT:=h.there s i hi;have tk:=z63 l;have tk2:=z62 s;refine⟨false,?_⟩;rcases hz with hz |⟨hz,hs⟩
 ·subst hz;rw[zj z7.eq_1];rcases hq with⟨rfl,rfl,rfl⟩ |⟨rfl,rfl,_,hs⟩ |⟨rfl,rfl,_,hs⟩ |⟨rfl,rfl,hs⟩ |⟨rfl,rfl,hs⟩<;>simp[zf,nwT,nwI]
 ·rw[decide_eq_false hs]at hT;have hcz:(z:Int)<m.kh.length:=by omega
  rw[zj z7.eq_1];rcases hq with⟨rfl,rfl,rfl⟩ |⟨rfl,rfl,_,hs⟩ |⟨rfl,rfl,_,hs⟩ |⟨rfl,rfl,hs⟩ |⟨rfl,rfl,hs⟩<;>first |(simp[zf,nwT,nwI,hz,hcz,hT,tk,tk2,zX,zg];done) |(simp[z2H]at hT;simp[zf,nwT,nwI,hz,hcz,hT,tk,tk2,zX,zg];done)|skip
theorem z6O{m:zD}{l:List AgV}(h:NwC m l)(i:Nat)(hi:i<l.length)(z v q n0 va vb:Nat)(x y:z2T)(s:List z2T)(hl:s.length<=1000)(hb:q≠0->vb=s.length)(hq:NwI q n0 z s)(hz:z<m.kh.length)(hs:(l[i]'hi).start<=0):∃(v' q' vb':Nat) (x' y':z2T) (s':List z2T),s'.length<=s.length+1/\(q'≠0->vb'=s'.length)/\NwI q' n0 (z+1) s' /\
  Y L Cs z7 (some [10,4,1,9,2,6]) n0 (z49 l i z) (nwM m l v q false va vb x y s)=Y L Cs z7 (some [10,4,1,9,2,6]) n0 (z49 l i (z+1)) (nwM m l v' q' false va vb' x' y' s'):=by
 have hT:=h.there s i hi;rw[decide_eq_true hs]at hT;obtain⟨p,hP⟩:=h.pres i hi z hz;obtain⟨r,hR⟩:=h.qX i hi z hz;have htwo:=h.zn2;have vR:=h.few;have tk:=z63 l;have tk2:=z62 s;have hcz:(z:Int)<m.kh.length:=by omega
 have hci:(i:Int)<l.length:=by omega
 have hw:=zB (i:=z) (by omega);have hro:(s.length+1)*32<=140737488355328:=by omega
 have hsn:=z5U s ⟨i,z,0,r⟩;simp only[zf,agC]at hP hR;cases p with
 |false =>
  refine⟨v,q,vb,x,y,s,by omega,hb,?_,?_⟩
  ·rcases hq with⟨rfl,rfl,rfl⟩ |⟨rfl,rfl,_,hs⟩ |⟨rfl,rfl,_,hs⟩ |⟨rfl,rfl,hs⟩ |⟨rfl,rfl,hs⟩<;>simp[*,NwI]<;>omega
  rw[zj z7.eq_1];rcases hq with⟨rfl,rfl,rfl⟩ |⟨rfl,rfl,_,hs⟩ |⟨rfl,rfl,_,hs⟩ |⟨rfl,rfl,hs⟩ |⟨rfl,rfl,hs⟩<;>first |(simp[z49,nwM,zf,agC,nwT,nwI,hi,hci,hz,hcz,hw,hT,hP,tk,tk2,zX,zg,zH];done) |(simp[z2H]at hT;simp[z49,nwM,zf,agC,nwT,nwI,hi,hci,hz,hcz,hw,hT,hP,tk,tk2,zX,zg,zH];done)|skip
 |true =>
  rcases hq with⟨rfl,rfl,rfl⟩ |⟨rfl,rfl,hz1,hs⟩ |⟨rfl,rfl,hz2,hs⟩ |⟨rfl,rfl,hs⟩ |⟨rfl,rfl,hs⟩
  ·refine⟨v+1,1,1,⟨i,z,0,r⟩,y,[⟨i,z,0,r⟩],by simp,by simp,by simp[NwI],?_⟩;simp[z2H]at hT;rw[zj z7.eq_1];simp[z49,nwM,z4k,z4w,jo,zf,agC,z29,z2H,nwT,nwI,hi,hci,hz,hcz,hw,hT,hP,hR,tk,tk2,zX,zg,zH]
  ·obtain rfl:=hb (by omega);refine⟨v+1,2,s.length+1,x,⟨i,z,0,r⟩,s++[⟨i,z,0,r⟩],by simp,by simp,?_,?_⟩
   ·right;right;left;exact⟨rfl,rfl,by omega,by simp⟩
   rw[zj z7.eq_1];simp[z49,nwM,z4k,z4w,jo,zf,agC,z29,nwT,nwI,hi,hci,hz,hcz,hw,hT,hP,hR,hro,hsn,tk,tk2,zX,zg,zH]
  ·omega
  ·obtain rfl:=hb (by omega);refine⟨v+1,1,s.length+1,x,y,s++[⟨i,z,0,r⟩],by simp,by simp,?_,?_⟩
   ·right;right;right;left;exact⟨rfl,rfl,by simp⟩
   rw[zj z7.eq_1];simp[z49,nwM,z4k,z4w,jo,zf,agC,z29,nwT,nwI,hi,hci,hz,hcz,hw,hT,hP,hR,hro,hsn,tk,tk2,zX,zg,zH]
  ·obtain rfl:=hb (by omega);refine⟨v+1,2,s.length+1,x,y,s++[⟨i,z,0,r⟩],by simp,by simp,?_,?_⟩
   ·right;right;right;right;exact⟨rfl,rfl,by simp⟩
   rw[zj z7.eq_1];simp[z49,nwM,z4k,z4w,jo,zf,agC,z29,nwT,nwI,hi,hci,hz,hcz,hw,hT,hP,hR,hro,hsn,tk,tk2,zX,zg,zH]
theorem z6P{m:zD}{l:List AgV}(h:NwC m l)(i:Nat)(hi:i<l.length)(n0 va:Nat):∀(f z v q vb:Nat) (x y:z2T) (s:List z2T),z+f=m.kh.length->s.length+f<=1000->(q≠0->vb=s.length)->NwI q n0 z s->∃(b:Bool) (z' v' q' vb':Nat) (x' y':z2T) (s':List z2T),s'.length<=s.length+f/\(q'≠0->vb'=s'.length)/\NwI q' n0 z' s' /\
  Y L Cs z7 (some [10,4,1,9,2,6]) n0 (z49 l i z) (nwM m l v q false va vb x y s)=some (.exit 4,[(50,.w (Bo b)),(10,.w (W z')),(4,.w (Pt 1)),(1,.w (.c (.je (Zbn l)))),(9,.w (W i)),(2,.w (Pt 0)),(6,.w (Pt 2))],nwM m l v' q' false va vb' x' y' s'):=by
 intro f;induction f with
 |zero =>
  intro z v q vb x y s hz _ hb hq;obtain⟨b,e⟩:=z5X h i hi z v q n0 va vb x y s hq (.inl (by omega));exact⟨b,z,v,q,vb,x,y,s,by omega,hb,hq,e⟩
 |succ f ih =>
  intro z v q vb x y s hz hl hb hq;by_cases hs:(l[i]'hi).start<=0
  ·obtain⟨v1,q1,vb1,x1,y1,s1,h1,h2,h3,h4⟩:=z6O h i hi z v q n0 va vb x y s (by omega) hb hq (by omega) hs;obtain⟨b,z2,v2,q2,vb2,x2,y2,s2,g1,g2,g3,g4⟩:=ih (z+1) v1 q1 vb1 x1 y1 s1 (by omega) (by omega) h2 h3;exact⟨b,z2,v2,q2,vb2,x2,y2,s2,by omega,g2,g3,h4.trans g4⟩
  ·obtain⟨b,e⟩:=z5X h i hi z v q n0 va vb x y s hq (.inr ⟨by omega,hs⟩);exact⟨b,z,v,q,vb,x,y,s,by omega,hb,hq,e⟩
def NwJ(q:Nat)(s:List z2T):Prop:=q=0/\s=[]\/q=1/\s≠[]\/q=2/\s≠[]
theorem NwI.j{q n0 z:Nat}{s:List z2T}(h:NwI q n0 z s):NwJ q s:=by
 rcases h with⟨h1,_,h2⟩ |⟨h1,_,_,h2⟩ |⟨h1,_,_,h2⟩ |⟨h1,_,h2⟩ |⟨h1,_,h2⟩<;>simp[NwJ,h1,h2]
abbrev z5W(l:List AgV)(i:Nat):Env:=[(4,.w (Pt 1)),(1,.w (.c (.je (Zbn l)))),(9,.w (W i)),(2,.w (Pt 0)),(6,.w (Pt 2))]
theorem z6M{m:zD}{l:List AgV}(h:NwC m l)(i:Nat)(hi:i<l.length)(va v q vb:Nat)(x y:z2T)(s:List z2T)(hl:s.length+2<=1000)(hb:q≠0->vb=s.length)(hq:NwJ q s):∃(v' q' vb':Nat) (x' y':z2T) (s':List z2T),s'.length<=s.length+2/\(q'≠0->vb'=s'.length)/\NwJ q' s' /\
  Y L Cs z2M (some [4,1,9,2,6]) 4 (z5W l i) (nwM m l v q false va vb x y s)=Y L Cs z2M (some [4,1,9,2,6]) 4 (z5W l (i+1)) (nwM m l v' q' false va vb' x' y' s'):=by
 have htwo:=h.zn2;have vR:=h.few;have hci:(i:Int)<l.length:=by omega
 have hw:=zB (i:=i) (by omega);obtain⟨n0,hn0,hI⟩:∃n0,n0=(nwM m l v q false va vb x y s).length/\NwI q n0 0 s:=by
  rcases hq with⟨rfl,rfl⟩ |⟨rfl,hs⟩ |⟨rfl,hs⟩
  ·exact⟨4,by simp[nwT],by simp[NwI]⟩
  ·exact⟨6,by simp[nwT],by simp[NwI,hs]⟩
  ·exact⟨7,by simp[nwT],by simp[NwI,hs]⟩
 obtain⟨b,z2,v2,q2,vb2,x2,y2,s2,g1,g2,g3,g4⟩:=z6P h i hi n0 va m.kh.length 0 v q vb x y s (by omega) (by omega) hb hI;refine⟨v2,q2,vb2,x2,y2,s2,by omega,g2,g3.j,?_⟩;rw[zj z2M.eq_1];rcases hq with⟨rfl,rfl⟩ |⟨rfl,hs⟩ |⟨rfl,hs⟩<;>rcases g3.j with⟨rfl,rfl⟩ |⟨rfl,hs2⟩ |⟨rfl,hs2⟩<;>simp[z49,nwM,nwT,nwI]at hn0 g4<;>subst hn0<;>simp[z5W,nwM,nwT,nwI,hi,hci,hw,g4,zH]
theorem z6N{m:zD}{l:List AgV}(h:NwC m l)(va:Nat):∀(f i v q vb:Nat) (x y:z2T) (s:List z2T),i+f=l.length->s.length+2*f<=1000->(q≠0->vb=s.length)->NwJ q s->∃(v' q' vb':Nat) (x' y':z2T) (s':List z2T),s'.length<=s.length+2*f/\(q'≠0->vb'=s'.length)/\NwJ q' s' /\
  Y L Cs z2M (some [4,1,9,2,6]) 4 (z5W l i) (nwM m l v q false va vb x y s)=some (.exit 2,(38,.w (Bo false))::z5W l l.length,nwM m l v' q' false va vb' x' y' s'):=by
 intro f;induction f with
 |zero =>
  intro i v q vb x y s hi _ hb hq;obtain rfl:i=l.length:=by omega
  refine⟨v,q,vb,x,y,s,by omega,hb,hq,?_⟩;rw[zj z2M.eq_1];rcases hq with⟨rfl,rfl⟩ |⟨rfl,hs⟩ |⟨rfl,hs⟩<;>simp[z5W,nwM,nwT,nwI]
 |succ f ih =>
  intro i v q vb x y s hi hl hb hq;obtain⟨v1,q1,vb1,x1,y1,s1,h1,h2,h3,h4⟩:=z6M h i (by omega) va v q vb x y s (by omega) hb hq;obtain⟨v2,q2,vb2,x2,y2,s2,g1,g2,g3,g4⟩:=ih (i+1) v1 q1 vb1 x1 y1 s1 (by omega) (by omega) h2 h3;exact⟨v2,q2,vb2,x2,y2,s2,by omega,g2,g3,h4.trans g4⟩
theorem z6Q{m:zD}{l:List AgV}(h:NwC m l)(M:Mem)(hM:M.length=4):∀(f i:Nat),i+f=l.length ->
  Y L Cs z28 (some [6,2,1,8,4]) 4 [(6,.w (Pt 2)),(2,.w (Pt 0)),(1,.w (.c (.je (Zbn l)))),(8,.w (W i)),(4,.w (Pt 1))] M=some (.exit 0,[(26,.w (Bo false)),(1,.w (.c (.je (Zbn l)))),(2,.w (Pt 0)),(6,.w (Pt 2)),(8,.w (W l.length)),(4,.w (Pt 1))],M):=by
 have vR:=h.few;intro f;induction f with
 |zero =>
  intro i hi;obtain rfl:i=l.length:=by omega
  rw[zj z28.eq_1];simp
 |succ f ih =>
  intro i hi;have hil:i<l.length:=by omega
  have hci:(i:Int)<l.length:=by omega
  have hw:=zB (i:=i) (by omega);have hg:=h.gone i hil;rw[<-ih (i+1) (by omega),zj z28.eq_1];simp[agC,hil,hci,hg,hw,hM]
abbrev z4a(l:List AgV)(i j:Nat):Env:=[(12,.w (W j)),(4,.w (Pt 1)),(6,.w (Pt 2)),(2,.w (Pt 0)),(11,.w (W i)),(1,.w (.c (.je (Zbn l))))]
abbrev nwR(m:zD)(l:List AgV)(v q:Nat)(fz:Bool)(va vb:Nat)(x y:z2T)(s:List z2T):Mem:=bx 5 (zf m)::bxv 1 3 z7j::bxv v 3 [I 0,.slice 3 l.length 7 0 l.length none,nwI q s]::z4M fz va l::nwT q fz vb x y s
theorem z6K{m:zD}{l:List AgV}(h:NwC m l)(i j:Nat)(hi:i<l.length)(hj:j<l.length)(fz:Bool)(va v q vb n0:Nat)(x y:z2T)(s:List z2T)(hl:s.length<=1000)(hq:NwJ q s)(hn:n0=(nwM m l v q fz va vb x y s).length) :
  ((((l[i]'hi).start<=0->(l[j]'hj).start<=0->ZbU m (l[i]'hi) (l[j]'hj)=false))/\∃fz' va' vb',Y L Cs Zbq (some [12,4,6,2,11,1]) n0 (z4a l i j) (nwM m l v q fz va vb x y s)=Y L Cs Zbq (some [12,4,6,2,11,1]) n0 (z4a l i (j+1)) (nwM m l v q fz' va' vb' x y s)) \/
  (∃fz' va' vb',Y L Cs Zbq (some [12,4,6,2,11,1]) n0 (z4a l i j) (nwM m l v q fz va vb x y s)=some (.ret,[(4,.w (Pt 1)),(5,.w (W 12))],nwR m l v q fz' va' vb' x y s)):=by
 have hT:=h.there s i hi;have hU:=h.there s j hj;have hO:=h.touch i j hi hj;obtain⟨out,hZ⟩:=h.kh s i j hi hj hl;have vR:=h.few;have tk:=z63 l;have tk2:=z62 s;have hci:(i:Int)<l.length:=by omega
 have hcj:(j:Int)<l.length:=by omega
 have hw:=zB (i:=j) (by omega);have r0:z2H []=[]:=rfl;simp only[zf,agC]at hO hZ;by_cases c1:(l[i]'hi).start<=0
 ·rw[decide_eq_true c1]at hT;by_cases c2:(l[j]'hj).start<=0
  ·rw[decide_eq_true c2]at hU;generalize ZbU m (l[i]'hi) (l[j]'hj)=t at *;cases t with
   |true =>
    right;refine⟨fz,va,vb,?_⟩;rw[zj Zbq.eq_1];rcases hq with⟨rfl,rfl⟩ |⟨rfl,hs⟩ |⟨rfl,hs⟩<;>simp[z4a,nwM,nwT,nwI]at hn<;>subst hn<;>(try simp only[r0]at hT hU hZ)<;>cases fz<;>simp[z4a,nwM,nwR,z4k,z4w,z4M,zf,agC,nwT,nwI,hi,hj,hci,hcj,hw,hT,hU,hO,tk,tk2,zX,zg,zH]
   |false =>
    by_cases c3:out=[]
    ·left;subst c3;refine⟨fun _ _=>rfl,true,if fz then va else va+1,if q=0 then vb else if fz then vb else vb+1,?_⟩;rw[zj Zbq.eq_1];rcases hq with⟨rfl,rfl⟩ |⟨rfl,hs⟩ |⟨rfl,hs⟩<;>simp[z4a,nwM,nwT,nwI]at hn<;>subst hn<;>(try simp only[r0]at hT hU hZ)<;>cases fz<;>simp[z4a,nwM,nwR,z4k,z4w,z4M,zf,agC,nwT,nwI,hi,hj,hci,hcj,hw,hT,hU,hO,hZ,tk,tk2,zX,zg,zH]
    ·right;have c4:0<out.length:=j9.2 c3;refine⟨true,if fz then va else va+1,if q=0 then vb else if fz then vb else vb+1,?_⟩;rw[zj Zbq.eq_1];rcases hq with⟨rfl,rfl⟩ |⟨rfl,hs⟩ |⟨rfl,hs⟩<;>simp[z4a,nwM,nwT,nwI]at hn<;>subst hn<;>(try simp only[r0]at hT hU hZ)<;>cases fz<;>simp[z4a,nwM,nwR,z4k,z4w,z4M,zf,agC,nwT,nwI,hi,hj,hci,hcj,hw,hT,hU,hO,hZ,c4,tk,tk2,zX,zg,zH]
  ·rw[decide_eq_false c2]at hU;left;refine⟨fun _ h=>absurd h c2,fz,va,vb,?_⟩;rw[zj Zbq.eq_1];rcases hq with⟨rfl,rfl⟩ |⟨rfl,hs⟩ |⟨rfl,hs⟩<;>simp[z4a,nwM,nwT,nwI]at hn<;>subst hn<;>(try simp only[r0]at hT hU hZ)<;>cases fz<;>simp[z4a,nwM,nwR,z4k,z4w,z4M,zf,agC,nwT,nwI,hi,hj,hci,hcj,hw,hT,hU,tk,tk2,zX,zg,zH]
 ·rw[decide_eq_false c1]at hT;left;refine⟨fun h _=>absurd h c1,fz,va,vb,?_⟩;rw[zj Zbq.eq_1];rcases hq with⟨rfl,rfl⟩ |⟨rfl,hs⟩ |⟨rfl,hs⟩<;>simp[z4a,nwM,nwT,nwI]at hn<;>subst hn<;>(try simp only[r0]at hT hU hZ)<;>cases fz<;>simp[z4a,nwM,nwR,z4k,z4w,z4M,zf,agC,nwT,nwI,hi,hj,hci,hcj,hw,hT,hU,tk,tk2,zX,zg,zH]
abbrev z48(l:List AgV)(i:Nat):Env:=[(4,.w (Pt 1)),(6,.w (Pt 2)),(2,.w (Pt 0)),(11,.w (W i)),(1,.w (.c (.je (Zbn l))))]
theorem z6L{m:zD}{l:List AgV}(h:NwC m l)(i:Nat)(hi:i<l.length)(v q n0:Nat)(x y:z2T)(s:List z2T)(hl:s.length<=1000)(hq:NwJ q s)(hn:∀fz va vb,n0=(nwM m l v q fz va vb x y s).length):∀(f j:Nat) (fz:Bool) (va vb:Nat),j+f=l.length ->
  ((∀(w:Nat) (hw:w<l.length),j<=w->(l[i]'hi).start<=0->(l[w]'hw).start<=0->ZbU m (l[i]'hi) (l[w]'hw)=false)/\∃fz' va' vb',Y L Cs Zbq (some [12,4,6,2,11,1]) n0 (z4a l i j) (nwM m l v q fz va vb x y s)=some (.exit 8,(90,.w (Bo false))::z4a l i l.length,nwM m l v q fz' va' vb' x y s)) \/
  (0<f/\∃fz' va' vb',Y L Cs Zbq (some [12,4,6,2,11,1]) n0 (z4a l i j) (nwM m l v q fz va vb x y s)=some (.ret,[(4,.w (Pt 1)),(5,.w (W 12))],nwR m l v q fz' va' vb' x y s)):=by
 intro f;induction f with
 |zero =>
  intro j fz va vb hj;obtain rfl:j=l.length:=by omega
  left;refine⟨fun w hw hj=>by omega,fz,va,vb,?_⟩;rw[zj Zbq.eq_1];simp[z4a,nwM]
 |succ f ih =>
  intro j fz va vb hj;rcases z6K h i j hi (by omega) fz va v q vb n0 x y s hl hq (hn fz va vb)with⟨t1,f1,a1,b1,e⟩|e
  ·rcases ih (j+1) f1 a1 b1 (by omega)with⟨t2,f2,a2,b2,e2⟩ |⟨_,f2,a2,b2,e2⟩
   ·refine .inl ⟨fun w hw hj2=>?_,f2,a2,b2,e.trans e2⟩;rcases qp hj2 with e|e
    ·subst e;exact t1
    ·exact t2 w hw e
   ·exact .inr ⟨by omega,f2,a2,b2,e.trans e2⟩
  ·exact .inr ⟨by omega,e⟩
theorem z68(q:Nat)(fz fz':Bool)(vb vb':Nat)(x y:z2T)(s:List z2T):(nwT q fz vb x y s).length=(nwT q fz' vb' x y s).length:=by
 unfold nwT;split
 ·rfl
 ·split<;>rfl
theorem z6I{m:zD}{l:List AgV}(h:NwC m l)(i:Nat)(hi:i<l.length)(fz:Bool)(va v q vb n0:Nat)(x y:z2T)(s:List z2T)(hl:s.length<=1000)(hq:NwJ q s)(hn:∀fz va vb,n0=(nwM m l v q fz va vb x y s).length) :
  ((∀(w:Nat) (hw:w<l.length),i<w->(l[i]'hi).start<=0->(l[w]'hw).start<=0->ZbU m (l[i]'hi) (l[w]'hw)=false)/\∃fz' va' vb',Y L Cs z2t (some [4,6,2,11,1]) n0 (z48 l i) (nwM m l v q fz va vb x y s)=Y L Cs z2t (some [4,6,2,11,1]) n0 (z48 l (i+1)) (nwM m l v q fz' va' vb' x y s)) \/
  (1<l.length/\∃fz' va' vb',Y L Cs z2t (some [4,6,2,11,1]) n0 (z48 l i) (nwM m l v q fz va vb x y s)=some (.ret,[(4,.w (Pt 1)),(5,.w (W 12))],nwR m l v q fz' va' vb' x y s)):=by
 have vR:=h.few;have hci:(i:Int)<l.length:=by omega
 have hw:=zB (i:=i) (by omega);rcases z6L h i hi v q n0 x y s hl hq hn (l.length-(i+1)) (i+1) fz va vb (by omega)with⟨t1,f1,a1,b1,e⟩ |⟨hlt,f1,a1,b1,e⟩
 ·left;refine⟨t1,f1,a1,b1,?_⟩;have hn1:=hn fz va vb;rw[zj z2t.eq_1];rcases hq with⟨rfl,rfl⟩ |⟨rfl,hs⟩ |⟨rfl,hs⟩<;>simp[nwM,nwT]at hn1<;>subst hn1<;>simp[z4a,nwM,nwT,nwI]at e<;>simp[z48,nwM,nwT,nwI,hi,hci,hw,e]
 ·right;refine⟨by omega,f1,a1,b1,?_⟩;have hn1:=hn fz va vb;rw[zj z2t.eq_1];rcases hq with⟨rfl,rfl⟩ |⟨rfl,hs⟩ |⟨rfl,hs⟩<;>simp[nwM,nwT]at hn1<;>subst hn1<;>simp[z4a,nwM,nwR,nwT,nwI]at e<;>simp[z48,nwM,nwR,nwT,nwI,hi,hci,hw,e]
theorem z6J{m:zD}{l:List AgV}(h:NwC m l)(v q n0:Nat)(x y:z2T)(s:List z2T)(hl:s.length<=1000)(hq:NwJ q s)(hn:∀fz va vb,n0=(nwM m l v q fz va vb x y s).length):∀(f i:Nat) (fz:Bool) (va vb:Nat),i+f=l.length ->
  ((∀(u w:Nat) (hu:u<l.length) (hw:w<l.length),i<=u->u<w->(l[u]'hu).start<=0->(l[w]'hw).start<=0->ZbU m (l[u]'hu) (l[w]'hw)=false)/\∃fz' va' vb',Y L Cs z2t (some [4,6,2,11,1]) n0 (z48 l i) (nwM m l v q fz va vb x y s)=some (.exit 6,(82,.w (Bo false))::z48 l l.length,nwM m l v q fz' va' vb' x y s)) \/
  (1<l.length/\∃fz' va' vb',Y L Cs z2t (some [4,6,2,11,1]) n0 (z48 l i) (nwM m l v q fz va vb x y s)=some (.ret,[(4,.w (Pt 1)),(5,.w (W 12))],nwR m l v q fz' va' vb' x y s)):=by
 intro f;induction f with
 |zero =>
  intro i fz va vb hi;obtain rfl:i=l.length:=by omega
  left;refine⟨fun u w hu hw hj=>by omega,fz,va,vb,?_⟩;rw[zj z2t.eq_1];simp[z48,nwM]
 |succ f ih =>
  intro i fz va vb hi;rcases z6I h i (by omega) fz va v q vb n0 x y s hl hq hn with⟨t1,f1,a1,b1,e⟩|e
  ·rcases ih (i+1) f1 a1 b1 (by omega)with⟨t2,f2,a2,b2,e2⟩ |⟨hlt,f2,a2,b2,e2⟩
   ·refine .inl ⟨fun u w hu hw hj2=>?_,f2,a2,b2,e.trans e2⟩;rcases qp hj2 with e|e
    ·subst e;exact t1 w hw
    ·exact t2 u w hu hw e
   ·exact .inr ⟨hlt,f2,a2,b2,e.trans e2⟩
  ·exact .inr e
theorem z6Y{m:zD}{l:List AgV}(h:NwC m l)(hl:0<l.length)(e:Int)(hC:R L Cs z3m [.a (zf m),.a [I 0,.je (Zbn l),.je []]] []=some (.w (W e),[]))
  (hP:R L Cs z2u [.a [I 0,.je (Zbn l),.je []]] []=some (.w (.a [I 0,.slice 0 l.length 7 0 l.length none,.jd]),[z4M false l.length l])) :
  ∃(e':Int) (ins:List z2T),ins.length<=1000/\((e=0->l.length=1->e'=0)/\(e'=0->Zeq m l))/\R L Cs z3v [.a (zf m),.c (.je (Zbn l))] []=some (.t [.a (if e'=0 then [I 0,.je (Zbn l),.je (z2H ins)] else [I 0,.je [],.je []]),W e'],[]):=by
 have vR:=h.few;have tk:=z63 l;simp only[zf]at hC;by_cases c:e=0
 ·subst c;have h1:=z6Q h (nwM m l 1 0 false l.length 0 z46 z46 []) (by simp[nwT]) l.length 0 (by omega);obtain⟨v,q,vb,x,y,s,g1,g2,g3,h3⟩:=z6N h l.length l.length 0 1 0 0 z46 z46 [] (by omega) (by simp;omega) (fun h=>absurd rfl h) (.inl ⟨rfl,rfl⟩);have hs:s.length<=1000:=by simp at g1;omega
  have tk2:=z62 s;rcases z6J h v q _ x y s hs g3 (fun fz va vb=>show(nwM m l v q false 0 0 x y s).length=_ by simp only[nwM,jq];rw[z68]) l.length 0 false l.length vb (by omega)with⟨t1,f1,a1,b1,h5⟩ |⟨hlt,f1,a1,b1,h5⟩
  ·refine⟨0,s,hs,⟨fun _ _=>rfl,fun _ i j hi hj hij=>t1 i j hi hj (by omega) hij⟩,?_⟩;rw[zUa z3l rfl];rcases g3 with⟨rfl,rfl⟩ |⟨rfl,hs2⟩ |⟨rfl,hs2⟩<;>simp[z5W,z48,nwM,nwT,nwI,zf]at h1 h3 h5<;>cases f1<;>simp[z2X,zf,hC,hP,h1,h3,h5,tk,tk2,show z2H []=[] from rfl,zg,zH,zX]
  ·refine⟨12,[],by simp,⟨fun _ h1=>by omega,fun h=>absurd h (by decide)⟩,?_⟩;rw[zUa z3l rfl];rcases g3 with⟨rfl,rfl⟩ |⟨rfl,hs2⟩ |⟨rfl,hs2⟩<;>simp[z5W,z48,nwM,nwR,nwT,nwI,zf]at h1 h3 h5<;>cases f1<;>simp[z2X,zf,hC,hP,h1,h3,h5,tk,tk2,zg,zH,zX]
 ·refine⟨e,[],by simp,⟨fun h0 _=>h0,fun h=>absurd h c⟩,?_⟩;have cb:(e==0)=false:=by simp[c]
  have cc:(e !=0)=true:=by simp[c]
  rw[zUa z3l rfl];simp[z2X,zf,hC,hP,c,cb,cc,tk,zg,zH,zX]
theorem z7g(l:List AgV)(h0:0<l.length)(hl:l.length<=7)(h:∀a∈l,a.jg≠[]/\a.jg.length<=8):R L Cs z2u [.a [I 0,.je (Zbn l),.je []]] []=some (.w (.a [I 0,.slice 0 l.length 7 0 l.length none,.jd]),[z4M false l.length l]):=by
 match l,h0,hl,h with
 |[a],_,_,h=>exact copy1 a (h a (by simp))
 |[a,b],_,_,h=>exact copy2 a b (h a (by simp)) (h b (by simp))
 |[a,b,c],_,_,h=>exact copy3 a b c (h a (by simp)) (h b (by simp)) (h c (by simp))
 |[a,b,c,d],_,_,h=>exact copy4 a b c d (h a (by simp)) (h b (by simp)) (h c (by simp)) (h d (by simp))
 |[a,b,c,d,e],_,_,h=>exact copy5 a b c d e (h a (by simp)) (h b (by simp)) (h c (by simp)) (h d (by simp)) (h e (by simp))
 |[a,b,c,d,e,f],_,_,h=>exact copy6 a b c d e f (h a (by simp)) (h b (by simp)) (h c (by simp)) (h d (by simp)) (h e (by simp)) (h f (by simp))
 |[a,b,c,d,e,f,g],_,_,h=>exact copy7 a b c d e f g (h a (by simp)) (h b (by simp)) (h c (by simp)) (h d (by simp)) (h e (by simp)) (h f (by simp)) (h g (by simp))
 |_::_::_::_::_::_::_::_::_,_,hl,_=>simp at hl
theorem z7o{m:zD}{zs:List Zon}{ss:List Sgn}(hF:z7y m zs ss):z6t m:=by
 intro l h0 hl hk hfst;have h:=hF.full.qt;have hz:m.kh.length=zs.length:=by rw[hF.full.zd.z];simp
 have hc:NwC m l:={
  there:=fun s i hi=>by
   have ht:=z56 ⟨0,l,s⟩ i hi;have hg:=(hk _ (jb hi)).stay;simp only[thA,hg,Bool.not_false,Bool.and_true]at ht;exact ht
  pres:=fun i hi z _=>⟨_,z4G hF (hk _ (jb hi)).toWAg (hk _ (jb hi)).toWAg z⟩
  qX:=fun i hi z hzl=>(z7f hF (hk _ (jb hi)).toWAg z (by omega) 0 (by omega)).imp fun _ h=>h.2
  touch:=fun i j hi hj=>z55 h (hk _ (jb hi)).toWAg (hk _ (jb hj)).toWAg
  kh:=fun s i j hi hj _=>(z6X hF ⟨0,l,s⟩ ⟨0,l,s⟩ rfl i j hi hj (hk _ (jb hi)).toWAg (hk _ (jb hj)).toWAg (hk _ (jb hi)).toWAg (hk _ (jb hj)).toWAg).imp fun _ h=>h.2
  gone:=fun i hi=>(hk _ (jb hi)).stay
  few:=hl
  zn2:=by have:=hF.zn2;omega }
 have hC:=z5f h ⟨0,l,[]⟩ ⟨by simp,fun a ha=>(hk a ha).toWAg,fun a ha ht=>(hk a ha).late ht,by simp only;omega,h0,hfst h0,by simp⟩;exact z6Y hc h0 _ hC (z7g l h0 hl fun a ha=>⟨((hk a ha).on h).2.1,((hk a ha).on h).2.2⟩)
theorem z6h{m:zD}(h:zcp m):R L Cs z3m [.a (zf m),.a [I 0,.je [],.je []]] []=some (.w (W 6),[]):=by
 have hk:=h.Au;simp only[zf]at hk;rw[zUa z3L rfl];simp[z2I,zf,hk,zg]
theorem z6Z{m:zD}(h:zcp m):R L Cs z3v [.a (zf m),.c (.je [])] []=some (.t [.a z3C,W 6],[]):=by
 have hC:=z6h h;have hP:=copy0;simp only[zf,Zbn,qE]at hC hP;rw[zUa z3l rfl];simp[z2X,zf,hC,hP,z3C,zg,zH,zX]
theorem z6o{m:zD}(h:zcp m):∀(l:List Int) (a:Int),(∀x∈l,0<=x/\x<m.jc.length)->a<=zmd m a l
 |[],_,_=>ko _
 |x::t,a,ho=>by
  have h1:=zcX h (ho x (by simp));have h2:=z6o h t (a+z8 m x) (fun y hy=>ho y (by simp[hy]));unfold zmd;omega
theorem z6U{m:zD}(h:zcp m){l:List Int}(hr:zdA m l=0):1000<=zmd m 0 l:=by
 obtain⟨hon,hne,hl8⟩:=zg1 h hr;cases l with
 |nil=>exact absurd rfl hne
 |cons x t =>
  have h1:=zcX h (hon x (by simp));have h2:=z6o h t (0+z8 m x) (fun y hy=>hon y (by simp[hy]));unfold zmd;omega
theorem z69{m:zD}(h:zcp m)(a:AgV)(ha:KAg m a)(hv:a.v=0):z31 m ⟨0,[a],[]⟩=0:=by
 have h1:=z5w (zaK m (z42 m a));have:z3z m a=0:=by unfold z3z;rw[hv,if_pos (by omega)]
 simp[z31,this]
theorem Zep{m:zD}{zs:List Zon}{ss:List Sgn}(hF:z7y m zs ss)(sg:Bool)(q:List z45)(hsg:sg=true->∀x∈q,x.dis=false)(hq:q.length<=7):∃s,KSn m s/\(s.tick=0/\s.agents.length<=7/\ZeX m sg s.agents)/\R L Cs z4x [.a (zf m),.c (.je (z32 q))] []=some (.w (.a (snC s)),[]):=by
 have h:=hF.full.qt;have hN:=z7o hF;have hn:=z6Z h;obtain⟨l,v,st,b,hl,hst,hL⟩:=z65 hF hN sg q hsg hq q.length 0 1 z3C [] (by omega) (by simp) ⟨⟨_,_,rfl⟩,by simp,⟨fun h=>absurd h (by simp),fun h=>absurd h (by simp),fun _ j hj=>absurd hj (by simp),fun i j hi=>absurd hi (by simp)⟩,fun h=>absurd rfl h⟩;obtain⟨A,B,rfl⟩:=hst.1;by_cases c:l=[]
 ·subst c;obtain⟨a,ha,h0,⟨hln,hob⟩,hA⟩:=z5h hF ⟨0,1048576,0,0,0,false⟩ true;have hlen:=hln (by simp);have hb:=z6U h ha.jg;obtain⟨rt,as,av,al,ast,ao,ag⟩:=a;simp only at hlen hb h0 hob;have hob:ao=false:=by simpa using hob
  subst hlen;have hka:KAg m ⟨rt,301,0,300,ast,ao,ag⟩:=KAg.of ha.jg (by simp) ha.start ⟨by simp,by simp only;omega⟩ (fun hp=>absurd (h0 (by simp)) (by simp only at hp;omega)) ha.stay;obtain⟨e,ins,AP,⟨he,hnt⟩,hNw⟩:=hN [⟨rt,301,0,300,ast,ao,ag⟩] (by simp) (by simp) (by simpa using hka) (by intro _;exact h0 (by simp));obtain rfl:=he (z69 h _ hka rfl) rfl;refine⟨⟨0,[⟨rt,301,0,300,ast,ao,ag⟩],ins⟩,⟨by simp,by simpa using hka.toWAg,by simpa using hka.late,by simp,by simp,h0 (by simp),AP⟩,⟨rfl,by simp,⟨fun _=>h0 (by simp),fun _=>hob,fun _ j hj hp=>by simp at hj;omega,hnt rfl⟩⟩,?_⟩;simp only[zf,z3N,agC,z3C,Zbn,kw,qE,scE,scM,agW,↓reduceIte,ji]at hn hA hNw hL;rw[zUa z3U rfl];simp only[snC,Zbn,kw,qE,agC]at hNw ⊢;have w3:IntKind.i64.wrap 301=301:=rfl;simp[z3k,zf,z3C,hn,hL,hA,hNw,w3,zg,zH,zX]
 ·obtain⟨ins,AP,e⟩:=hst.2.2.2 c;have hp:0<l.length:=j9.2 c;refine⟨⟨0,l,ins⟩,⟨by simp,fun a ha=>(hst.2.1 a ha).toWAg,fun a ha ht=>(hst.2.1 a ha).late ht,by simp only;omega,hp,hst.2.2.1.own hp,AP⟩,⟨rfl,hl,hst.2.2.1⟩,?_⟩;rw[<-e];simp only[zf,z3C,scE,scM,agW,c,↓reduceIte,ji]at hn hL;have l0:((l.length:Int)==0)=false:=beq_false_of_ne (by omega);have lr:Zbn l≠[]:=by simpa [Zbn]using c
  rw[zUa z3U rfl];simp only[snC]at e;obtain⟨rfl,rfl⟩:A=Zbn l/\B=z2H ins:=by simpa using e
  simp[z3k,zf,z3C,hn,hL,l0,lr,c,zg,zH,zX]
def Zcf:z2T:=⟨0,0,0,0⟩
def Zc7(a z:Int)(x:z2T):Bool:=decide (x.qy=a)&&decide (x.uf=z)
def ZdS(ins:List z2T)(a z:Int):Option Nat:=ins.findIdx? (Zc7 a z)
def Zdu(ins:List z2T)(a z:Int):z2T:=match ZdS ins a z with
 |some i=>ins.getD i Zcf
 |none=>Zcf
theorem Zdi(ins:List z2T)(hl:ins.length<=1000)(a z:Int):R L Cs Zb2 [.c (.je (z2H ins)),W a,W z] []=some (.t [.a (z29 (Zdu ins a z)),Bo (ZdS ins a z).isSome],[]):=by
 have hL:=zxf (L:=L) (Cs:=Cs) (b:=ZbF) (live:=some [1,2,0,8,6]) (n0:=1) ins (fun i=>[(1,.w (W a)),(2,.w (W z)),(0,.w (.c (.je (z2H ins)))),(8,.w (W i)),(6,.w (Pt 0))]) [bx 4 (z29 Zcf)] (Zc7 a z) (fun i=>(.ret,[(6,.w (Pt 0)),(7,.w (Bo true))],[bxv 1 4 (z29 (ins.getD i Zcf))])) (.exit 0,[(12,.w (Bo false)),(2,.w (W z)),(1,.w (W a)),(0,.w (.c (.je (z2H ins)))),(8,.w (W ins.length)),(6,.w (Pt 0))],[bx 4 (z29 Zcf)])
  (fun i hi hb=>by
   have hw:=zB (i:=i) (by omega);generalize hx:ins[i]=x at *;unfold Zc7 at hb;rw[zj ZbF.eq_1];by_cases c1:x.qy=a
   ·have b1:(x.qy==a)=true:=by simp[c1]
    have c2:¬x.uf=z:=by simpa [c1]using hb
    have b2:(x.uf==z)=false:=by simp[c2]
    simp[z29,Zcf,hi,hx,hw,b1,b2]
   ·have b1:(x.qy==a)=false:=by simp[c1]
    simp[z29,Zcf,hi,hx,hw,b1])
  (fun i hi hb=>by
   rw[show ins.getD i Zcf=ins[i] by simp[hi]];generalize hx:ins[i]=x at *;unfold Zc7 at hb;simp only[jh,decide_eq_true_eq]at hb;have b1:(x.qy==a)=true:=by simp[hb.1]
   have b2:(x.uf==z)=true:=by simp[hb.2]
   rw[zj ZbF.eq_1];simp[z29,Zcf,hi,hx,b1,b2])
  (by rw[zj ZbF.eq_1];simp[z29,Zcf])
 simp only[z29,Zcf,ji]at hL;rw[zUa Zcq rfl];unfold Zdu ZdS;cases hq:ins.findIdx? (Zc7 a z)with
 |none =>
  rw[hq]at hL;simp[ZbQ,z29,Zcf,hL,zg]
 |some i =>
  rw[hq]at hL;simp only at hL;simp[ZbQ,z29,Zcf,hL,zg]
theorem ZeY(s:SnV)(hl:s.ins.length<=1000)(i j z:Int):∃l:List Int,R L Cs Zct [.a (snC s),W i,W j,W z] []=some (.w (.c (.je (zu l))),[]):=by
 have hA:=Zdi s.ins hl i z;have hB:=Zdi s.ins hl j z;generalize Zdu s.ins i z=x at *;generalize Zdu s.ins j z=y at *;generalize (ZdS s.ins i z).isSome=b at *;generalize (ZdS s.ins j z).isSome=d at *;simp only[z29]at hA hB;rw[zUa Zcw rfl];by_cases c1:x.qX<y.qX
 ·exact⟨[i],by simp[Zbz,snC,z29,hA,hB,c1,zg,zH,zX]⟩
 ·by_cases c2:x.qX=y.qX
  ·have b2:(x.qX==y.qX)=true:=by simp[c2]
   have c5:¬y.qX<x.qX:=by omega
   by_cases c3:y.since<x.since
   ·exact⟨[i],by simp[Zbz,snC,z29,hA,hB,c1,c2,b2,c3,c5,zg,zH,zX]⟩
   ·by_cases c4:x.since<y.since
    ·exact⟨[j],by simp[Zbz,snC,z29,hA,hB,c1,c2,b2,c3,c4,c5,zg,zH,zX]⟩
    ·exact⟨[i,j],by simp[Zbz,snC,z29,hA,hB,c1,c2,b2,c3,c4,c5,zg,zH,zX]⟩
  ·have b2:(x.qX==y.qX)=false:=by simp[c2]
   have c5:y.qX<x.qX:=by omega
   exact⟨[j],by simp[Zbz,snC,z29,hA,hB,c1,c2,b2,c5,zg,zH,zX]⟩
def isX(x:Int)(y:Int):Bool:=decide (y=x)
def Zb5(l:List Int)(x:Int):Option Nat:=l.findIdx? (isX x)
def ZbS(m:zD)(l:List Int)(x:Int):Int:=match Zb5 l x with
 |some i=>(zW m 0 l).getD i 0
 |none=>0
theorem Zdr{m:zD}(h:zcp m){l:List Int}(hr:zdA m l=0)(x:Int):R L Cs Zch [.a (zf m),.c (.je (zu l)),W x] []=some (.t [W (ZbS m l x),Bo (Zb5 l x).isSome],[]):=by
 have hS:=zRG h hr;have hle:=zcO m l 0;obtain⟨_,_,hl8⟩:=zg1 h hr;unfold ZbS Zb5;generalize zW m 0 l=st at *;have hL:=zxf (L:=L) (Cs:=Cs) (b:=ZbB) (live:=some [1,2,8,9]) (n0:=1) l (fun i=>[(1,.w (.c (.je (zu l)))),(2,.w (W x)),(8,.w (.c (.je (zu st)))),(9,.w (W i))]) [bx 5 (zf m)] (isX x) (fun i=>(.ret,[(6,.w (W (st.getD i 0))),(7,.w (Bo true))],[bx 5 (zf m)])) (.exit 0,[(16,.w (Bo false)),(2,.w (W x)),(1,.w (.c (.je (zu l)))),(8,.w (.c (.je (zu st)))),(9,.w (W l.length))],[bx 5 (zf m)])
  (fun i hi hb=>by
   have hw:=zB (i:=i) (by omega);generalize hx:l[i]=y at *;have b1:(y==x)=false:=by simpa [isX]using hb
   rw[zj ZbB.eq_1];simp[zf,hi,hx,hw,b1])
  (fun i hi hb=>by
   have his:i<st.length:=by omega
   rw[show st.getD i 0=st[i] by simp[his]];generalize hx:l[i]=y at *;have b1:(y==x)=true:=by simpa [isX]using hb
   rw[zj ZbB.eq_1];simp[zf,hi,his,hx,b1])
  (by rw[zj ZbB.eq_1];simp[zf])
 simp only[zf,ji]at hS hL;rw[zUa Zcl rfl];cases hq:l.findIdx? (isX x)with
 |none =>
  rw[hq]at hL;simp[ZbM,zf,hS,hL,zg]
 |some i =>
  rw[hq]at hL;simp only at hL;simp[ZbM,zf,hS,hL,zg]
def Zdy(f v next b r:Int):Bool:=decide (f<r)&&decide (f+zet v b<r)&&decide (r<=f+next+zet next b)
theorem Zem(red:List Int)(hl:red.length<=100000)(f v next b:Int)(hf:0<=f/\f<=1000000000)(hv:0<=v/\v<=10000)(hn:0<=next/\next<=10000)(hb:1<=b/\b<=1000):R L Cs Zci [.c (.je (zu red)),W f,W v,W next,W b] []=some (.w (Bo (!red.any (Zdy f v next b))),[]):=by
 have h1:=zBX v b (by omega) hb;have h2:=zBX next b (by omega) hb
 have d1:=zzq hv.2 hb 10000 hv.2 (by omega);have d2:=zzq hn.2 hb 10000 hn.2 (by omega);have Br:∀r,Zdy f v next b r=(decide (f<r)&&decide (f+zet v b<r)&&decide (r<=f+next+zet next b)):=fun _=>rfl
 generalize Zdy f v next b=pr at *
 generalize zet v b=s1 at *;generalize zet next b=s2 at *
 have w1:=kj (f+s1);have w2:=kj (f+next);have w3:=kj (f+next+s2);clear d1 d2;have hL:=zpE (L:=L) (Cs:=Cs) (b:=ZbC) (live:=some [2,1,3,4,0,11]) (n0:=0) red (fun i=>[(2,.w (W v)),(1,.w (W f)),(3,.w (W next)),(4,.w (W b)),(0,.w (.c (.je (zu red)))),(11,.w (W i))]) [] pr (.ret,[(10,.w (Bo false))],[]) (.exit 0,[(15,.w (Bo false)),(0,.w (.c (.je (zu red)))),(4,.w (W b)),(3,.w (W next)),(1,.w (W f)),(2,.w (W v)),(11,.w (W red.length))],[])
  (fun i hi hc=>by
   have hw:=zB (i:=i) (by omega);generalize hx:red[i]=r at *;rw[Br]at hc;rw[zj ZbC.eq_1];by_cases c1:f<r
   ·by_cases c2:f+s1<r
    ·have c3:¬r<=f+next+s2:=by simpa [c1,c2]using hc
     simp[hi,hx,hw,h1,h2,w1,w2,w3,c1,c2,c3]
    ·simp[hi,hx,hw,h1,h2,w1,w2,w3,c1,c2]
   ·simp[hi,hx,hw,c1])
  (fun i hi hc=>by
   generalize hx:red[i]=r at *;rw[Br]at hc;simp only[jh,decide_eq_true_eq]at hc;obtain⟨⟨c1,c2⟩,c3⟩:=hc;rw[zj ZbC.eq_1];simp[hi,hx,h1,h2,w1,w2,w3,c1,c2,c3])
  (by rw[zj ZbC.eq_1];simp)
 simp only[ji]at hL;rw[zUa Zcm rfl];cases hq:red.any pr with
 |true =>
  rw[hq]at hL;simp[ZbN,hL,zg]
 |false =>
  rw[hq]at hL;simp[ZbN,hL,zg]
def Zed(n f g left rear:Int):Bool:=decide (0<=f)&&(decide (0<=g)&&(decide (left<=n)&&(decide (rear<=n)&&decide (rear<=f))))
def lnB(m:zD)(a b c d:AgV)(l:Nat):Bool :=
 (Zb5 a.jg l).isSome&&((Zb5 b.jg l).isSome &&
  (let x:=ZbS m a.jg l
   let y:=ZbS m b.jg l
   if a.s-x<b.s-y then Zed (z8 m l) (c.s-x) (d.s-y) (a.s-x-a.len) (d.s-y-d.len)
   else Zed (z8 m l) (d.s-y) (c.s-x) (b.s-y-b.len) (c.s-x-c.len)))
structure CrV where
 tick:Int
 a:Int
 b:Int
 lane:Int
 uf:Int
 who:List Int
def crC(c:CrV):List Cl:=[I c.tick,I c.a,I c.b,I c.lane,I c.uf,.je (zu c.who)]
def ZbD(l:List CrV):List (List Cl):=l.map crC
theorem ZcW{m:zD}(h:zcp m){a:AgV}(ha:WAg m a)(x:Int):0<=ZbS m a.jg x/\ZbS m a.jg x<=8000000:=by
 unfold ZbS;cases hq:Zb5 a.jg x with
 |none=>simp
 |some i =>
  have hi:i<a.jg.length:=by
   unfold Zb5 at hq;obtain⟨h1,_⟩:=jP.1 hq;exact h1
  have:=ha.BN h hi;simpa [zb4]using this
abbrev lnE(i j k:Nat):Env:=[(11,.w (W k)),(4,.w (W j)),(3,.w (W i)),(6,.w (Pt 1)),(5,.w (Pt 0)),(7,.w (Pt 2))]
abbrev lnM(m:zD)(s t:SnV):Mem:=[bx 5 (zf m),bx 3 (snC s),bx 3 (snC t),gb 6]
abbrev Zcs(m:zD)(s t:SnV)(c:CrV):Mem:=[bx 5 (zf m),bx 3 (snC s),bx 3 (snC t),gb 6,some { box:=false,esz:=1,rows:=zu c.who,gen:=1,fz:=true,ver:=2 },some { box:=false,esz:=6,rows:=[crC c],gen:=1,fz:=false,ver:=1 }]
theorem Zey{m:zD}(h:zcp m)(s t:SnV)(i j:Nat)(hi:i<s.agents.length)(hj:j<s.agents.length)(hi':i<t.agents.length)(hj':j<t.agents.length)(ha:WAg m s.agents[i])(hb:WAg m s.agents[j])(hc:WAg m t.agents[i])(hd:WAg m t.agents[j])(k:Nat)(hk:k<m.jc.length) :
  (lnB m s.agents[i] s.agents[j] t.agents[i] t.agents[j] k=false->Y L Cs Zbm (some [11,4,3,6,5,7]) 4 (lnE i j k) (lnM m s t)=Y L Cs Zbm (some [11,4,3,6,5,7]) 4 (lnE i j (k+1)) (lnM m s t)) /\
  (lnB m s.agents[i] s.agents[j] t.agents[i] t.agents[j] k=true->∃w:Int,Y L Cs Zbm (some [11,4,3,6,5,7]) 4 (lnE i j k) (lnM m s t)=some (.ret,[(10,.w (.c (.slice 5 1 6 0 1 none)))],Zcs m s t ⟨s.tick,i,j,k,-1,[w]⟩)):=by
 have vR:=h.small.jc;have hw:=zB (i:=k) (by omega);have s1:=Zdr h ha.jg k;have s2:=Zdr h hb.jg k;have b1:=ZcW h ha k;have b2:=ZcW h hb k;have hL:=zEV h (x:=(k:Int)) ⟨by omega,by omega⟩;have hln:=zcX h (x:=(k:Int)) ⟨by omega,by omega⟩;have ea:=ha.s;have eb:=hb.s;have ec:=hc.s;have ed:=hd.s;have fa:=ha.vw h;have fb:=hb.vw h;have fc:=hc.vw h;have fd:=hd.vw h;have la:=ha.len;have lb:=hb.len;have lc:=hc.len;have ld:=hd.len;have hci:(i:Int)<s.agents.length:=by omega
 have hcj:(j:Int)<s.agents.length:=by omega
 have Aj:(i:Int)<t.agents.length:=by omega
 have Ai:(j:Int)<t.agents.length:=by omega
 have hck:(k:Int)<m.jc.length:=by omega
 unfold lnB;generalize hga:s.agents[i]=a at *;generalize hgb:s.agents[j]=b at *;generalize hgc:t.agents[i]=c at *;generalize hgd:t.agents[j]=d at *;generalize ZbS m a.jg k=x at *;generalize ZbS m b.jg k=y at *;generalize z8 m k=n at *;have w1:=kj (a.s-x);have w2:=kj (b.s-y);have w3:=kj (c.s-x);have w4:=kj (d.s-y);have w5:=kj (a.s-x-a.len);have w6:=kj (b.s-y-b.len);have w7:=kj (c.s-x-c.len);have w8:=kj (d.s-y-d.len);clear ea eb ec ed fa fb fc fd la lb lc ld b1 b2 hln;simp only[zf]at s1 s2 hL;cases p1:(Zb5 a.jg k).isSome with
 |false =>
  rw[p1]at s1;refine⟨fun _=>?_,fun hp=>by simp at hp⟩;rw[zj Zbm.eq_1];simp[lnE,lnM,Zcs,crC,zf,snC,agC,hi,hj,hi',hj',hci,hcj,Aj,Ai,hga,hgb,hgc,hgd,hk,hck,s1,s2,hw,zg,zH,zX]
 |true =>
  rw[p1]at s1;cases p2:(Zb5 b.jg k).isSome with
  |false =>
   rw[p2]at s2;refine⟨fun _=>?_,fun hp=>by simp at hp⟩;rw[zj Zbm.eq_1];simp[lnE,lnM,Zcs,crC,zf,snC,agC,hi,hj,hi',hj',hci,hcj,Aj,Ai,hga,hgb,hgc,hgd,hk,hck,s1,s2,hw,zg,zH,zX]
  |true =>
   rw[p2]at s2;by_cases c0:a.s-x<b.s-y
   ·simp only[kN,if_pos c0,Zed];by_cases c1:x<=c.s
    ·by_cases c2:y<=d.s
     ·by_cases c3:a.s-x-a.len<=n
      ·by_cases c4:d.s-y-d.len<=n
       ·by_cases c5:d.s-y-d.len<=c.s-x
        ·refine⟨fun hp=>by simp[c1,c2,c3,c4,c5]at hp,fun _=>?_⟩;refine⟨i,?_⟩;rw[zj Zbm.eq_1];simp[lnE,lnM,Zcs,crC,zf,snC,agC,hi,hj,hi',hj',hci,hcj,Aj,Ai,hga,hgb,hgc,hgd,hk,hck,s1,s2,hL,hw,w1,w2,w3,w4,w5,w6,w7,w8,c0,c1,c2,c3,c4,c5,zg,zH,zX]
         try exact⟨rfl,rfl⟩
        ·refine⟨fun _=>?_,fun hp=>by simp[c1,c2,c3,c4,c5]at hp⟩;rw[zj Zbm.eq_1];simp[lnE,lnM,Zcs,crC,zf,snC,agC,hi,hj,hi',hj',hci,hcj,Aj,Ai,hga,hgb,hgc,hgd,hk,hck,s1,s2,hL,hw,w1,w2,w3,w4,w5,w6,w7,w8,c0,c1,c2,c3,c4,c5,zg,zH,zX]
       ·refine⟨fun _=>?_,fun hp=>by simp[c1,c2,c3,c4]at hp⟩;rw[zj Zbm.eq_1];simp[lnE,lnM,Zcs,crC,zf,snC,agC,hi,hj,hi',hj',hci,hcj,Aj,Ai,hga,hgb,hgc,hgd,hk,hck,s1,s2,hL,hw,w1,w2,w3,w4,w5,w6,w7,w8,c0,c1,c2,c3,c4,zg,zH,zX]
      ·refine⟨fun _=>?_,fun hp=>by simp[c1,c2,c3]at hp⟩;rw[zj Zbm.eq_1];simp[lnE,lnM,Zcs,crC,zf,snC,agC,hi,hj,hi',hj',hci,hcj,Aj,Ai,hga,hgb,hgc,hgd,hk,hck,s1,s2,hL,hw,w1,w2,w3,w4,w5,w6,w7,w8,c0,c1,c2,c3,zg,zH,zX]
     ·refine⟨fun _=>?_,fun hp=>by simp[c1,c2]at hp⟩;rw[zj Zbm.eq_1];simp[lnE,lnM,Zcs,crC,zf,snC,agC,hi,hj,hi',hj',hci,hcj,Aj,Ai,hga,hgb,hgc,hgd,hk,hck,s1,s2,hL,hw,w1,w2,w3,w4,w5,w6,w7,w8,c0,c1,c2,zg,zH,zX]
    ·refine⟨fun _=>?_,fun hp=>by simp[c1]at hp⟩;rw[zj Zbm.eq_1];simp[lnE,lnM,Zcs,crC,zf,snC,agC,hi,hj,hi',hj',hci,hcj,Aj,Ai,hga,hgb,hgc,hgd,hk,hck,s1,s2,hL,hw,w1,w2,w3,w4,w5,w6,w7,w8,c0,c1,zg,zH,zX]
   ·simp only[kN,if_neg c0,Zed];by_cases c1:y<=d.s
    ·by_cases c2:x<=c.s
     ·by_cases c3:b.s-y-b.len<=n
      ·by_cases c4:c.s-x-c.len<=n
       ·by_cases c5:c.s-x-c.len<=d.s-y
        ·refine⟨fun hp=>by simp[c1,c2,c3,c4,c5]at hp,fun _=>?_⟩;refine⟨j,?_⟩;rw[zj Zbm.eq_1];simp[lnE,lnM,Zcs,crC,zf,snC,agC,hi,hj,hi',hj',hci,hcj,Aj,Ai,hga,hgb,hgc,hgd,hk,hck,s1,s2,hL,hw,w1,w2,w3,w4,w5,w6,w7,w8,c0,c1,c2,c3,c4,c5,zg,zH,zX]
         try exact⟨rfl,rfl⟩
        ·refine⟨fun _=>?_,fun hp=>by simp[c1,c2,c3,c4,c5]at hp⟩;rw[zj Zbm.eq_1];simp[lnE,lnM,Zcs,crC,zf,snC,agC,hi,hj,hi',hj',hci,hcj,Aj,Ai,hga,hgb,hgc,hgd,hk,hck,s1,s2,hL,hw,w1,w2,w3,w4,w5,w6,w7,w8,c0,c1,c2,c3,c4,c5,zg,zH,zX]
       ·refine⟨fun _=>?_,fun hp=>by simp[c1,c2,c3,c4]at hp⟩;rw[zj Zbm.eq_1];simp[lnE,lnM,Zcs,crC,zf,snC,agC,hi,hj,hi',hj',hci,hcj,Aj,Ai,hga,hgb,hgc,hgd,hk,hck,s1,s2,hL,hw,w1,w2,w3,w4,w5,w6,w7,w8,c0,c1,c2,c3,c4,zg,zH,zX]
      ·refine⟨fun _=>?_,fun hp=>by simp[c1,c2,c3]at hp⟩;rw[zj Zbm.eq_1];simp[lnE,lnM,Zcs,crC,zf,snC,agC,hi,hj,hi',hj',hci,hcj,Aj,Ai,hga,hgb,hgc,hgd,hk,hck,s1,s2,hL,hw,w1,w2,w3,w4,w5,w6,w7,w8,c0,c1,c2,c3,zg,zH,zX]
     ·refine⟨fun _=>?_,fun hp=>by simp[c1,c2]at hp⟩;rw[zj Zbm.eq_1];simp[lnE,lnM,Zcs,crC,zf,snC,agC,hi,hj,hi',hj',hci,hcj,Aj,Ai,hga,hgb,hgc,hgd,hk,hck,s1,s2,hL,hw,w1,w2,w3,w4,w5,w6,w7,w8,c0,c1,c2,zg,zH,zX]
    ·refine⟨fun _=>?_,fun hp=>by simp[c1]at hp⟩;rw[zj Zbm.eq_1];simp[lnE,lnM,Zcs,crC,zf,snC,agC,hi,hj,hi',hj',hci,hcj,Aj,Ai,hga,hgb,hgc,hgd,hk,hck,s1,s2,hL,hw,w1,w2,w3,w4,w5,w6,w7,w8,c0,c1,zg,zH,zX]
@[simp] theorem Ze1(c:CrV):(crC c).length=6:=rfl
@[simp] theorem ZcD(l:List CrV):(ZbD l).length=l.length:=by simp[ZbD]
@[simp] theorem Zd9{l:List CrV}{i:Nat}(h:i<(ZbD l).length):(ZbD l)[i]=crC (l[i]'(by simpa using h)):=by simp[ZbD]
theorem Zen{m:zD}(h:zcp m)(s t:SnV)(i j:Nat)(hi:i<s.agents.length)(hj:j<s.agents.length)(hi':i<t.agents.length)(hj':j<t.agents.length)(ha:WAg m s.agents[i])(hb:WAg m s.agents[j])(hc:WAg m t.agents[i])(hd:WAg m t.agents[j]) :
  ∃cs:List CrV,cs.length<=1/\(∀c∈cs,c.a=i)/\((∃l,l<m.jc.length/\lnB m s.agents[i] s.agents[j] t.agents[i] t.agents[j] l=true)->cs≠[]) /\
  R L Cs Zcj [.a (zf m),.a (snC s),.a (snC t),W i,W j] []=some (.w (.c (.je (ZbD cs))),[]):=by
 have hst:=fun k hk=>Zey h s t i j hi hj hi' hj' ha hb hc hd k hk
 have loop:∀(f k:Nat),k+f=m.jc.length->(∃(l:Nat) (w:Int),Y L Cs Zbm (some [11,4,3,6,5,7]) 4 (lnE i j k) (lnM m s t)=some (.ret,[(10,.w (.c (.slice 5 1 6 0 1 none)))],Zcs m s t ⟨s.tick,i,j,l,-1,[w]⟩)) \/
   ((∀l,k<=l->l<m.jc.length->lnB m s.agents[i] s.agents[j] t.agents[i] t.agents[j] l=false)/\Y L Cs Zbm (some [11,4,3,6,5,7]) 4 (lnE i j k) (lnM m s t)=some (.exit 0,(28,.w (Bo false))::lnE i j m.jc.length,lnM m s t)):=by
  intro f;induction f with
  |zero =>
   intro k hk;obtain rfl:k=m.jc.length:=by omega
   refine .inr ⟨fun l h1 h2=>by omega,?_⟩;rw[zj Zbm.eq_1];simp[lnE,lnM,zf]
  |succ f ih =>
   intro k hk;obtain⟨g1,g2⟩:=hst k (by omega);cases hp:lnB m s.agents[i] s.agents[j] t.agents[i] t.agents[j] k with
   |true =>
    obtain⟨w,e⟩:=g2 hp;exact .inl ⟨k,w,e⟩
   |false =>
    rw[g1 hp];rcases ih (k+1) (by omega)with h |⟨h1,h2⟩
    ·exact .inl h
    ·refine .inr ⟨fun l a1 a2=>?_,h2⟩;rcases qp a1 with e|e
     ·subst e;exact hp
     ·exact h1 l e a2
 rcases loop m.jc.length 0 (by omega)with⟨l,w,e⟩ |⟨h1,e⟩
 ·refine⟨[⟨s.tick,i,j,l,-1,[w]⟩],by simp,by simp,by simp,?_⟩;simp only[lnE,lnM,Zcs,zf,snC,crC,ji]at e;rw[zUa Zb1 rfl];simp[ZbO,zf,snC,crC,ZbD,e,zg,zX]
 ·refine⟨[],by simp,by simp,fun⟨l,a1,a2⟩=>by rw[h1 l (by omega) a1]at a2;exact absurd a2 (by decide),?_⟩;simp only[lnE,lnM,zf,snC,ji]at e;rw[zUa Zb1 rfl];simp[ZbO,zf,snC,ZbD,e,zg,zX]
def Zcv(m:zD)(zs:List Zon):Prop:=∀p x q:Int,0<=p->0<=x->p≠x->q∈zS m p->q∈zS m x->∃(z:Nat) (hz:z<zs.length),(∃P∈zs[z].parts,P.lane=q/\P.lo=0/\0<=P.hi)/\(zjF zs[z] p).isSome=true/\(zjF zs[z] x).isSome=true
structure Zd2(m:zD)(r:List Int)(len:Int)(a a':AgV)(k:zci)(e:Ego):Prop where
 rt:a.jg=r
 ok:zdA m r=0
 ln:a.len=len
 ln':a'.len=len
 l0:0<=len
 sl:k.ego.slo<=a.s
 sh:a.s<=k.ego.shi
 go:a.s<=a'.s
 el:e.slo<=a'.s
 eh:a'.s<=e.shi
def Zcy(m:zD)(a0 a:AgV)(st0 st n:Int):Prop:=min (a.s-st) n<a0.s-a0.len-st0\/a0.s-st0<max 0 (a.s-a.len-st)
theorem ZcU{m:zD}{a0 a:AgV}(h:ZbU m a0 a=false){i j:Nat}(hi:i<a0.jg.length)(hj:j<a.jg.length)(e:a0.jg[i]=a.jg[j])(hl:0<=a0.len)(hp:max 0 (a.s-a.len-zb4 m a.jg j)<=min (a.s-zb4 m a.jg j) (z8 m a.jg[j])) :
  Zcy m a0 a (zb4 m a0.jg i) (zb4 m a.jg j) (z8 m a.jg[j]):=by
 unfold Zcy;apply k7;intro hc;have hx:z4Q m a0 i a0.jg[i]∈z2B m a0:=Zb9.2 ⟨i,hi,rfl,by unfold z4Q;rw[e];simp only;omega⟩;have hy:z4Q m a j a.jg[j]∈z2B m a:=Zb9.2 ⟨j,hj,rfl,hp⟩;have hm:z5a (z4Q m a0 i a0.jg[i]) (z4Q m a j a.jg[j])=true:=by
  unfold z5a z4Q;simp only[jh,decide_eq_true_eq];refine⟨⟨e,?_⟩,?_⟩
  ·rw[e]at *;omega
  ·rw[e]at *;omega
 have:ZbU m a0 a=true:=by
  unfold ZbU;rw[kM];exact⟨_,hx,kM.2 ⟨_,hy,hm⟩⟩
 rw[h]at this;exact absurd this (by decide)
theorem Zdx{m:zD}{a0 a a0' a':AgV}{l:Nat}(h:lnB m a0 a a0' a' l=false)(h1:(Zb5 a0.jg l).isSome=true)(h2:(Zb5 a.jg l).isSome=true){x y:Int}(hx:ZbS m a0.jg l=x)(hy:ZbS m a.jg l=y)
  (hb:a.s-y<a0.s-x) (hf:0<=a'.s-y) (hg:0<=a0'.s-x) (hl:a.s-y-a.len<=z8 m l):z8 m l<a0'.s-x-a0'.len\/a'.s-y<a0'.s-x-a0'.len:=by
 apply k7;intro hc;have:lnB m a0 a a0' a' l=true:=by
  unfold lnB;simp only[h1,h2,hx,hy,kN];rw[if_neg (by omega)];unfold Zed;simp only[jh,decide_eq_true_eq];omega
 rw[h]at this;exact absurd this (by decide)
theorem ZbZ{m:zD}{r:List Int}{x:Int}{i:Nat}(h:zgo r x=some i):ZbS m r x=zb4 m r i/\(Zb5 r x).isSome=true:=by
 have h2:Zb5 r x=some i:=h;unfold ZbS zb4;rw[h2];exact⟨rfl,rfl⟩
theorem ZcY{m:zD}{r:List Int}{len:Int}{a0 a a0' a':AgV}{k:zci}{e:Ego}(ho:Zd2 m r len a0 a0' k e)(hln:∀l:Nat,l<m.jc.length->lnB m a0 a a0' a' l=false){z:Int}(hz:0<=z/\z<m.jc.length){i j:Nat}(hi:zgo r z=some i)(hj:zgo a.jg z=some j)
  (hlen:0<=a.len) (uS:Zcy m a0 a (zb4 m r i) (zb4 m a.jg j) (z8 m z)) (hp:max 0 (a.s-a.len-zb4 m a.jg j)<=min (a.s-zb4 m a.jg j) (z8 m z)) {b:zk} (hb:b.lane=z) (h2:min (a.s-zb4 m a.jg j) (z8 m z)<=b.hi) (v5:zfP m r len k b=true)
  (hgo:a.s<=a'.s) {o:Int} (h0:0<=o) (hon:o<=z8 m z) (ho2:o<=a'.s-zb4 m a.jg j):o<=zfx len e-zb4 m r i:=by
 have e1:=ho.sl;have e2:=ho.sh;have e3:=ho.ln;have e4:=ho.eh;have e5:=ho.go;have e6:=ho.ln';have e7:=ho.l0;unfold zfP at v5;rw[hb,hi]at v5;simp only[jh,decide_eq_true_eq]at v5;obtain⟨g1,g2⟩:=v5;unfold Zcy at uS;unfold zfx;obtain⟨l,rfl⟩:=jw hz.1;obtain⟨s1,t1⟩:=ZbZ (m:=m) hi;obtain⟨s2,t2⟩:=ZbZ (m:=m) hj;by_cases hu:a.s-zb4 m a.jg j<=z8 m l
 ·have s1':ZbS m a0.jg l=zb4 m r i:=by rw[ho.rt];exact s1
  have:=Zdx (hln l (by omega)) (by rw[ho.rt];exact t1) t2 s1' s2 (by omega) (by omega) (by omega) (by omega);omega
 ·omega
theorem Zez{p q y:Int}{i:Nat}(h:zgo [p,q] y=some i)(hpy:p≠y):i=1/\q=y:=by
 unfold zgo at h;simp only[kK,decide_eq_true_eq]at h;rw[if_neg hpy]at h;split at h
 ·simp at h;exact⟨h.symm,by assumption⟩
 ·simp at h
theorem ZcS{p q:Int}(hpq:p≠q):zgo [p,q] q=some 1:=by
 unfold zgo;simp[kK,hpq]
theorem Zcz(p:Int)(t:List Int):zgo (p::t) p=some 0:=by
 unfold zgo;simp[kK]
theorem Zdo(st:Int)(z:Nat)(x:Int){P:Prt}(hP:P.lane=x):∀(l:List Prt) (k:Nat),P∈l->∃p∈zLB st z x k l,p.uf=z/\p.lo=st+P.lo/\p.hi=st+P.hi
 |[],_,h=>by cases h
 |q::l,k,h=>by
  unfold zLB;rcases jD.1 h with h|h
  ·subst h;rw[if_pos hP];exact⟨_,jt,rfl,rfl,rfl⟩
  ·obtain⟨p,hp,e⟩:=Zdo st z x hP l (k+1) h;split
   ·exact⟨p,by simp[hp],e⟩
   ·exact⟨p,hp,e⟩
theorem Zdn(st x:Int){P:Prt}(hP:P.lane=x):∀(l:List Zon) (z j:Nat) (hj:j<l.length),P∈l[j].parts->∃p∈zLA st x z l,p.uf=((z+j:Nat):Int)/\p.lo=st+P.lo/\p.hi=st+P.hi
 |[],_,j,hj,_=>absurd hj (by simp)
 |q::l,z,j,hj,h=>by
  unfold zLA;cases j with
  |zero =>
   obtain⟨p,hp,e⟩:=Zdo st z x hP q.parts 0 (by simpa using h);exact⟨p,jW _ hp,e⟩
  |succ j =>
   obtain⟨p,hp,e1,e2⟩:=Zdn st x hP l (z+1) j (by simpa using hj) (by simpa using h);exact⟨p,kD _ hp,by rw[e1];congr 1;omega,e2⟩
theorem Zdl{m:zD}{zs:List Zon}{a b:AgV}{p q:Int}(hr:a.jg=[p,q]){z:Nat}(hz:z<zs.length){P:Prt}(hP:P∈zs[z].parts)(hq:P.lane=q)(h0:P.lo=0)(h1:a.s-a.len<=z8 m p+P.hi)(h2:z8 m p<=b.s):Zb7 m zs a b z=true:=by
 obtain⟨s,hs,e1,e2,e3⟩:=Zdn (0+z8 m p) q hq zs 0 z hz hP;unfold Zb7;rw[hr,kM];refine⟨s,?_,?_⟩
 ·simp only[zKh,kE];exact kD _ hs
 ·unfold z5u;simp only[jh,decide_eq_true_eq];exact⟨⟨by rw[e1];simp,by omega⟩,by omega⟩
theorem Zda{q:Zon}{p:Int}{t:List Int}(h:(zjF q p).isSome=true):z6b q (p::t)=some 0:=by
 unfold z6b;simp[kK,h]
theorem Zek{m:zD}{zs:List Zon}{ss:List Sgn}(hf:zmq m zs ss)(hmz:Zcv m zs){r:List Int}{len:Int}{a0 a a0' a':AgV}{k:zci}{e:Ego}(ho:Zd2 m r len a0 a0' k e)(hln:∀l:Nat,l<m.jc.length->lnB m a0 a a0' a' l=false)(hzn:∀z,z<zs.length->ZcH m zs a0 a a0' a' z=false)
  {x y:Int} (hr:a.jg=[x,y]) (hx:0<=x/\x<m.jc.length) (hy:0<=y/\y<m.jc.length) (hxs:zes x 0 m.jc=[]) (hys:zes y 0 m.jc≠[]) (hxy:y∈zS m x) (hlen:0<=a.len) (hs0:0<=a.s)
  (uS:∀(i j:Nat) (hi:i<r.length) (hj:j<a.jg.length),r[i]=a.jg[j]->max 0 (a.s-a.len-zb4 m a.jg j)<=min (a.s-zb4 m a.jg j) (z8 m a.jg[j])->Zcy m a0 a (zb4 m r i) (zb4 m a.jg j) (z8 m a.jg[j]))
  (hgo:a.s<=a'.s) {b:zk} (hb:b.lane=x) (h2:min a.s (z8 m x)<=b.hi) {o:Int} (h0:0<=o) (hon:o<=z8 m y) (ho1:a'.s-a.len-z8 m x<=o) (ho2:o<=a'.s-z8 m x) (BF:o-(a'.s-a.s)<0)
  (uH:zhq m r e.slo x y (zfP m r len k b)=true):∀i,zgo r y=some i->o<=zfx len e-zb4 m r i:=by
 intro i hi;have e1:=ho.sl;have e2:=ho.sh;have e3:=ho.ln;have e4:=ho.eh;have e5:=ho.go;have e6:=ho.ln';have e7:=ho.l0;have e8:=ho.el;have hnx:=zcX hf.qt hx;have hny:=zcX hf.qt hy;have hxy':x≠y:=fun h=>hys (h ▸ hxs)
 obtain⟨p,t,er,hp,hps,ht⟩:=Zb8 hf ho.ok;have hpy:p≠y:=fun h=>hys (h ▸ hps)
 rcases ht with rfl |⟨q,rfl,hq,hqm,hqs,_⟩
 ·rw[er]at hi;unfold zgo at hi;simp[kK,hpy]at hi
 rw[er]at hi;obtain⟨rfl,rfl⟩:=Zez hi hpy;have st0:zb4 m r 0=0:=by rw[er];simp[zb4,zW]
 have st1:zb4 m r 1=z8 m p:=by rw[er];simp[zb4,zW]
 have sa0:zb4 m a.jg 0=0:=(ZcN hr).1;have sa1:zb4 m a.jg 1=z8 m x:=(ZcN hr).2.1;have hnp:=zcX hf.qt hp;obtain⟨l,hl⟩:=jw hy.1;obtain⟨s1,t1⟩:=ZbZ (m:=m) (r:=r) (x:=q) (i:=1) (by rw[er];exact hi);obtain⟨s2,t2⟩:=ZbZ (m:=m) (r:=a.jg) (x:=q) (i:=1) (by rw[hr];exact ZcS hxy');rw[st1]at s1 ⊢;rw[sa1]at s2;have hq2:0<=a.s-z8 m x->min (a.s-z8 m x) (z8 m q)<a0.s-a0.len-z8 m p\/a0.s-z8 m p<0:=fun hs=>by
  have:=uS 1 1 (by rw[er];simp) (by rw[hr];simp) (by simp[er,hr]) (by have sa1':=sa1;simp only[hr]at sa1' ⊢;rw[sa1'];simp;omega);unfold Zcy at this;have sa1':=sa1;simp only[hr]at sa1' this;rw[sa1',st1]at this;simp at this;omega
 have back:a.s-z8 m x<a0.s-z8 m p->0<=a0'.s-z8 m p->z8 m q<a0'.s-z8 m p-len\/a'.s-z8 m x<a0'.s-z8 m p-len:=fun h1 h3=>by
  rw[hl]at s1 s2 t1 t2;have s1':ZbS m a0.jg l=z8 m p:=by rw[ho.rt];exact s1
  have:=Zdx (hln l (by omega)) (by rw[ho.rt];exact t1) t2 s1' s2 h1 (by omega) h3 (by rw[<-hl];omega);rw[<-hl]at this;omega
 unfold zfx;by_cases hpx:p=x
 ·subst hpx;have v5:zfP m r len k b=true:=by
   unfold zhq at uH;rw[qk]at uH;rcases uH with h|h
   ·rw[jh]at h;unfold zcV at h;simp at h;exact h.2.1
   ·unfold zb2 zbi at h;rw[er,Zcz,ZcS hpy]at h;simp at h
  unfold zfP at v5;rw[hb,er,Zcz,<-er]at v5;simp only[jh,decide_eq_true_eq,st0]at v5;obtain⟨g1,g2⟩:=v5;have hf0:=uS 0 0 (by rw[er];simp) (by rw[hr];simp) (by simp[er,hr]) (by have sa0':=sa0;simp only[hr]at sa0' ⊢;rw[sa0'];simp;omega);unfold Zcy at hf0;have sa0':=sa0;simp only[hr]at sa0' hf0;rw[sa0',st0]at hf0;simp at hf0;by_cases hs:z8 m p<=a.s
  ·have hh:=hq2 (by omega);by_cases hu:z8 m q<=a.s-z8 m p
   ·omega
   ·have:=back (by omega) (by omega);omega
  ·by_cases hg:0<=a0'.s-z8 m p
   ·have:=back (by omega) hg;omega
   ·exfalso;obtain⟨u,hu⟩:=jw hx.1;obtain⟨v1,w1⟩:=ZbZ (m:=m) (r:=r) (x:=p) (i:=0) (by rw[er];exact Zcz _ _);obtain⟨v2,w2⟩:=ZbZ (m:=m) (r:=a.jg) (x:=p) (i:=0) (by rw[hr];exact Zcz _ _);rw[st0]at v1;rw[sa0]at v2;rw[hu]at v1 v2 w1 w2;have v1':ZbS m a0.jg u=0:=by rw[ho.rt];exact v1
    have:=Zdx (hln u (by omega)) (by rw[ho.rt];exact w1) w2 v1' v2 (by omega) (by omega) (by omega) (by rw[<-hu];omega);rw[<-hu]at this;omega
 ·have hslo:z8 m p<=e.slo:=by
   have hnf:zbi r x q=false:=by
    unfold zbi;rw[er];have:zgo [p,q] x=none:=by
     unfold zgo;simp[kK,hpx,qz hxy']
    rw[this]
   unfold zhq zb2 at uH;rw[hnf,er,ZcS hpy,<-er]at uH;simp only[st1]at uH;simpa using uH
  obtain⟨z,hz,⟨P,hP,P1,P2,P3⟩,hZp,hZx⟩:=hmz p x q hp.1 hx.1 hpx hq hxy;have hnz:=hzn z hz;have hpa:=Zdl (m:=m) (b:=a') hr hz hP P1 P2 (by omega) (by omega);have BG:z8 m p+P.hi<a0.s-a0.len:=by
   apply k7;intro hc;have hpo:=Zdl (m:=m) (b:=a0') (by rw[ho.rt,er]) hz hP P1 P2 (by omega) (by omega);have hgz:zs.getD z Zde=zs[z]:=by simp[hz]
   unfold ZcH at hnz;rw[hpa,hpo,hgz,ho.rt,er,hr,Zda hZp,Zda hZx]at hnz;simp at hnz;exact hpx hnz
  by_cases hs:0<=a.s-z8 m x
  ·have hh:=hq2 hs;by_cases hu:z8 m q<=a.s-z8 m x
   ·omega
   ·have:=back (by omega) (by omega);omega
  ·have:=back (by omega) (by omega);omega
def z4q(p:Spn)(a:AgV)(b:zk):Bool:=decide (b.lane=p.lane)&&decide (b.lo<=p.lo)&&decide (p.hi<=b.hi)&&(decide (b.vlo<=a.v)&&decide (a.v<=b.vhi))
def unc(k:zci)(a:AgV)(p:Spn):Bool:=!k.jU.any (z4q p a)
abbrev z3O:AgV:=⟨[],0,0,0,0,false,false⟩
def z4z(m:zD)(s:SnV)(k:zci)(i:Nat):Bool:=decide (0<i)&&thA s.tick (s.agents.getD i z3O)&&(z2B m (s.agents.getD i z3O)).any (unc k (s.agents.getD i z3O))
def z7p(a:AgV)(x:Ego):Bool:=decide (x.slo<=a.s)&&decide (a.s<=x.shi)&&(decide (x.vlo<=a.v)&&decide (a.v<=x.vhi))
def z4P(m:zD)(s:SnV)(k:zci):Bool :=
 decide (z31 m s=0)&&decide (zdf m k=0)&&decide (s.tick=k.tick)&&z7p (s.agents.getD 0 z3O) k.ego && !(List.range s.agents.length).any (z4z m s k)
abbrev coM(m:zD)(s:SnV)(k:zci)(a0:AgV):Mem:=[bx 5 (zf m),bx 3 (snC s),bx 6 (zG k),bxv 1 7 (agC a0),bxv 1 4 (zch k.ego)]
theorem z6V(p:Spn)(a:AgV)(b:zk):z4q p a b=true<->b.lane=p.lane/\b.lo<=p.lo/\p.hi<=b.hi/\b.vlo<=a.v/\a.v<=b.vhi:=by
 unfold z4q;simp[and_assoc]
theorem z5Y{α:Type}(p:α->Bool):∀(l:List α) (i:Nat) (s:Bool),zM6 (fun _ s b=>s||p b) i s l=(s||l.any p)
 |[],_,s=>by simp[zM6]
 |x::l,i,s=>by simp[zM6,z5Y p l,Bool.or_assoc]
abbrev z41(m:zD)(a:AgV)(is:Bool)(n j i:Nat):Env:=[(12,.w (Bo is)),(13,.w (W n)),(3,.w (Pt 0)),(5,.w (Pt 2)),(10,.w (.c (.je (zWx (z2B m a))))),(11,.w (W j)),(4,.w (Pt 1)),(9,.w (W i))]
theorem z6l(m:zD)(s:SnV)(k:zci)(a0:AgV)(hk:k.jU.length<=100000000000)(i:Nat)(hi:i<s.agents.length)(j:Nat)(hj:j<(z2B m s.agents[i]).length):Y L Cs z2Q (some [12,13,3,5,10,11,4,9]) 5 (z41 m s.agents[i] false 0 j i) (coM m s k a0) =
  some (.exit 4,[(93,.w (Bo false)),(12,.w (Bo (k.jU.any (z4q (z2B m s.agents[i])[j] s.agents[i])))),(13,.w (W k.jU.length)),(3,.w (Pt 0)),(5,.w (Pt 2)),(10,.w (.c (.je (zWx (z2B m s.agents[i]))))),(11,.w (W j)),(4,.w (Pt 1)),(9,.w (W i))],coM m s k a0):=by
 have h:=zPH (L:=L) (Cs:=Cs) (b:=z2Q) (live:=some [12,13,3,5,10,11,4,9]) (n0:=5) k.jU (fun n is=>z41 m s.agents[i] is n j i) (fun _ _=>coM m s k a0) (fun _ _=>True) (fun _ is b=>is||z4q (z2B m s.agents[i])[j] s.agents[i] b)
  (fun is=>(.exit 4,[(93,.w (Bo false)),(12,.w (Bo is)),(13,.w (W k.jU.length)),(3,.w (Pt 0)),(5,.w (Pt 2)),(10,.w (.c (.je (zWx (z2B m s.agents[i]))))),(11,.w (W j)),(4,.w (Pt 1)),(9,.w (W i))],coM m s k a0)) ?_ ?_ (s0:=false) trivial
 ·rw[z5Y,yv]at h;exact h
 ·intro n hn is _;refine⟨trivial,?_⟩;have hw:=zB (i:=n) (by omega);generalize hag:s.agents[i]=a at *;have hcj:(j:Int)<(z2B m a).length:=by omega
  generalize hp:(z2B m a)[j]=p at *;generalize hb:k.jU[n]=b at *;have hci:=z6V p a b;rw[zj z2Q.eq_1];cases is with
  |true=>simp[z41,coM,zf,snC,zG,zch,agC,ze,hn,hb,hw,zg,zH]
  |false =>
   by_cases c1:b.lane=p.lane
   ·have b1:(b.lane==p.lane)=true:=by simp[c1]
    by_cases c2:b.lo<=p.lo
    ·by_cases c3:p.hi<=b.hi
     ·by_cases c4:b.vlo<=a.v
      ·by_cases c5:a.v<=b.vhi
       ·rw[hci.2 ⟨c1,c2,c3,c4,c5⟩];simp[z41,coM,zf,snC,zG,zch,agC,ze,zWX,hn,hb,hj,hcj,hp,hi,hag,hw,b1,c2,c3,c4,c5,zg,zH]
       ·have:z4q p a b=false:=qP.2 fun e=>c5 (hci.1 e).2.2.2.2
        rw[this];simp[z41,coM,zf,snC,zG,zch,agC,ze,zWX,hn,hb,hj,hcj,hp,hi,hag,hw,b1,c2,c3,c4,c5,zg,zH]
      ·have:z4q p a b=false:=qP.2 fun e=>c4 (hci.1 e).2.2.2.1
       rw[this];simp[z41,coM,zf,snC,zG,zch,agC,ze,zWX,hn,hb,hj,hcj,hp,hi,hag,hw,b1,c2,c3,c4,zg,zH]
     ·have:z4q p a b=false:=qP.2 fun e=>c3 (hci.1 e).2.2.1
      rw[this];simp[z41,coM,zf,snC,zG,zch,agC,ze,zWX,hn,hb,hj,hcj,hp,hi,hag,hw,b1,c2,c3,zg,zH]
    ·have:z4q p a b=false:=qP.2 fun e=>c2 (hci.1 e).2.1
     rw[this];simp[z41,coM,zf,snC,zG,zch,agC,ze,zWX,hn,hb,hj,hcj,hp,hi,hag,hw,b1,c2,zg,zH]
   ·have:z4q p a b=false:=qP.2 fun e=>c1 (hci.1 e).1
    have b1:(b.lane==p.lane)=false:=by simp[c1]
    rw[this];simp[z41,coM,zf,snC,zG,zch,agC,ze,zWX,hn,hb,hj,hcj,hp,hi,hag,hw,b1,zg,zH]
 ·intro is _;rw[zj z2Q.eq_1];simp[z41,coM,zf,snC,zG,zch,agC]
abbrev z5T(m:zD)(a:AgV)(j i:Nat):Env:=[(3,.w (Pt 0)),(5,.w (Pt 2)),(10,.w (.c (.je (zWx (z2B m a))))),(11,.w (W j)),(4,.w (Pt 1)),(9,.w (W i))]
theorem z6F{m:zD}(h:zcp m)(s:SnV)(k:zci)(a0:AgV)(hk:k.jU.length<=100000000000)(i:Nat)(hi:i<s.agents.length)(ha:WAg m s.agents[i]):∃j:Nat,Y L Cs z2z (some [3,5,10,11,4,9]) 5 (z5T m s.agents[i] 0 i) (coM m s k a0) =
  some (if thA s.tick s.agents[i]&&(z2B m s.agents[i]).any (unc k s.agents[i]) then(.ret,[(6,.w (Bo false))],coM m s k a0)
   else(.exit 2,[(86,.w (Bo false)),(3,.w (Pt 0)),(5,.w (Pt 2)),(10,.w (.c (.je (zWx (z2B m s.agents[i]))))),(11,.w (W j)),(4,.w (Pt 1)),(9,.w (W i))],coM m s k a0)):=by
 have hbl:=z38 h ha;have hT:=z56 s i hi;by_cases c1:thA s.tick s.agents[i]=true
 ·refine⟨(z2B m s.agents[i]).length,?_⟩;rw[c1,kN];rw[c1]at hT;refine zpE (L:=L) (Cs:=Cs) (b:=z2z) (live:=some [3,5,10,11,4,9]) (n0:=5) (z2B m s.agents[i]) (fun j=>z5T m s.agents[i] j i) (coM m s k a0) (unc k s.agents[i]) _ _ ?_ ?_ ?_
  ·intro j hj hb;have hw:=zB (i:=j) (by omega);have hcj:(j:Int)<(z2B m s.agents[i]).length:=by omega
   have hI:=z6l m s k a0 hk i hi j hj;unfold unc at hb;have hb:k.jU.any (z4q (z2B m s.agents[i])[j] s.agents[i])=true:=by simpa using hb
   rw[hb]at hI;rw[zj z2z.eq_1];simp only[z41,coM,zf,snC,zG,zch,agC,ji]at hT hI;simp[z5T,coM,zf,snC,zG,zch,agC,hj,hcj,hw,hT,hI]
  ·intro j hj hb;have hcj:(j:Int)<(z2B m s.agents[i]).length:=by omega
   have hI:=z6l m s k a0 hk i hi j hj;unfold unc at hb;have hb:k.jU.any (z4q (z2B m s.agents[i])[j] s.agents[i])=false:=by simpa using hb
   rw[hb]at hI;rw[zj z2z.eq_1];simp only[z41,coM,zf,snC,zG,zch,agC,ji]at hT hI;simp[z5T,coM,zf,snC,zG,zch,agC,hj,hcj,hT,hI]
  ·rw[zj z2z.eq_1];simp[z5T,coM,zf,snC,zG,zch,agC]
 ·refine⟨0,?_⟩;rw[yA]at c1;rw[c1,Bool.false_and];rw[c1]at hT;rw[zj z2z.eq_1];simp only[snC]at hT;by_cases c0:0<(z2B m s.agents[i]).length
  ·simp[z5T,coM,zf,snC,zG,zch,agC,c0,hT]
  ·have:(z2B m s.agents[i]).length=0:=by omega
   simp[z5T,coM,zf,snC,zG,zch,agC,this]
abbrev z5S(i:Nat):Env:=[(3,.w (Pt 0)),(5,.w (Pt 2)),(4,.w (Pt 1)),(9,.w (W i))]
theorem z6W(m:zD)(s:SnV)(k:zci)(i:Nat)(hi:i+1<s.agents.length):z4z m s k (i+1)=(thA s.tick s.agents[i+1]&&(z2B m s.agents[i+1]).any (unc k s.agents[i+1])):=by
 unfold z4z;rw[show s.agents.getD (i+1) z3O=s.agents[i+1] by simp[hi]];simp
theorem z6E{m:zD}(h:zcp m)(s:SnV)(hs:KSn m s)(k:zci)(a0:AgV)(hk:k.jU.length<=100000000000):Y L Cs z2y (some [3,5,4,9]) 5 (z5S 1) (coM m s k a0) =
  some (if(List.range s.agents.length).any (z4z m s k) then(.ret,[(6,.w (Bo false))],coM m s k a0)
   else(.exit 0,[(68,.w (Bo false)),(3,.w (Pt 0)),(5,.w (Pt 2)),(4,.w (Pt 1)),(9,.w (W s.agents.length))],coM m s k a0)):=by
 have vR:=hs.few;have k8:=hs.some;have yl:∀i (hi:i+1<s.agents.length),Y L Cs z2y (some [3,5,4,9]) 5 (z5S (i+1)) (coM m s k a0)=if z4z m s k (i+1) then some (.ret,[(6,.w (Bo false))],coM m s k a0) else Y L Cs z2y (some [3,5,4,9]) 5 (z5S (i+1+1)) (coM m s k a0):=by
  intro i hi;have hw:=zB (i:=i+1) (by omega);have ha:=hs.ags _ (jb hi);obtain⟨j,hM⟩:=z6F h s k a0 hk (i+1) hi ha;have hB:=z5H h ha;rw[z6W m s k i hi];have a1:(0:Int)<=(i:Int)+1:=by omega
  have a2:(i:Int)+1<(s.agents.length:Int):=by omega
  have a3:((i:Int)+1).toNat=i+1:=by omega
  have w2:=kj ((i:Int)+1+1);generalize hag:s.agents[i+1]=a at *;generalize (thA s.tick a&&(z2B m a).any (unc k a))=u at *;rw[zj z2y.eq_1];simp only[z5T,coM,zf,snC,zG,zch,agC,ji,jJ,ky]at hB hM;cases u with
  |true=>simp[z5S,coM,zf,snC,zG,zch,agC,hi,hag,hB,hM,a1,a2,a3]
  |false=>simp[z5S,coM,zf,snC,zG,zch,agC,hi,hag,hB,hM,a1,a2,a3,w2]
 have key:∀f i,i+1+f=s.agents.length->Y L Cs z2y (some [3,5,4,9]) 5 (z5S (i+1)) (coM m s k a0)=some (if(List.range' (i+1) f).any (z4z m s k) then(.ret,[(6,.w (Bo false))],coM m s k a0)
   else(.exit 0,[(68,.w (Bo false)),(3,.w (Pt 0)),(5,.w (Pt 2)),(4,.w (Pt 1)),(9,.w (W s.agents.length))],coM m s k a0)):=by
  intro f;induction f with
  |zero =>
   intro i hi;have e:s.agents.length=i+1:=by omega
   rw[zj z2y.eq_1];simp[z5S,coM,zf,snC,zG,zch,agC,e]
  |succ f ih =>
   intro i hi;rw[yl i (by omega),List.range'_succ,List.any_cons];cases hb:z4z m s k (i+1)with
   |true=>simp
   |false =>
    rw[yv];simpa using ih (i+1) (by omega)
 have h0:z4z m s k 0=false:=by simp[z4z]
 have hr:(List.range s.agents.length).any (z4z m s k)=(List.range' 1 (s.agents.length-1)).any (z4z m s k):=by
  obtain⟨n,hn⟩:∃n,s.agents.length=n+1:=⟨s.agents.length-1,by omega⟩;rw[hn,List.range_eq_range',List.range'_succ,List.any_cons,h0];simp
 rw[hr];have:=key (s.agents.length-1) 0 (by omega);simpa using this
theorem z54{m:zD}(h:zcp m)(s:SnV)(hs:KSn m s)(k:zci)(hk:k.jU.length<=100000000000)(hok:∀b∈k.jU,OKB b):R L Cs z37 [.a (zf m),.a (snC s),.a (zG k)] []=some (.w (Bo (z4P m s k)),[]):=by
 have h1:=z5f h s hs;have h2:=zxh h k hk hok;have k8:=hs.some;have h3:=z6E h s hs k s.agents[0] hk;have e0:s.agents.getD 0 z3O=s.agents[0]:=by simp[k8]
 unfold z4P z7p;rw[e0];generalize hag:s.agents[0]=a at *;simp only[z5S,coM,zf,snC,zG,zch,agC,ky]at h1 h2 h3;rw[zUa z39 rfl];by_cases c1:z31 m s=0
 ·by_cases c2:zdf m k=0
  ·by_cases c3:s.tick=k.tick
   ·have c3b:(s.tick !=k.tick)=false:=by simp[c3]
    have c3d:decide (s.tick=k.tick)=true:=by simp[c3]
    have c3e:(s.tick==k.tick)=true:=by simp[c3]
    rw[c1]at h1;rw[c2]at h2;by_cases d1:k.ego.slo<=a.s
    ·have d1':¬a.s<k.ego.slo:=by omega
     by_cases d2:a.s<=k.ego.shi
     ·have d2':¬k.ego.shi<a.s:=by omega
      by_cases d3:k.ego.vlo<=a.v
      ·have d3':¬a.v<k.ego.vlo:=by omega
       by_cases d4:a.v<=k.ego.vhi
       ·have d4':¬k.ego.vhi<a.v:=by omega
        cases hq:(List.range s.agents.length).any (z4z m s k)with
        |false =>
         rw[hq]at h3;simp[Zbl,zf,snC,zG,zch,agC,h1,h2,h3,c1,c2,c3b,c3d,c3e,k8,hag,d1,d2,d3,d4,d1',d2',d3',d4',zg,zH]
        |true =>
         rw[hq]at h3;simp[Zbl,zf,snC,zG,zch,agC,h1,h2,h3,c1,c2,c3b,c3d,c3e,k8,hag,d1,d2,d3,d4,d1',d2',d3',d4',zg,zH]
       ·have d4':k.ego.vhi<a.v:=by omega
        simp[Zbl,zf,snC,zG,zch,agC,h1,h2,c1,c2,c3b,c3d,c3e,k8,hag,d1,d2,d3,d4,d1',d2',d3',d4',zg,zH]
      ·have d3':a.v<k.ego.vlo:=by omega
       simp[Zbl,zf,snC,zG,zch,agC,h1,h2,c1,c2,c3b,c3d,c3e,k8,hag,d1,d2,d3,d1',d2',d3',zg,zH]
     ·have d2':k.ego.shi<a.s:=by omega
      simp[Zbl,zf,snC,zG,zch,agC,h1,h2,c1,c2,c3b,c3d,c3e,k8,hag,d1,d2,d1',d2',zg,zH]
    ·have d1':a.s<k.ego.slo:=by omega
     simp[Zbl,zf,snC,zG,zch,agC,h1,h2,c1,c2,c3b,c3d,c3e,k8,hag,d1,d1',zg,zH]
   ·have c3b:(s.tick !=k.tick)=true:=by simp[c3]
    have c3e:(s.tick==k.tick)=false:=by simp[c3]
    rw[c1]at h1;rw[c2]at h2;simp[Zbl,zf,snC,zG,zch,agC,h1,h2,c1,c2,c3,c3b,c3e,zg,zH]
  ·have c2e:(zdf m k==0)=false:=by simp[c2]
   have c2f:(zdf m k !=0)=true:=by simp[c2]
   rw[c1]at h1;simp[Zbl,zf,snC,zG,zch,agC,h1,h2,c1,c2,c2e,c2f,zg,zH]
 ·have c1e:(z31 m s==0)=false:=by simp[c1]
  have c1f:(z31 m s !=0)=true:=by simp[c1]
  simp[Zbl,zf,snC,zG,zch,agC,h1,c1,c1e,c1f,zg,zH]
def Zd4(m:zD)(k:zci)(a:AgV):Prop:=∀p∈z2B m a,∃b∈k.jU,z4q p a b=true
def ZdG(m:zD)(k:zci)(a:AgV):Prop:=∀b∈k.jU,b.lane=z42 m a->b.lo<=frF m a->frF m a<=b.hi->b.hold=0\/frF m a+zet a.v (zd4 (zaK m (z42 m a)))<b.hold
theorem ZcA{m:zD}{r:List Int}{len:Int}{a0 a a0':AgV}{k:zci}{e:Ego}(hvb:∀b∈k.jU,VB m b)(ho:Zd2 m r len a0 a0' k e)(hc:Zd4 m k a){j:Nat}(hj:j<a.jg.length){x st:Int}(hx:a.jg[j]=x)(hst:zb4 m a.jg j=st)
  (hp:max 0 (a.s-a.len-st)<=min (a.s-st) (z8 m x)) (uS:∀(i:Nat) (hi:i<r.length),r[i]=x->Zcy m a0 a (zb4 m r i) st (z8 m x)) :
  ∃b∈k.jU,∃c∈zkr m k.ego len r k.jU,VB m c/\c.lane=x/\c.lo<=max 0 (a.s-a.len-st)/\min (a.s-st) (z8 m x)<=c.hi/\c.vlo<=a.v/\a.v<=c.vhi/\b.lane=x/\b.lo<=max 0 (a.s-a.len-st)/\min (a.s-st) (z8 m x)<=b.hi/\c.hold=b.hold:=by
 subst hx hst;obtain⟨b,hb,hcv⟩:=hc (z4Q m a j a.jg[j]) (Zb9.2 ⟨j,hj,rfl,hp⟩);unfold z4q z4Q at hcv;simp only[jh,decide_eq_true_eq]at hcv;have e1:=ho.sl;have e2:=ho.sh;have e3:=ho.ln;obtain⟨c,hcm,c1,c2,c3,c4,c5,c6⟩:=Zc5 m k.ego len hp r k.jU b hb (x:=a.jg[j]) (by omega) (by omega) (by omega) (fun i hi hr=>by
  have:=uS i hi hr;unfold Zcy at this;omega)
 exact⟨b,hb,c,hcm,ztK k.ego len r k.jU hvb c hcm,c1,c2,c3,by omega,by omega,by omega,by omega,by omega,c6⟩
theorem ZcR{m:zD}{zs:List Zon}{ss:List Sgn}{r:List Int}{len:Int}{k:zci}{e:Ego}{sg:Bool}{c:zk}(hc:c∈zkr m k.ego len r k.jU){z:LB}(hz:z∈zm8 m zs ss r (zfx len e) e.slo len k sg c):z.1∈zex m zs ss r len k e sg:=by
 unfold zex zgt;exact jW _ (kL.2 ⟨c,hc,kq.2 ⟨z,hz,rfl⟩⟩)
def ZeD(m:zD)(B:List zk)(sg:Bool)(v x o:Int):Prop:=∃z∈B,z.lane=x/\z.lo<=o/\o<=z.hi/\z.vlo<=v/\v<=z.vhi/\(z.hold=0\/sg=true/\o+zet v (zd4 (zaK m x))<z.hold)
theorem ZeS{m:zD}{zs:List Zon}{ss:List Sgn}(hf:zmq m zs ss)(hmz:Zcv m zs){r:List Int}{len:Int}{a0 a a0' a':AgV}{k:zci}{e:Ego}(ho:Zd2 m r len a0 a0' k e)(hvb:∀b∈k.jU,VB m b)
  (hln:∀l:Nat,l<m.jc.length->lnB m a0 a a0' a' l=false) (hzn:∀z,z<zs.length->ZcH m zs a0 a a0' a' z=false) (hto:ZbU m a0 a=false)
  (ha:WAg m a) (sg:Bool) (hob:sg=true->a.uQ=true) (hm:Mvd m (zeA zs ss (z42 m a) k.tick) a a') (hc:Zd4 m k a) (hh:sg=true->ZdG m k a) {p:Spn} (hp:p∈z2B m a') {o:Int} (h1:p.lo<=o) (h2:o<=p.hi):ZeD m (zex m zs ss r len k e sg) sg a'.v p.lane o:=by
 obtain⟨x,t,er,hx,hxs,ht⟩:=Zb8 hf ha.jg;obtain⟨j,hj,rfl,hpl⟩:=Zb9.1 hp;have hs:=hm.s;have hs0:=ha.s.1;have hl0:=ha.len.1;have qs:=hm.pos;have hl0':0<=a0.len:=by have:=ho.ln;have:=ho.l0;omega
 have hfr:∀(i j:Nat) (hi:i<r.length) (hj:j<a.jg.length),r[i]=a.jg[j]->max 0 (a.s-a.len-zb4 m a.jg j)<=min (a.s-zb4 m a.jg j) (z8 m a.jg[j])->Zcy m a0 a (zb4 m r i) (zb4 m a.jg j) (z8 m a.jg[j]):=by
  intro i j hi hj hE hP;have:=ZcU hto (i:=i) (j:=j) (by rw[ho.rt];exact hi) hj (by simp only[ho.rt];exact hE) hl0' hP;rw[ho.rt]at this;exact this
 have hrt:=hm.jg;have hln':=hm.len;simp only[hrt]at hj;unfold z4Q at h1 h2 ⊢;simp only[hrt,hln']at h1 h2 ⊢;have hsx:=ZdA hx hxs;have BQ:∀{st:Int} {b c:zk},sg=true->b∈k.jU->b.lo<=max 0 (a.s-a.len-st)->max 0 (a.s-a.len-st)<=min (a.s-st) (z8 m b.lane)->min (a.s-st) (z8 m b.lane)<=b.hi->c.hold=b.hold->c.lane=b.lane->VB m c->(b.lane=z42 m a->frF m a=a.s-st)->c.lane=z42 m a->c.lo<=frF m a->frF m a<=c.hi->c.hold=0\/frF m a+zet a.v (zd4 (zaK m (z42 m a)))<c.hold:=by
  intro st b c hsg hb b1 b2 b3 b4 b5 hv hfr hon c1 c2;have hf1:=hfr (by rw[<-b5];exact hon);have hv1:=hv.hi;rw[b5]at hv1;rw[b4];exact hh hsg b hb (by rw[<-b5];exact hon) (by omega) (by omega)
 rcases ht with rfl |⟨y,rfl,hy,hyo,hys,hky⟩
 ·obtain⟨a1,a2,a3⟩:=Zdh (m:=m) er;obtain rfl:j=0:=by rw[er]at hj;simp at hj;exact hj
  have ex:a.jg[0]=x:=by simp[er]
  simp only[ex,a3]at h1 h2 ⊢;have hp0:max 0 (a.s-a.len-0)<=min (a.s-0) (z8 m x):=by omega
  obtain⟨b,hb,c,hcm,cv,c1,c2,c3,c4,c5,b1,b2,b3,b4⟩:=ZcA hvb ho hc hj ex a3 hp0 (fun i hi hr=>by have:=hfr i 0 hi hj (by rw[ex];exact hr) (by rw[ex,a3];exact hp0);rw[ex,a3]at this;exact this);obtain⟨z,hz,g⟩:=Zdf (o:=o) hf hm sg hob hx (by rw[a2]) (fun _ _=>⟨a2,by rw[a1];exact a3⟩) cv c1 hp0 c2 c3 c4 c5 (fun hsg=>BQ hsg hb b2 (by rw[b1];exact hp0) (by rw[b1];exact b3) b4 (by omega) cv (fun _=>by unfold frF;rw[a1,a3])) (by omega) (by omega) (by omega) (by omega) (fun _=>⟨rfl,hsx⟩) (slo:=e.slo) (len:=len) (r:=r) (bar:=zfx len e) (fun v5 i hi=>by
   obtain⟨hil,hix⟩:=zfT hi;have h:=ZcY (j:=0) ho hln hx hi (by rw[er];exact Zcz _ _) (by omega) (by have:=hfr i 0 hil hj (by rw[ex];exact hix) (by rw[ex,a3];exact hp0);rw[ex]at this;exact this) (by rw[a3];exact hp0) c1 (by rw[a3];exact c3) v5 (by omega) (o:=o) (by omega) (by omega) (by rw[a3];omega);exact h)
  exact⟨z.1,ZcR hcm hz,g⟩
 ·obtain⟨a0s,a1s,a2,a3⟩:=ZcN (m:=m) er;have hxy:x≠y:=fun h=>hys (h ▸ hxs)
  have hnx:=zcX hf.qt hx;have hny:=zcX hf.qt hyo;have kx:zaK m x=zaK m (z42 m a):=by
   by_cases hc:z8 m x<=a.s
   ·rw[(a2 hc).2,hky]
   ·rw[(a3 (by omega)).2]
  have CB:0<=a.s->a.s<0+z8 m x->z42 m a=x/\zb4 m a.jg (z4R m a)=0:=fun _ h=>by
   obtain⟨q1,q2⟩:=a3 (by omega);exact⟨q2,by rw[q1];exact a0s⟩
  have front1:z8 m x<=a.s->a.s<z8 m x+z8 m y->z42 m a=y/\zb4 m a.jg (z4R m a)=z8 m x:=fun h _=>by
   obtain⟨q1,q2⟩:=a2 h;exact⟨q2,by rw[q1];exact a1s⟩
  have hon0:x=z42 m a->frF m a=a.s-0:=fun h=>by
   by_cases hc:z8 m x<=a.s
   ·exact absurd (h.trans (a2 hc).2) hxy
   ·unfold frF;rw[(a3 (by omega)).1,a0s]
  have hon1:y=z42 m a->frF m a=a.s-z8 m x:=fun h=>by
   by_cases hc:z8 m x<=a.s
   ·unfold frF;rw[(a2 hc).1,a1s]
   ·exact absurd ((a3 (by omega)).2.symm.trans h.symm) hxy
  have j01:j=0\/j=1:=by rw[er]at hj;simp at hj;omega
  have hj0:0<a.jg.length:=by rw[er];simp
  have hj1:1<a.jg.length:=by rw[er];simp
  have ex:a.jg[0]=x:=by simp[er]
  have ey:a.jg[1]=y:=by simp[er]
  rcases j01 with rfl|rfl
  ·simp only[ex,a0s]at h1 h2 ⊢;have hp0:max 0 (a.s-a.len-0)<=min (a.s-0) (z8 m x):=by omega
   obtain⟨b,hb,c,hcm,cv,c1,c2,c3,c4,c5,b1,b2,b3,b4⟩:=ZcA hvb ho hc hj0 ex a0s hp0 (fun i hi hr=>by have:=hfr i 0 hi hj0 (by rw[ex];exact hr) (by rw[ex,a0s];exact hp0);rw[ex,a0s]at this;exact this);obtain⟨z,hz,g⟩:=Zdf (o:=o) hf hm sg hob hx kx (by simpa using CB) cv c1 hp0 c2 c3 c4 c5 (fun hsg=>BQ hsg hb b2 (by rw[b1];exact hp0) (by rw[b1];exact b3) b4 (by omega) cv (fun h=>hon0 (by rw[<-b1];exact h))) (by omega) (by omega) (by omega) (by omega) (fun _=>⟨rfl,hsx⟩) (slo:=e.slo) (len:=len) (r:=r) (bar:=zfx len e) (fun v5 i hi=>by
    obtain⟨hil,hix⟩:=zfT hi;exact ZcY (j:=0) ho hln hx hi (by rw[er];exact Zcz _ _) (by omega) (by have:=hfr i 0 hil hj0 (by rw[ex];exact hix) (by rw[ex,a0s];exact hp0);rw[ex]at this;exact this) (by rw[a0s];exact hp0) c1 (by rw[a0s];exact c3) v5 (by omega) (o:=o) (by omega) (by omega) (by rw[a0s];omega))
   exact⟨z.1,ZcR hcm hz,g⟩
  ·simp only[ey,a1s]at h1 h2 ⊢;by_cases BF:o-a'.v<0
   ·have hp0:max 0 (a.s-a.len-0)<=min (a.s-0) (z8 m x):=by omega
    obtain⟨b,hb,c,hcm,cv,c1,c2,c3,c4,c5,b1,b2,b3,b4⟩:=ZcA hvb ho hc hj0 ex a0s hp0 (fun i hi hr=>by have:=hfr i 0 hi hj0 (by rw[ex];exact hr) (by rw[ex,a0s];exact hp0);rw[ex,a0s]at this;exact this);obtain⟨z,hz,g1,g2,g3,g4,g5,g6⟩:=Zes (o:=o) hf hm sg hob hx hsx hy kx CB cv c1 hs0 (by simpa using hp0) (by simpa using c2) (by simpa using c3) c4 c5 (fun hsg=>BQ hsg hb b2 (by rw[b1];exact hp0) (by rw[b1];exact b3) b4 (by omega) cv (fun h=>hon0 (by rw[<-b1];exact h))) (by omega) (by omega) (by omega) (by omega) BF (slo:=e.slo) (len:=len) (r:=r) (bar:=zfx len e)
     (fun uH=>Zek hf hmz ho hln hzn er hx hyo hxs hys hy (by omega) hs0 hfr (by omega) c1 (by simpa using c3) (o:=o) (by omega) (by omega) (by omega) (by omega) (by omega) uH)
    exact⟨z.1,ZcR hcm hz,g1,g2,g3,g4,g5,.inl g6⟩
   ·have hp1:max 0 (a.s-a.len-z8 m x)<=min (a.s-z8 m x) (z8 m y):=by omega
    obtain⟨b,hb,c,hcm,cv,c1,c2,c3,c4,c5,b1,b2,b3,b4⟩:=ZcA hvb ho hc hj1 ey a1s hp1 (fun i hi hr=>by have:=hfr i 1 hi hj1 (by rw[ey];exact hr) (by rw[ey,a1s];exact hp1);rw[ey,a1s]at this;exact this);obtain⟨z,hz,g⟩:=Zdf (o:=o) hf hm sg hob hyo (by rw[hky];exact kx) front1 cv c1 hp1 c2 c3 c4 c5 (fun hsg=>BQ hsg hb b2 (by rw[b1];exact hp1) (by rw[b1];exact b3) b4 (by omega) cv (fun h=>hon1 (by rw[<-b1];exact h))) (by omega) (by omega) (by omega) (by omega) (fun h=>absurd h BF) (slo:=e.slo) (len:=len) (r:=r) (bar:=zfx len e) (fun v5 i hi=>by
     obtain⟨hil,hix⟩:=zfT hi;exact ZcY (j:=1) ho hln hyo hi (by rw[er];exact ZcS hxy) (by omega) (by have:=hfr i 1 hil hj1 (by rw[ey];exact hix) (by rw[ey,a1s];exact hp1);rw[ey]at this;exact this) (by rw[a1s];exact hp1) c1 (by rw[a1s];exact c3) v5 (by omega) (o:=o) (by omega) (by omega) (by rw[a1s];omega))
    exact⟨z.1,ZcR hcm hz,g⟩
theorem ZeU{m:zD}{zs:List Zon}{ss:List Sgn}(hf:zmq m zs ss){r:List Int}{len:Int}{k:zci}{e:Ego}(Bq:0<=zfx len e)(sg:Bool){a:AgV}(ha:WAg m a)(hs:a.s=0)(hv:0<=a.v/\a.v<=zeR (zaK m (z42 m a))){p:Spn}(hp:p∈z2B m a){o:Int}(h1:p.lo<=o)(h2:o<=p.hi):ZeD m (zex m zs ss r len k e sg) sg a.v p.lane o:=by
 obtain⟨x,t,er,hx,hxs,ht⟩:=Zb8 hf ha.jg;obtain⟨j,hj,rfl,hpl⟩:=Zb9.1 hp;have hl0:=ha.len.1;have hnx:=zcX hf.qt hx;have src:ZeD m (zex m zs ss r len k e sg) sg a.v x 0\/z42 m a≠x:=by
  by_cases ho:z42 m a=x
  ·left;refine⟨⟨x,0,0,0,zeR (zaK m x),0⟩,?_,rfl,by simp,by simp,hv.1,by rw[<-ho];exact hv.2,.inl rfl⟩;unfold zex;refine kD _ (kL.2 ⟨x,ZdA hx hxs,?_⟩);unfold zfb zqn;rw[decide_eq_true Bq];simp
  ·exact .inr ho
 unfold z4Q at h1 h2 hpl ⊢;simp only at h1 h2 hpl ⊢;rcases ht with rfl |⟨y,rfl,hy,hyo,hys,hky⟩
 ·obtain⟨a1,a2,a3⟩:=Zdh (m:=m) er;obtain rfl:j=0:=by rw[er]at hj;simp at hj;exact hj
  have ex:a.jg[0]=x:=by simp[er]
  simp only[ex,a3]at h1 h2 ⊢;obtain rfl:o=0:=by omega
  exact src.resolve_right (fun h=>h a2)
 ·obtain⟨a0s,a1s,a2,a3⟩:=ZcN (m:=m) er;have j01:j=0\/j=1:=by rw[er]at hj;simp at hj;omega
  have ex:a.jg[0]'(by rw[er];simp)=x:=by simp[er]
  have ey:a.jg[1]'(by rw[er];simp)=y:=by simp[er]
  rcases j01 with rfl|rfl
  ·simp only[ex,a0s]at h1 h2 ⊢;obtain rfl:o=0:=by omega
   exact src.resolve_right (fun h=>h (a3 (by omega)).2)
  ·simp only[ey,a1s]at h1 h2 ⊢;omega
theorem Zei{m:zD}{zs:List Zon}{ss:List Sgn}(hf:zmq m zs ss){r:List Int}{len:Int}{a0 a0' a':AgV}{k:zci}{e:Ego}(ho:Zd2 m r len a0 a0' k e)(hr0:a0'.jg=r)(hvb:∀b∈k.jU,VB m b)(sg:Bool)(hK:zdf m (zpg m zs ss r len k e sg)=0)
  (ha:WAg m a') (hto:ZbU m a0' a'=false) (hpt:∀p∈z2B m a',∀o,p.lo<=o->o<=p.hi->ZeD m (zex m zs ss r len k e sg) sg a'.v p.lane o) :
  Zd4 m (zpg m zs ss r len k e sg) a'/\(sg=true->ZdG m (zpg m zs ss r len k e sg) a'):=by
 have hap:=zFn hf.qt hK;have hVK:=zxJ hf.qt hK;have hle:Le (zex m zs ss r len k e sg):=fun b hb=>(zE4 hf r len k e sg hvb b hb).le
 have l0:0<=a0'.len:=by have:=ho.ln';have:=ho.l0;omega
 have e1:=ho.el;have e2:=ho.eh;have e3:=ho.ln';have pt:∀(j:Nat) (hj:j<a'.jg.length) (o:Int),max 0 (a'.s-a'.len-zb4 m a'.jg j)<=o->o<=min (a'.s-zb4 m a'.jg j) (z8 m a'.jg[j])->∃c∈(zpg m zs ss r len k e sg).jU,c.lane=a'.jg[j]/\c.lo<=o/\o<=c.hi/\c.vlo<=a'.v/\a'.v<=c.vhi/\(c.hold=0\/o+zet a'.v (zd4 (zaK m a'.jg[j]))<c.hold):=by
  intro j hj o h1 h2;obtain⟨z,hz,z1,z2,z3,z4,z5,z6⟩:=hpt (z4Q m a' j a'.jg[j]) (Zb9.2 ⟨j,hj,rfl,by unfold z4Q;simp only;omega⟩) o h1 h2;obtain⟨q,hq,hI⟩:=zU6 hle z hz;have q1:=hI.lane;have q2:=hI.lo;have q3:=hI.hi;have q4:=hI.vlo;have q5:=hI.vhi;have q6:=hI.hold;unfold z4Q at z1 z6;simp only at z1 z6;obtain⟨c,hc,c1,c2,c3,c4,c5,c6⟩:=Zc5 m e len (x:=a'.jg[j]) (p:=o) (q:=o) (by omega) r (zcz (zex m zs ss r len k e sg)) q hq (by omega) (by omega) (by omega) (fun i hi hr=>by
   have:=ZcU hto (i:=i) (j:=j) (by rw[hr0];exact hi) hj (by simp only[hr0];exact hr) l0 (by omega);unfold Zcy at this;rw[hr0]at this;omega)
  refine⟨c,hc,c1,c2,c3,by omega,by omega,?_⟩;rw[c6];rcases q6 with h |⟨h,g⟩
  ·exact .inl h
  ·rcases z6 with h6 |⟨_,h6⟩
   ·exact absurd h6 h
   ·exact .inr (by omega)
 constructor
 ·intro p hp;obtain⟨j,hj,rfl,hpl⟩:=Zb9.1 hp;unfold z4Q at hpl ⊢;simp only at hpl;have hn:((min (a'.s-zb4 m a'.jg j) (z8 m a'.jg[j])-max 0 (a'.s-a'.len-zb4 m a'.jg j)).toNat:Int)=min (a'.s-zb4 m a'.jg j) (z8 m a'.jg[j])-max 0 (a'.s-a'.len-zb4 m a'.jg j):=by omega
  obtain⟨b,hb,b1,b2,b3,b4,b5⟩:=Zdc hap a'.jg[j] a'.v (max 0 (a'.s-a'.len-zb4 m a'.jg j)) (min (a'.s-zb4 m a'.jg j) (z8 m a'.jg[j])-max 0 (a'.s-a'.len-zb4 m a'.jg j)).toNat (fun o h1 h2=>by
   obtain⟨c,hc,c1,c2,c3,c4,c5,_⟩:=pt j hj o h1 (by omega);exact⟨c,hc,c1,c2,c3,c4,c5⟩)
  refine⟨b,hb,?_⟩;unfold z4q;simp only[jh,decide_eq_true_eq];exact⟨⟨⟨b1,b2⟩,by omega⟩,b4,b5⟩
 ·intro hsg b hb b1 b2 b3;obtain⟨hj,hjo,hf0⟩:=ZdF hf ha;have hbn:=(hVK b hb).hi;have hlen:=ha.len.1;have hfe:frF m a'=a'.s-zb4 m a'.jg (z4R m a'):=rfl;obtain⟨c,hc,c1,c2,c3,c4,c5,c6⟩:=pt (z4R m a') hj (frF m a') (by omega) (by rw[hjo,<-b1];omega);have:=Zdq hap hb hc (x:=z42 m a') b1 (by rw[c1,hjo]) (o:=frF m a') (u:=frF m a') (by omega) b2 b3 c2 c3;subst this;rw[hjo]at c6;exact c6
theorem ZeZ{m:zD}{zs:List Zon}{ss:List Sgn}(hf:zmq m zs ss){x:Int}(hx:0<=x/\x<m.jc.length)(tick:Int)(ht:0<=tick):R L Cs Zcu [.a (zf m),W x,W tick] []=some (.w (.c (.je (zu (zeA zs ss x tick)))),[]):=by
 have h1:=zy9 hf x tick;have h2:=zR0 hf.qt x;rw[decide_eq_true hx.1,decide_eq_true hx.2]at h2;have c:¬tick<0:=by omega
 simp only[zf]at h1 h2;rw[zUa Zcx rfl];simp[ZbV,zf,h1,h2,c,zg]
theorem Zds{m:zD}(h:zcp m){rt:List Int}(hr:zdA m rt=0){s len:Int}(v st:Int)(ob gn:Bool)(hs:0<=s/\s<=10000000)(hl:0<=len/\len<=20000):R L Cs z4o [.a (zf m),.a [.je (zu rt),I s,I v,I len,I st,.bool ob,.bool gn]] []=some (.w (Bo (decide (zmd m 0 rt<s-len))),[]):=by
 have hS:=zEp h hr;have w1:=kj (s-len);simp only[zf]at hS;rw[zUa z4t rfl];by_cases hc:zmd m 0 rt<s-len<;>simp[z3s,zf,hS,w1,hc,zg]
def nxF(v most act:Int):Int:=max 0 (min (v+act) most)
abbrev mvE(m:zD)(a:AgV)(red:List Int)(act:Int)(dn up mo:Int):Env:=[(14,.w (W (nxF a.v mo act))),(3,.w (W act)),(15,.w (.c (.je (zu red)))),(10,.w (W (frF m a))),(13,.w (W dn)),(8,.w (Pt 2)),(4,.w (Pt 0)),(5,.w (Pt 1)),(11,.w (W mo))]
abbrev mvM(m:zD)(a:AgV):Mem:=[bx 5 (zf m),bx 7 (agC a),bx 7 [.jd,I 0,I 0,I 0,I 0,.bool false,.bool false]]
theorem Zex(m:zD)(a:AgV)(red:List Int)(hred:red.length<=100000)(dn up mo:Int)(hd:1<=dn/\dn<=300)(hmo:0<=mo/\mo<=2000)(hv:0<=a.v/\a.v<=2000)(hf:0<=frF m a/\frF m a<=1000000000):∀(n:Nat) (act:Int),act+dn=n->n<=1000 ->
  ∃yK,-dn<=yK/\yK<=act/\(yK=-dn\/red.any (Zdy (frF m a) a.v (nxF a.v mo yK) dn)=false) /\
  Y L Cs ZbG (some [14,3,15,10,13,8,4,5,11]) 3 (mvE m a red act dn up mo) (mvM m a)=some (.exit 0,(72,.w (Bo false))::mvE m a red yK dn up mo,mvM m a):=by
 intro n;induction n with
 |zero =>
  intro act ha _;refine⟨act,by omega,by omega,.inl (by omega),?_⟩;have w1:=kj (-dn);have c1:¬-dn<act:=by omega
  rw[zj ZbG.eq_1];simp[mvE,mvM,w1,c1]
 |succ n ih =>
  intro act ha hn;have w1:=kj (-dn);have c1:-dn<act:=by omega
  have hO:=Zem red hred (frF m a) a.v (nxF a.v mo act) dn hf (by omega) (by unfold nxF;omega) (by omega);by_cases hb:red.any (Zdy (frF m a) a.v (nxF a.v mo act) dn)=true
  ·obtain⟨yK,g1,g2,g3,g4⟩:=ih (act-1) (by omega) (by omega);refine⟨yK,g1,by omega,g3,?_⟩;rw[<-g4];clear ih g4;have w2:=kj (act-1);have w3:=kj (a.v+(act-1));rw[hb]at hO;simp only[nxF]at hO;rw[zj ZbG.eq_1];simp[mvE,mvM,agC,w1,w2,w3,c1,hO,nxF]
  ·have hb:red.any (Zdy (frF m a) a.v (nxF a.v mo act) dn)=false:=by simpa using hb
   refine⟨act,by omega,by omega,.inr hb,?_⟩;rw[hb]at hO;rw[zj ZbG.eq_1];simp[mvE,mvM,agC,w1,c1,hO]
def Zc8(m:zD)(a:AgV)(v:Int):AgV:=⟨a.jg,a.s+v,v,a.len,a.start,a.uQ,decide (zmd m 0 a.jg<a.s+v-a.len)⟩
theorem ZeB{m:zD}{zs:List Zon}{ss:List Sgn}(hf:zmq m zs ss){a:AgV}(ha:WAg m a)(hv:0<=a.v/\a.v<=zeR (zaK m (z42 m a)))(hg:a.gone=false)(tick:Int)(ht:0<=tick)(act:Int)(Ce:zk0 act) :
  ∃b,Mvd m (zeA zs ss (z42 m a) tick) a b/\WAg m b/\(a.uQ=false->b.v=nxF a.v (zeR (zaK m (z42 m a))) (max (-zd4 (zaK m (z42 m a))) (min act (zif (zaK m (z42 m a)))))) /\
  R L Cs Zcn [.a (zf m),.a (agC a),W tick,W act] []=some (.w (.a (agC b)),[]):=by
 have h:=hf.qt;have hl:=z6w h ha;have hon:=ha.on_ok h;obtain⟨hat,hao,hf0⟩:=ZdF hf ha;have hse:=ha.vw h;have has:=ha.s;have hal:=ha.len;obtain⟨j,hj⟩:=jw hon.1;have hjl:j<m.jc.length:=by omega
 have ek:zaK m (z42 m a)=m.jc[j].kind:=by rw[hj];simp[zaK,hjl]
 have hB:=zhv (h.kind _ (jb hjl));have htp:=Bc (h.kind _ (jb hjl));have hL:=zEV h hon;have hln:=zcX h hon;have hR:=ZeZ hf hon tick ht;have hrl:=zqK zs ss (z42 m a) tick;have hzf:=hf.zd.few;have hst:=ha.BN h hat;have hfe:a.s-zb4 m a.jg (z4R m a)=frF m a:=rfl;have hfb:frF m a<=1000000000:=by rw[<-hfe];omega
 rw[hfe]at hl;rw[ek]at hv ⊢;have mk:∀v:Int,0<=v->a.v-zd4 m.jc[j].kind<=v->v<=a.v+zif m.jc[j].kind/\v<=zeR m.jc[j].kind->(a.uQ=true->frF m a<=z8 m (z42 m a)->∀l∈zeA zs ss (z42 m a) tick,ZdE (frF m a) a.v v (zd4 m.jc[j].kind) l)->Mvd m (zeA zs ss (z42 m a) tick) a (Zc8 m a v)/\WAg m (Zc8 m a v):=by
  intro v h1 h2 h3 h4;have hh:=ha.here;rw[hg]at hh;have hh:=of_decide_eq_false hh.symm;refine⟨⟨rfl,rfl,rfl,rfl,rfl,h1,by rw[ek];exact h2,by rw[ek];exact h3,rfl,by rw[ek];exact h4⟩,⟨ha.jg,ha.len,ha.start,?_,rfl⟩⟩;show 0<=a.s+v/\a.s+v<=zmd m 0 a.jg+a.len+2000;omega
 have hact1:=Ce.1;have hact2:=Ce.2;generalize zeR m.jc[j].kind=mo at *;generalize zif m.jc[j].kind=up at *;generalize zd4 m.jc[j].kind=dn at *;have wd:=kj (-dn);have wn:=kj (a.v+max (-dn) (min act up));simp only[zf,agC]at hl hL hR hB;generalize zeA zs ss (z42 m a) tick=red at *;by_cases hob:a.uQ=true/\frF m a<=z8 m (z42 m a)
 ·obtain⟨o1,o2⟩:=hob;obtain⟨yK,g1,g2,g3,g4⟩:=Zex m a red (by omega) dn up mo (by omega) (by omega) (by omega) ⟨hf0,hfb⟩ (max (-dn) (min act up)+dn).toNat (max (-dn) (min act up)) (by omega) (by omega);have Br:∀l∈red,ZdE (frF m a) a.v (nxF a.v mo yK) dn l:=by
   intro l hl h1 h2;rcases g3 with g3|g3
   ·have:nxF a.v mo yK=max 0 (a.v-dn):=by unfold nxF;omega
    rw[this];by_cases c:dn<a.v
    ·rw[zsG (by omega) c]at h2;rw[show max 0 (a.v-dn)=a.v-dn by omega];omega
    ·rw[show max 0 (a.v-dn)=0 by omega,zki (by omega) (by omega)];omega
   ·have:=kQ.1 g3 l hl;unfold Zdy at this;simp only[jh,decide_eq_true_eq,not_and]at this;have:=this ⟨h1,h2⟩;omega
  obtain⟨q1,q2⟩:=mk (nxF a.v mo yK) (by unfold nxF;omega) (by unfold nxF;omega) (by unfold nxF;omega) (fun _ _=>Br);refine⟨Zc8 m a (nxF a.v mo yK),q1,q2,fun h=>absurd h (by simp[o1]),?_⟩;have hnb:0<=nxF a.v mo yK/\nxF a.v mo yK<=2000:=by unfold nxF;omega
  have ws:=kj (a.s+nxF a.v mo yK);have hG:=Zds h ha.jg (s:=a.s+nxF a.v mo yK) (len:=a.len) (nxF a.v mo yK) a.start a.uQ a.gone (by omega) (by omega);simp only[mvE,mvM,zf,agC]at g4 hG;rw[zUa Zb3 rfl];unfold Zc8 agC;clear q1 q2 Br g1 g2 g3 mk;obtain⟨A,hA⟩:∃A,max (-dn) (min act up)=A:=⟨_,rfl⟩;rw[hA]at wn g4;have h0:max 0 (min (a.v+A) mo)=nxF a.v mo A:=rfl;generalize nxF a.v mo yK=nx at *;generalize nxF a.v mo A=n0 at *;generalize decide (zmd m 0 a.jg<a.s+nx-a.len)=gd at *;generalize frF m a=fr at *;generalize z42 m a=on at *;subst hj;rw[o1]at hl hG g4;simp (maxSteps:=1000000) [ZbJ,h0,hA,zf,zo,hjl,hl,hL,hR,hB,o1,o2,g4,hG,wd,wn,ws,zg,zH,zX]
 ·obtain⟨q1,q2⟩:=mk (nxF a.v mo (max (-dn) (min act up))) (by unfold nxF;omega) (by unfold nxF;omega) (by unfold nxF;omega) (fun h1 h2=>absurd ⟨h1,h2⟩ hob);refine⟨Zc8 m a (nxF a.v mo (max (-dn) (min act up))),q1,q2,fun _=>rfl,?_⟩;have hnb:0<=nxF a.v mo (max (-dn) (min act up))/\nxF a.v mo (max (-dn) (min act up))<=2000:=by unfold nxF;omega
  have ws:=kj (a.s+nxF a.v mo (max (-dn) (min act up)));have hG:=Zds h ha.jg (s:=a.s+nxF a.v mo (max (-dn) (min act up))) (len:=a.len) (nxF a.v mo (max (-dn) (min act up))) a.start a.uQ a.gone (by omega) (by omega);simp only[zf,agC]at hG;rw[zUa Zb3 rfl];unfold Zc8 agC;clear q1 q2 mk;obtain⟨A,hA⟩:∃A,max (-dn) (min act up)=A:=⟨_,rfl⟩;rw[hA]at wn hG ws ⊢;have h0:max 0 (min (a.v+A) mo)=nxF a.v mo A:=rfl;generalize nxF a.v mo A=nx at *;generalize decide (zmd m 0 a.jg<a.s+nx-a.len)=gd at *;generalize frF m a=fr at *;generalize z42 m a=on at *;subst hj;cases o1:a.uQ with
  |false =>
   rw[o1]at hl hG;simp (maxSteps:=1000000) [ZbJ,h0,hA,zf,zo,hjl,hl,hL,hR,hB,o1,hG,wd,wn,ws,zg,zH,zX]
  |true =>
   rw[o1]at hl hG;have o2:¬fr<=z8 m (j:Int):=fun h=>hob ⟨o1,h⟩
   simp (maxSteps:=1000000) [ZbJ,h0,hA,zf,zo,hjl,hl,hL,hR,hB,o1,o2,hG,wd,wn,ws,zg,zH,zX]
theorem ZcX{m:zD}{s:SnV}(h:z31 m s=0):∀a∈s.agents,0<=a.v/\a.v<=zeR (zaK m (z42 m a)):=by
 intro a ha;unfold z31 at h;split at h
 ·exact absurd h (by decide)
 ·rename_i hn;have:z3z m a=0:=by
   apply k7;intro hc;exact hn (kM.2 ⟨a,ha,decide_eq_true hc⟩)
  unfold z3z at this;split at this
  ·assumption
  ·exact absurd this (by decide)
theorem ZcK{t:Int}{a:AgV}(h:thA t a=true):a.gone=false/\a.start<=t:=by
 unfold thA at h;simp at h;exact⟨h.2,h.1⟩
structure MvS(m:zD)(zs:List Zon)(ss:List Sgn)(tick act:Int)(a b:AgV):Prop where
 wag:WAg m b
 here:thA tick a=true->Mvd m (zeA zs ss (z42 m a) tick) a b/\(a.uQ=false->b.v=nxF a.v (zeR (zaK m (z42 m a))) (max (-zd4 (zaK m (z42 m a))) (min act (zif (zaK m (z42 m a))))))
 away:thA tick a=false->b=a
theorem ZeC{m:zD}{zs:List Zon}{ss:List Sgn}(hf:zmq m zs ss){s:SnV}(hs:KSn m s)(hc:z31 m s=0)(i:Nat)(hi:i<s.agents.length)(act:Int)(Ce:zk0 act) :
  ∃b,MvS m zs ss s.tick act s.agents[i] b/\R L Cs Zcp [.a (zf m),.a (snC s),W i,W act] []=some (.w (.a (agC b)),[]):=by
 have h:=hf.qt;have ha:=hs.ags _ (jb hi);have hC:=z5f h s hs;rw[hc]at hC;have hT:=z56 s i hi;obtain⟨_,hne,hl8⟩:=ha.on h;have a1:=z2C hne;have a2:s.agents[i].jg.length*8<=140737488355328:=by omega
 have hci:(i:Int)<s.agents.length:=by omega
 have n0:¬(i:Int)<0:=by omega
 have hge:¬s.agents.length<=i:=by omega
 simp only[zf,snC]at hC hT;have hv:=ZcX hc _ (jb hi);cases ht:thA s.tick s.agents[i]with
 |false =>
  refine⟨s.agents[i],⟨ha,fun h=>by rw[ht]at h;exact absurd h (by decide),fun _=>rfl⟩,?_⟩;rw[ht]at hT;rw[zUa Zb4 rfl];generalize hag:s.agents[i]=a at *;simp[ZbR,zf,snC,agC,hi,hci,hge,hag,n0,hC,hT,a1,a2,zg,zH,zX]
 |true =>
  obtain⟨b,hm,hw,hob,hR⟩:=ZeB hf ha hv (ZcK ht).1 s.tick hs.tick.1 act Ce;refine⟨b,⟨hw,fun _=>⟨hm,hob⟩,fun h=>by rw[ht]at h;exact absurd h (by decide)⟩,?_⟩;rw[ht]at hT;rw[zUa Zb4 rfl];generalize hag:s.agents[i]=a at *;simp only[zf,agC]at hR;simp[ZbR,zf,snC,agC,hi,hci,hge,hag,n0,hC,hT,hR,a1,a2,zg,zH,zX]
@[simp] theorem ZeE(l:List z2T):(∀x,x∈z2H l->x.length=4)<->True:=by simp[z2H]
def Zbs(p:Nat)(ins:List z2T):Cl:=if ins=[] then .jd else .slice p ins.length 4 0 ins.length none
def cpT(ins:List z2T):Mem:=if ins=[] then [] else [some { box:=false,esz:=4,rows:=z2H ins,gen:=ins.length,fz:=false,ver:=ins.length }]
theorem ZeR(t:Int)(ins:List z2T)(hil:ins.length<=1000)(a:AgV)(ha:a.jg≠[]/\a.jg.length<=8):R L Cs z2u [.a (snC ⟨t,[a],ins⟩)] []=some (.w (.a [I t,.slice 0 1 7 0 1 none,Zbs 1 ins]),some { box:=false,esz:=7,rows:=Zbn [a],gen:=1,fz:=false,ver:=1 }::cpT ins):=by
 have a1:=z2C ha.1;have a2:a.jg.length*8<=140737488355328:=by omega
 have w1:IntKind.i64.wrap 1=1:=rfl;have i2:ins.length*32<=140737488355328:=by omega
 have tk:=z62 ins;rw[zUa z2D rfl];by_cases hi:ins=[]
 ·subst hi;simp[z2v,snC,agC,zg,Zbn,Zbs,cpT,show z2H []=[] from rfl];rw[zj z7C.eq_1];simp[zX,zg,agC,a1,a2,w1,Zbs,cpT,show z2H []=[] from rfl,zH];rw[zj z7C.eq_1];simp[zX,zg,agC,a1,a2,w1,Zbs,cpT,show z2H []=[] from rfl,zH]
 ·have i1:z2H ins≠[]:=by simpa [z2H]using hi
  simp[z2v,snC,agC,zg,Zbn,Zbs,cpT,hi,i1,i2,tk];rw[zj z7C.eq_1];simp[zX,zg,agC,a1,a2,w1,Zbs,cpT,hi,i1,i2,tk,zH];rw[zj z7C.eq_1];simp[zX,zg,agC,a1,a2,w1,Zbs,cpT,hi,i1,i2,tk,zH]
theorem ZeQ(t:Int)(ins:List z2T)(hil:ins.length<=1000)(a b:AgV)(ha:a.jg≠[]/\a.jg.length<=8)(hb:b.jg≠[]/\b.jg.length<=8):R L Cs z2u [.a (snC ⟨t,[a,b],ins⟩)] []=some (.w (.a [I t,.slice 0 2 7 0 2 none,Zbs 1 ins]),some { box:=false,esz:=7,rows:=Zbn [a,b],gen:=2,fz:=false,ver:=2 }::cpT ins):=by
 have a1:=z2C ha.1;have a2:a.jg.length*8<=140737488355328:=by omega
 have b1:=z2C hb.1;have b2:b.jg.length*8<=140737488355328:=by omega
 have w1:IntKind.i64.wrap 1=1:=rfl;have w2:IntKind.i64.wrap 2=2:=rfl;have i2:ins.length*32<=140737488355328:=by omega
 have tk:=z62 ins;rw[zUa z2D rfl];by_cases hi:ins=[]
 ·subst hi;simp[z2v,snC,agC,zg,Zbn,Zbs,cpT,show z2H []=[] from rfl];rw[zj z7C.eq_1];simp[zX,zg,agC,a1,a2,b1,b2,w1,w2,Zbs,cpT,show z2H []=[] from rfl,zH];rw[zj z7C.eq_1];simp[zX,zg,agC,a1,a2,b1,b2,w1,w2,Zbs,cpT,show z2H []=[] from rfl,zH];rw[zj z7C.eq_1];simp[zX,zg,agC,a1,a2,b1,b2,w1,w2,Zbs,cpT,show z2H []=[] from rfl,zH]
 ·have i1:z2H ins≠[]:=by simpa [z2H]using hi
  simp[z2v,snC,agC,zg,Zbn,Zbs,cpT,hi,i1,i2,tk];rw[zj z7C.eq_1];simp[zX,zg,agC,a1,a2,b1,b2,w1,w2,Zbs,cpT,hi,i1,i2,tk,zH];rw[zj z7C.eq_1];simp[zX,zg,agC,a1,a2,b1,b2,w1,w2,Zbs,cpT,hi,i1,i2,tk,zH];rw[zj z7C.eq_1];simp[zX,zg,agC,a1,a2,b1,b2,w1,w2,Zbs,cpT,hi,i1,i2,tk,zH]
theorem ZeP(t:Int)(ins:List z2T)(hil:ins.length<=1000)(a b c:AgV)(ha:a.jg≠[]/\a.jg.length<=8)(hb:b.jg≠[]/\b.jg.length<=8)(hc:c.jg≠[]/\c.jg.length<=8):R L Cs z2u [.a (snC ⟨t,[a,b,c],ins⟩)] []=some (.w (.a [I t,.slice 0 3 7 0 3 none,Zbs 1 ins]),some { box:=false,esz:=7,rows:=Zbn [a,b,c],gen:=3,fz:=false,ver:=3 }::cpT ins):=by
 have a1:=z2C ha.1;have a2:a.jg.length*8<=140737488355328:=by omega
 have b1:=z2C hb.1;have b2:b.jg.length*8<=140737488355328:=by omega
 have c1:=z2C hc.1;have c2:c.jg.length*8<=140737488355328:=by omega
 have w1:IntKind.i64.wrap 1=1:=rfl;have w2:IntKind.i64.wrap 2=2:=rfl;have w3:IntKind.i64.wrap 3=3:=rfl;have i2:ins.length*32<=140737488355328:=by omega
 have tk:=z62 ins;rw[zUa z2D rfl];by_cases hi:ins=[]
 ·subst hi;simp[z2v,snC,agC,zg,Zbn,Zbs,cpT,show z2H []=[] from rfl];rw[zj z7C.eq_1];simp[zX,zg,agC,a1,a2,b1,b2,c1,c2,w1,w2,w3,Zbs,cpT,show z2H []=[] from rfl,zH];rw[zj z7C.eq_1];simp[zX,zg,agC,a1,a2,b1,b2,c1,c2,w1,w2,w3,Zbs,cpT,show z2H []=[] from rfl,zH];rw[zj z7C.eq_1];simp[zX,zg,agC,a1,a2,b1,b2,c1,c2,w1,w2,w3,Zbs,cpT,show z2H []=[] from rfl,zH];rw[zj z7C.eq_1];simp[zX,zg,agC,a1,a2,b1,b2,c1,c2,w1,w2,w3,Zbs,cpT,show z2H []=[] from rfl,zH]
 ·have i1:z2H ins≠[]:=by simpa [z2H]using hi
  simp[z2v,snC,agC,zg,Zbn,Zbs,cpT,hi,i1,i2,tk];rw[zj z7C.eq_1];simp[zX,zg,agC,a1,a2,b1,b2,c1,c2,w1,w2,w3,Zbs,cpT,hi,i1,i2,tk,zH];rw[zj z7C.eq_1];simp[zX,zg,agC,a1,a2,b1,b2,c1,c2,w1,w2,w3,Zbs,cpT,hi,i1,i2,tk,zH];rw[zj z7C.eq_1];simp[zX,zg,agC,a1,a2,b1,b2,c1,c2,w1,w2,w3,Zbs,cpT,hi,i1,i2,tk,zH];rw[zj z7C.eq_1];simp[zX,zg,agC,a1,a2,b1,b2,c1,c2,w1,w2,w3,Zbs,cpT,hi,i1,i2,tk,zH]
theorem ZeO(t:Int)(ins:List z2T)(hil:ins.length<=1000)(a b c d:AgV)(ha:a.jg≠[]/\a.jg.length<=8)(hb:b.jg≠[]/\b.jg.length<=8)(hc:c.jg≠[]/\c.jg.length<=8)(hd:d.jg≠[]/\d.jg.length<=8):R L Cs z2u [.a (snC ⟨t,[a,b,c,d],ins⟩)] []=some (.w (.a [I t,.slice 0 4 7 0 4 none,Zbs 1 ins]),some { box:=false,esz:=7,rows:=Zbn [a,b,c,d],gen:=4,fz:=false,ver:=4 }::cpT ins):=by
 have a1:=z2C ha.1;have a2:a.jg.length*8<=140737488355328:=by omega
 have b1:=z2C hb.1;have b2:b.jg.length*8<=140737488355328:=by omega
 have c1:=z2C hc.1;have c2:c.jg.length*8<=140737488355328:=by omega
 have d1:=z2C hd.1;have d2:d.jg.length*8<=140737488355328:=by omega
 have w1:IntKind.i64.wrap 1=1:=rfl;have w2:IntKind.i64.wrap 2=2:=rfl;have w3:IntKind.i64.wrap 3=3:=rfl;have w4:IntKind.i64.wrap 4=4:=rfl;have i2:ins.length*32<=140737488355328:=by omega
 have tk:=z62 ins;rw[zUa z2D rfl];by_cases hi:ins=[]
 ·subst hi;simp[z2v,snC,agC,zg,Zbn,Zbs,cpT,show z2H []=[] from rfl];rw[zj z7C.eq_1];simp[zX,zg,agC,a1,a2,b1,b2,c1,c2,d1,d2,w1,w2,w3,w4,Zbs,cpT,show z2H []=[] from rfl,zH];rw[zj z7C.eq_1];simp[zX,zg,agC,a1,a2,b1,b2,c1,c2,d1,d2,w1,w2,w3,w4,Zbs,cpT,show z2H []=[] from rfl,zH];rw[zj z7C.eq_1];simp[zX,zg,agC,a1,a2,b1,b2,c1,c2,d1,d2,w1,w2,w3,w4,Zbs,cpT,show z2H []=[] from rfl,zH];rw[zj z7C.eq_1];simp[zX,zg,agC,a1,a2,b1,b2,c1,c2,d1,d2,w1,w2,w3,w4,Zbs,cpT,show z2H []=[] from rfl,zH];rw[zj z7C.eq_1];simp[zX,zg,agC,a1,a2,b1,b2,c1,c2,d1,d2,w1,w2,w3,w4,Zbs,cpT,show z2H []=[] from rfl,zH]
 ·have i1:z2H ins≠[]:=by simpa [z2H]using hi
  simp[z2v,snC,agC,zg,Zbn,Zbs,cpT,hi,i1,i2,tk];rw[zj z7C.eq_1];simp[zX,zg,agC,a1,a2,b1,b2,c1,c2,d1,d2,w1,w2,w3,w4,Zbs,cpT,hi,i1,i2,tk,zH];rw[zj z7C.eq_1];simp[zX,zg,agC,a1,a2,b1,b2,c1,c2,d1,d2,w1,w2,w3,w4,Zbs,cpT,hi,i1,i2,tk,zH];rw[zj z7C.eq_1];simp[zX,zg,agC,a1,a2,b1,b2,c1,c2,d1,d2,w1,w2,w3,w4,Zbs,cpT,hi,i1,i2,tk,zH];rw[zj z7C.eq_1];simp[zX,zg,agC,a1,a2,b1,b2,c1,c2,d1,d2,w1,w2,w3,w4,Zbs,cpT,hi,i1,i2,tk,zH];rw[zj z7C.eq_1];simp[zX,zg,agC,a1,a2,b1,b2,c1,c2,d1,d2,w1,w2,w3,w4,Zbs,cpT,hi,i1,i2,tk,zH]
theorem ZeN(t:Int)(ins:List z2T)(hil:ins.length<=1000)(a b c d e:AgV)(ha:a.jg≠[]/\a.jg.length<=8)(hb:b.jg≠[]/\b.jg.length<=8)(hc:c.jg≠[]/\c.jg.length<=8)(hd:d.jg≠[]/\d.jg.length<=8)(he:e.jg≠[]/\e.jg.length<=8):R L Cs z2u [.a (snC ⟨t,[a,b,c,d,e],ins⟩)] []=some (.w (.a [I t,.slice 0 5 7 0 5 none,Zbs 1 ins]),some { box:=false,esz:=7,rows:=Zbn [a,b,c,d,e],gen:=5,fz:=false,ver:=5 }::cpT ins):=by
 have a1:=z2C ha.1;have a2:a.jg.length*8<=140737488355328:=by omega
 have b1:=z2C hb.1;have b2:b.jg.length*8<=140737488355328:=by omega
 have c1:=z2C hc.1;have c2:c.jg.length*8<=140737488355328:=by omega
 have d1:=z2C hd.1;have d2:d.jg.length*8<=140737488355328:=by omega
 have e1:=z2C he.1;have e2:e.jg.length*8<=140737488355328:=by omega
 have w1:IntKind.i64.wrap 1=1:=rfl;have w2:IntKind.i64.wrap 2=2:=rfl;have w3:IntKind.i64.wrap 3=3:=rfl;have w4:IntKind.i64.wrap 4=4:=rfl;have w5:IntKind.i64.wrap 5=5:=rfl;have i2:ins.length*32<=140737488355328:=by omega
 have tk:=z62 ins;rw[zUa z2D rfl];by_cases hi:ins=[]
 ·subst hi;simp[z2v,snC,agC,zg,Zbn,Zbs,cpT,show z2H []=[] from rfl];rw[zj z7C.eq_1];simp[zX,zg,agC,a1,a2,b1,b2,c1,c2,d1,d2,e1,e2,w1,w2,w3,w4,w5,Zbs,cpT,show z2H []=[] from rfl,zH];rw[zj z7C.eq_1];simp[zX,zg,agC,a1,a2,b1,b2,c1,c2,d1,d2,e1,e2,w1,w2,w3,w4,w5,Zbs,cpT,show z2H []=[] from rfl,zH];rw[zj z7C.eq_1];simp[zX,zg,agC,a1,a2,b1,b2,c1,c2,d1,d2,e1,e2,w1,w2,w3,w4,w5,Zbs,cpT,show z2H []=[] from rfl,zH];rw[zj z7C.eq_1];simp[zX,zg,agC,a1,a2,b1,b2,c1,c2,d1,d2,e1,e2,w1,w2,w3,w4,w5,Zbs,cpT,show z2H []=[] from rfl,zH];rw[zj z7C.eq_1];simp[zX,zg,agC,a1,a2,b1,b2,c1,c2,d1,d2,e1,e2,w1,w2,w3,w4,w5,Zbs,cpT,show z2H []=[] from rfl,zH];rw[zj z7C.eq_1];simp[zX,zg,agC,a1,a2,b1,b2,c1,c2,d1,d2,e1,e2,w1,w2,w3,w4,w5,Zbs,cpT,show z2H []=[] from rfl,zH]
 ·have i1:z2H ins≠[]:=by simpa [z2H]using hi
  simp[z2v,snC,agC,zg,Zbn,Zbs,cpT,hi,i1,i2,tk];rw[zj z7C.eq_1];simp[zX,zg,agC,a1,a2,b1,b2,c1,c2,d1,d2,e1,e2,w1,w2,w3,w4,w5,Zbs,cpT,hi,i1,i2,tk,zH];rw[zj z7C.eq_1];simp[zX,zg,agC,a1,a2,b1,b2,c1,c2,d1,d2,e1,e2,w1,w2,w3,w4,w5,Zbs,cpT,hi,i1,i2,tk,zH];rw[zj z7C.eq_1];simp[zX,zg,agC,a1,a2,b1,b2,c1,c2,d1,d2,e1,e2,w1,w2,w3,w4,w5,Zbs,cpT,hi,i1,i2,tk,zH];rw[zj z7C.eq_1];simp[zX,zg,agC,a1,a2,b1,b2,c1,c2,d1,d2,e1,e2,w1,w2,w3,w4,w5,Zbs,cpT,hi,i1,i2,tk,zH];rw[zj z7C.eq_1];simp[zX,zg,agC,a1,a2,b1,b2,c1,c2,d1,d2,e1,e2,w1,w2,w3,w4,w5,Zbs,cpT,hi,i1,i2,tk,zH];rw[zj z7C.eq_1];simp[zX,zg,agC,a1,a2,b1,b2,c1,c2,d1,d2,e1,e2,w1,w2,w3,w4,w5,Zbs,cpT,hi,i1,i2,tk,zH]
theorem ZeM(t:Int)(ins:List z2T)(hil:ins.length<=1000)(a b c d e f:AgV)(ha:a.jg≠[]/\a.jg.length<=8)(hb:b.jg≠[]/\b.jg.length<=8)(hc:c.jg≠[]/\c.jg.length<=8)(hd:d.jg≠[]/\d.jg.length<=8)(he:e.jg≠[]/\e.jg.length<=8)(hf:f.jg≠[]/\f.jg.length<=8):R L Cs z2u [.a (snC ⟨t,[a,b,c,d,e,f],ins⟩)] []=some (.w (.a [I t,.slice 0 6 7 0 6 none,Zbs 1 ins]),some { box:=false,esz:=7,rows:=Zbn [a,b,c,d,e,f],gen:=6,fz:=false,ver:=6 }::cpT ins):=by
 have a1:=z2C ha.1;have a2:a.jg.length*8<=140737488355328:=by omega
 have b1:=z2C hb.1;have b2:b.jg.length*8<=140737488355328:=by omega
 have c1:=z2C hc.1;have c2:c.jg.length*8<=140737488355328:=by omega
 have d1:=z2C hd.1;have d2:d.jg.length*8<=140737488355328:=by omega
 have e1:=z2C he.1;have e2:e.jg.length*8<=140737488355328:=by omega
 have f1:=z2C hf.1;have f2:f.jg.length*8<=140737488355328:=by omega
 have w1:IntKind.i64.wrap 1=1:=rfl;have w2:IntKind.i64.wrap 2=2:=rfl;have w3:IntKind.i64.wrap 3=3:=rfl;have w4:IntKind.i64.wrap 4=4:=rfl;have w5:IntKind.i64.wrap 5=5:=rfl;have w6:IntKind.i64.wrap 6=6:=rfl;have i2:ins.length*32<=140737488355328:=by omega
 have tk:=z62 ins;rw[zUa z2D rfl];by_cases hi:ins=[]
 ·subst hi;simp[z2v,snC,agC,zg,Zbn,Zbs,cpT,show z2H []=[] from rfl];rw[zj z7C.eq_1];simp[zX,zg,agC,a1,a2,b1,b2,c1,c2,d1,d2,e1,e2,f1,f2,w1,w2,w3,w4,w5,w6,Zbs,cpT,show z2H []=[] from rfl,zH];rw[zj z7C.eq_1];simp[zX,zg,agC,a1,a2,b1,b2,c1,c2,d1,d2,e1,e2,f1,f2,w1,w2,w3,w4,w5,w6,Zbs,cpT,show z2H []=[] from rfl,zH];rw[zj z7C.eq_1];simp[zX,zg,agC,a1,a2,b1,b2,c1,c2,d1,d2,e1,e2,f1,f2,w1,w2,w3,w4,w5,w6,Zbs,cpT,show z2H []=[] from rfl,zH];rw[zj z7C.eq_1];simp[zX,zg,agC,a1,a2,b1,b2,c1,c2,d1,d2,e1,e2,f1,f2,w1,w2,w3,w4,w5,w6,Zbs,cpT,show z2H []=[] from rfl,zH];rw[zj z7C.eq_1];simp[zX,zg,agC,a1,a2,b1,b2,c1,c2,d1,d2,e1,e2,f1,f2,w1,w2,w3,w4,w5,w6,Zbs,cpT,show z2H []=[] from rfl,zH];rw[zj z7C.eq_1];simp[zX,zg,agC,a1,a2,b1,b2,c1,c2,d1,d2,e1,e2,f1,f2,w1,w2,w3,w4,w5,w6,Zbs,cpT,show z2H []=[] from rfl,zH];rw[zj z7C.eq_1];simp[zX,zg,agC,a1,a2,b1,b2,c1,c2,d1,d2,e1,e2,f1,f2,w1,w2,w3,w4,w5,w6,Zbs,cpT,show z2H []=[] from rfl,zH]
 ·have i1:z2H ins≠[]:=by simpa [z2H]using hi
  simp[z2v,snC,agC,zg,Zbn,Zbs,cpT,hi,i1,i2,tk];rw[zj z7C.eq_1];simp[zX,zg,agC,a1,a2,b1,b2,c1,c2,d1,d2,e1,e2,f1,f2,w1,w2,w3,w4,w5,w6,Zbs,cpT,hi,i1,i2,tk,zH];rw[zj z7C.eq_1];simp[zX,zg,agC,a1,a2,b1,b2,c1,c2,d1,d2,e1,e2,f1,f2,w1,w2,w3,w4,w5,w6,Zbs,cpT,hi,i1,i2,tk,zH];rw[zj z7C.eq_1];simp[zX,zg,agC,a1,a2,b1,b2,c1,c2,d1,d2,e1,e2,f1,f2,w1,w2,w3,w4,w5,w6,Zbs,cpT,hi,i1,i2,tk,zH];rw[zj z7C.eq_1];simp[zX,zg,agC,a1,a2,b1,b2,c1,c2,d1,d2,e1,e2,f1,f2,w1,w2,w3,w4,w5,w6,Zbs,cpT,hi,i1,i2,tk,zH];rw[zj z7C.eq_1];simp[zX,zg,agC,a1,a2,b1,b2,c1,c2,d1,d2,e1,e2,f1,f2,w1,w2,w3,w4,w5,w6,Zbs,cpT,hi,i1,i2,tk,zH];rw[zj z7C.eq_1];simp[zX,zg,agC,a1,a2,b1,b2,c1,c2,d1,d2,e1,e2,f1,f2,w1,w2,w3,w4,w5,w6,Zbs,cpT,hi,i1,i2,tk,zH];rw[zj z7C.eq_1];simp[zX,zg,agC,a1,a2,b1,b2,c1,c2,d1,d2,e1,e2,f1,f2,w1,w2,w3,w4,w5,w6,Zbs,cpT,hi,i1,i2,tk,zH]
theorem ZeL(t:Int)(ins:List z2T)(hil:ins.length<=1000)(a b c d e f g:AgV)(ha:a.jg≠[]/\a.jg.length<=8)(hb:b.jg≠[]/\b.jg.length<=8)(hc:c.jg≠[]/\c.jg.length<=8)(hd:d.jg≠[]/\d.jg.length<=8)(he:e.jg≠[]/\e.jg.length<=8)(hf:f.jg≠[]/\f.jg.length<=8)(hg:g.jg≠[]/\g.jg.length<=8):R L Cs z2u [.a (snC ⟨t,[a,b,c,d,e,f,g],ins⟩)] []=some (.w (.a [I t,.slice 0 7 7 0 7 none,Zbs 1 ins]),some { box:=false,esz:=7,rows:=Zbn [a,b,c,d,e,f,g],gen:=7,fz:=false,ver:=7 }::cpT ins):=by
 have a1:=z2C ha.1;have a2:a.jg.length*8<=140737488355328:=by omega
 have b1:=z2C hb.1;have b2:b.jg.length*8<=140737488355328:=by omega
 have c1:=z2C hc.1;have c2:c.jg.length*8<=140737488355328:=by omega
 have d1:=z2C hd.1;have d2:d.jg.length*8<=140737488355328:=by omega
 have e1:=z2C he.1;have e2:e.jg.length*8<=140737488355328:=by omega
 have f1:=z2C hf.1;have f2:f.jg.length*8<=140737488355328:=by omega
 have g1:=z2C hg.1;have g2:g.jg.length*8<=140737488355328:=by omega
 have w1:IntKind.i64.wrap 1=1:=rfl;have w2:IntKind.i64.wrap 2=2:=rfl;have w3:IntKind.i64.wrap 3=3:=rfl;have w4:IntKind.i64.wrap 4=4:=rfl;have w5:IntKind.i64.wrap 5=5:=rfl;have w6:IntKind.i64.wrap 6=6:=rfl;have w7:IntKind.i64.wrap 7=7:=rfl;have i2:ins.length*32<=140737488355328:=by omega
 have tk:=z62 ins;rw[zUa z2D rfl];by_cases hi:ins=[]
 ·subst hi;simp[z2v,snC,agC,zg,Zbn,Zbs,cpT,show z2H []=[] from rfl];rw[zj z7C.eq_1];simp[zX,zg,agC,a1,a2,b1,b2,c1,c2,d1,d2,e1,e2,f1,f2,g1,g2,w1,w2,w3,w4,w5,w6,w7,Zbs,cpT,show z2H []=[] from rfl,zH];rw[zj z7C.eq_1];simp[zX,zg,agC,a1,a2,b1,b2,c1,c2,d1,d2,e1,e2,f1,f2,g1,g2,w1,w2,w3,w4,w5,w6,w7,Zbs,cpT,show z2H []=[] from rfl,zH];rw[zj z7C.eq_1];simp[zX,zg,agC,a1,a2,b1,b2,c1,c2,d1,d2,e1,e2,f1,f2,g1,g2,w1,w2,w3,w4,w5,w6,w7,Zbs,cpT,show z2H []=[] from rfl,zH];rw[zj z7C.eq_1];simp[zX,zg,agC,a1,a2,b1,b2,c1,c2,d1,d2,e1,e2,f1,f2,g1,g2,w1,w2,w3,w4,w5,w6,w7,Zbs,cpT,show z2H []=[] from rfl,zH];rw[zj z7C.eq_1];simp[zX,zg,agC,a1,a2,b1,b2,c1,c2,d1,d2,e1,e2,f1,f2,g1,g2,w1,w2,w3,w4,w5,w6,w7,Zbs,cpT,show z2H []=[] from rfl,zH];rw[zj z7C.eq_1];simp[zX,zg,agC,a1,a2,b1,b2,c1,c2,d1,d2,e1,e2,f1,f2,g1,g2,w1,w2,w3,w4,w5,w6,w7,Zbs,cpT,show z2H []=[] from rfl,zH];rw[zj z7C.eq_1];simp[zX,zg,agC,a1,a2,b1,b2,c1,c2,d1,d2,e1,e2,f1,f2,g1,g2,w1,w2,w3,w4,w5,w6,w7,Zbs,cpT,show z2H []=[] from rfl,zH];rw[zj z7C.eq_1];simp[zX,zg,agC,a1,a2,b1,b2,c1,c2,d1,d2,e1,e2,f1,f2,g1,g2,w1,w2,w3,w4,w5,w6,w7,Zbs,cpT,show z2H []=[] from rfl,zH]
 ·have i1:z2H ins≠[]:=by simpa [z2H]using hi
  simp[z2v,snC,agC,zg,Zbn,Zbs,cpT,hi,i1,i2,tk];rw[zj z7C.eq_1];simp[zX,zg,agC,a1,a2,b1,b2,c1,c2,d1,d2,e1,e2,f1,f2,g1,g2,w1,w2,w3,w4,w5,w6,w7,Zbs,cpT,hi,i1,i2,tk,zH];rw[zj z7C.eq_1];simp[zX,zg,agC,a1,a2,b1,b2,c1,c2,d1,d2,e1,e2,f1,f2,g1,g2,w1,w2,w3,w4,w5,w6,w7,Zbs,cpT,hi,i1,i2,tk,zH];rw[zj z7C.eq_1];simp[zX,zg,agC,a1,a2,b1,b2,c1,c2,d1,d2,e1,e2,f1,f2,g1,g2,w1,w2,w3,w4,w5,w6,w7,Zbs,cpT,hi,i1,i2,tk,zH];rw[zj z7C.eq_1];simp[zX,zg,agC,a1,a2,b1,b2,c1,c2,d1,d2,e1,e2,f1,f2,g1,g2,w1,w2,w3,w4,w5,w6,w7,Zbs,cpT,hi,i1,i2,tk,zH];rw[zj z7C.eq_1];simp[zX,zg,agC,a1,a2,b1,b2,c1,c2,d1,d2,e1,e2,f1,f2,g1,g2,w1,w2,w3,w4,w5,w6,w7,Zbs,cpT,hi,i1,i2,tk,zH];rw[zj z7C.eq_1];simp[zX,zg,agC,a1,a2,b1,b2,c1,c2,d1,d2,e1,e2,f1,f2,g1,g2,w1,w2,w3,w4,w5,w6,w7,Zbs,cpT,hi,i1,i2,tk,zH];rw[zj z7C.eq_1];simp[zX,zg,agC,a1,a2,b1,b2,c1,c2,d1,d2,e1,e2,f1,f2,g1,g2,w1,w2,w3,w4,w5,w6,w7,Zbs,cpT,hi,i1,i2,tk,zH];rw[zj z7C.eq_1];simp[zX,zg,agC,a1,a2,b1,b2,c1,c2,d1,d2,e1,e2,f1,f2,g1,g2,w1,w2,w3,w4,w5,w6,w7,Zbs,cpT,hi,i1,i2,tk,zH]
theorem Zeo(t:Int)(l:List AgV)(h0:0<l.length)(hl:l.length<=7)(ins:List z2T)(hil:ins.length<=1000)(h:∀a∈l,a.jg≠[]/\a.jg.length<=8):R L Cs z2u [.a (snC ⟨t,l,ins⟩)] []=some (.w (.a [I t,.slice 0 l.length 7 0 l.length none,Zbs 1 ins]),some { box:=false,esz:=7,rows:=Zbn l,gen:=l.length,fz:=false,ver:=l.length }::cpT ins):=by
 match l,h0,hl,h with
 |[a],_,_,h=>exact ZeR t ins hil a (h a (by simp))
 |[a,b],_,_,h=>exact ZeQ t ins hil a b (h a (by simp)) (h b (by simp))
 |[a,b,c],_,_,h=>exact ZeP t ins hil a b c (h a (by simp)) (h b (by simp)) (h c (by simp))
 |[a,b,c,d],_,_,h=>exact ZeO t ins hil a b c d (h a (by simp)) (h b (by simp)) (h c (by simp)) (h d (by simp))
 |[a,b,c,d,e],_,_,h=>exact ZeN t ins hil a b c d e (h a (by simp)) (h b (by simp)) (h c (by simp)) (h d (by simp)) (h e (by simp))
 |[a,b,c,d,e,f],_,_,h=>exact ZeM t ins hil a b c d e f (h a (by simp)) (h b (by simp)) (h c (by simp)) (h d (by simp)) (h e (by simp)) (h f (by simp))
 |[a,b,c,d,e,f,g],_,_,h=>exact ZeL t ins hil a b c d e f g (h a (by simp)) (h b (by simp)) (h c (by simp)) (h d (by simp)) (h e (by simp)) (h f (by simp)) (h g (by simp))
 |_::_::_::_::_::_::_::_::_,_,hl,_=>simp at hl
def z9Y(m:zD)(x:Spn):Prop:=(0<=x.lane/\x.lane<m.jc.length)/\0<=x.lo/\x.lo<x.hi/\x.hi<=z8 m x.lane
def Zai(a b:Spn):Prop:=a.lane<b.lane\/a.lane=b.lane/\a.hi+1000<=b.lo
structure SeI(m:zD)(l:Nat)(pt:Int)(out:List Spn):Prop where
 ok:∀x∈out,z9Y m x
 ap:out.Pairwise Zai
 up:∀x∈out,x.lane<l\/x.lane=l/\x.hi<=pt/\(x.hi=z8 m l\/x.hi % 1000=0)
 len:(out.length:Int)<=l*1001+pt / 1000
theorem SeI.add{m:zD}{l:Nat}{pt:Int}{out:List Spn}(h:SeI m l pt out)(hl:l<m.jc.length)(h0:0<=pt)(h1:pt<z8 m l)(h2:pt % 1000=0)(hn:∀x∈out,¬(x.lane=l/\x.hi=pt)):SeI m l (pt+1000) (out++[⟨l,pt,min (pt+1000) (z8 m l)⟩]):=by
 refine⟨?_,?_,?_,?_⟩
 ·intro x hx;rcases jr.1 hx with hx|hx
  ·exact h.ok x hx
  ·simp only[jx]at hx;subst hx;exact⟨⟨by simp only;omega,by simp only;omega⟩,by simp only;omega,by simp only;omega,by simp only;omega⟩
 ·rw[jM];refine⟨h.ap,by simp,?_⟩;intro x hx y hy;simp only[jx]at hy;subst hy;have a:=h.up x hx;have b:=hn x hx;have c:=h.ok x hx;rcases a with a |⟨a1,a2,a3⟩
  ·left;simpa using a
  ·right;refine⟨a1,?_⟩;simp only;have:¬x.hi=pt:=fun e=>b ⟨a1,e⟩
   omega
 ·intro x hx;rcases jr.1 hx with hx|hx
  ·have:=h.up x hx;omega
  ·simp only[jx]at hx;subst hx;right;refine⟨by first |rfl |exact hy,Int.min_le_left _ _,?_⟩;show min (pt+1000) (z8 m l)=z8 m l\/min (pt+1000) (z8 m l) % 1000=0;by_cases c:pt+1000<=z8 m l
   ·right;rw[Int.min_eq_left c];omega
   ·left;exact Int.min_eq_right (by omega)
 ·have:=h.len;simp;omega
theorem SeI.grow{m:zD}{l:Nat}{pt:Int}{pre:List Spn}{y:Spn}(h:SeI m l pt (pre++[y]))(hl:l<m.jc.length)(h0:0<=pt)(h1:pt<z8 m l)(h2:pt % 1000=0)(hy:y.lane=l)(hy2:y.hi=pt):SeI m l (pt+1000) (pre++[⟨y.lane,y.lo,min (pt+1000) (z8 m l)⟩]):=by
 have hp:=h.ap;rw[jM]at hp;refine⟨?_,?_,?_,?_⟩
 ·intro x hx;rcases jr.1 hx with hx|hx
  ·exact h.ok x (jW _ hx)
  ·simp only[jx]at hx;subst hx;have c:=h.ok y (by simp);unfold z9Y at c;exact⟨c.1,c.2.1,by simp only;omega,by simp only[hy];omega⟩
 ·rw[jM];refine⟨hp.1,by simp,?_⟩;intro x hx z hz;simp only[jx]at hz;subst hz;exact hp.2.2 x hx y (by simp)
 ·intro x hx;rcases jr.1 hx with hx|hx
  ·have:=h.up x (jW _ hx);omega
  ·simp only[jx]at hx;subst hx;right;refine⟨by first |rfl |exact hy,Int.min_le_left _ _,?_⟩;show min (pt+1000) (z8 m l)=z8 m l\/min (pt+1000) (z8 m l) % 1000=0;by_cases c:pt+1000<=z8 m l
   ·right;rw[Int.min_eq_left c];omega
   ·left;exact Int.min_eq_right (by omega)
 ·have:=h.len;simp at this ⊢;omega
abbrev snM(m:zD)(s:SnV)(seen:List Spn)(v:Nat)(S:Cl)(G:Mem):Mem:=bx 5 (zf m)::bx 3 (snC s)::bx 3 [I 0,.jd,.jd]::bxv v 3 [I s.tick,.je (zWx seen),S]::G
abbrev ptB(out:List Pnt):Option Blk:=some { box:=false,esz:=3,rows:=zWs out,gen:=out.length,fz:=false,ver:=out.length }
abbrev ptS(q:Nat)(out:List Pnt):Cl:=.slice (q+4) out.length 3 0 out.length none
@[simp] theorem Za7(l:List Pnt)(p:Pnt):zWs (l++[p])=zWs l++[zYi p]:=by simp[zWs]
def pbw(n:Nat):Option Blk->Bool
 |some b=>b.below n
 |none=>true
def PB(x:Option Blk):Prop:=∀n,pbw n x=true
theorem Zb{m:zD}{s:SnV}{seen:List Spn}{v q n:Nat}{out:List Pnt}{G N:Mem}{E:Env}(hn:n=G.length+4)(hq:q<G.length)(hG:∀x∈G,PB x)(hE:E.all (fun x=>x.2.below n)=true):jI n E (snM m s seen v (ptS q out) (G++N))=snM m s seen v (ptS q out) G:=by
 subst hn;unfold jI;split
 ·rename_i h;have hN:N=[]:=jK.1 (by simp only[snM,jq,jo]at h;omega);subst hN;simp
 ·rw[if_pos]
  ·simp
  ·rw[hE,kN];have e:List.take (G.length+4) (snM m s seen v (ptS q out) (G++N))=snM m s seen v (ptS q out) G:=by simp
   rw[e];simp[zH,Blk.below,Eng.below,uv,zf,snC];refine⟨by omega,fun x hx=>?_⟩;have:=hG x hx (G.length+4);cases x with
   |none=>rfl
   |some b=>simpa [pbw,Blk.below]using this
theorem ZZ{m:zD}{s:SnV}{seen:List Spn}{v:Nat}{N:Mem}{E:Env}(hE:E.all (fun x=>x.2.below 4)=true):jI 4 E (snM m s seen v .jd N)=snM m s seen v .jd []:=by
 unfold jI;split
 ·rename_i h;have hN:N=[]:=jK.1 (by simp only[snM,jq]at h;omega);subst hN;rfl
 ·rw[if_pos]
  ·simp
  ·rw[hE,kN];simp[zH,Blk.below,Eng.below,uv,zf,snC]
theorem z8I{m:zD}{s:SnV}{seen:List Spn}{v q n:Nat}{out:List Pnt}{G:Mem}{E:Env}(h4:4<=n)(hn:n<=q+4):jI n E (snM m s seen v (ptS q out) G)=snM m s seen v (ptS q out) G:=by
 unfold jI;split
 ·rfl
 ·rw[if_neg];obtain⟨k,rfl⟩:∃k,n=k+4:=⟨n-4,by omega⟩;have hc:¬q+4+1<=k+4:=by omega
  simp[zH,Blk.below,Eng.below,uv,hc]
abbrev ZcC(out:List z2T):Option Blk:=some { box:=false,esz:=4,rows:=z2H out,gen:=out.length,fz:=false,ver:=out.length }
abbrev ZcV(y:z2T):Option Blk:=some { box:=false,esz:=4,rows:=[z29 y],gen:=1,fz:=false,ver:=1 }
abbrev ZbW(q:Nat)(out:List z2T):Cl:=.slice (q+6) out.length 4 0 out.length none
abbrev Zdk(w:Nat)(bs:List AgV):Option Blk:=some { box:=false,esz:=7,rows:=Zbn bs,gen:=bs.length,fz:=false,ver:=w }
abbrev ZbP(m:zD)(s:SnV)(bs:List AgV)(v w:Nat)(S:Cl)(G:Mem):Mem:=bx 5 (zf m)::bx 3 (snC s)::bx 3 [I 0,.jd,.jd]::gb 6::bxv v 3 [I s.tick,.slice 5 bs.length 7 0 bs.length none,S]::Zdk w bs::G
theorem ZeF(out:List z2T):PB (ZcC out):=fun n=>by simp[pbw,Blk.below]
theorem ZeG(v:Nat)(y:z2T):PB (bxv v 4 (z29 y)):=fun n=>by simp[pbw,Blk.below,Eng.below,uv,z29]
theorem ZcT{m:zD}{s:SnV}{bs:List AgV}{v w n:Nat}{S:Cl}{G:Mem}{E:Env}(hn:n=G.length+6):jI n E (ZbP m s bs v w S G)=ZbP m s bs v w S G:=by
 subst hn;unfold jI;rw[if_pos];simp
theorem Zdj{m:zD}{s:SnV}{bs:List AgV}{v w n:Nat}{S:Cl}{G N:Mem}{E:Env}(hn:n=G.length+6)(hS:S=.jd\/∃q out,S=ZbW q out/\q<G.length)(hG:∀x∈G,PB x)(hE:E.all (fun x=>x.2.below n)=true):jI n E (ZbP m s bs v w S (G++N))=ZbP m s bs v w S G:=by
 subst hn;have hGb:∀x∈G,(match x with |some b=>!b.box||b.rows.all fun r=>r.all (Eng.below (G.length+6)) |none=>true)=true:=fun x hx=>by
  have:=hG x hx (G.length+6);cases x with
  |none=>rfl
  |some b=>simpa [pbw,Blk.below]using this
 unfold jI;split
 ·rename_i h;have hN:N=[]:=jK.1 (by simp only[ZbP,jq,jo]at h;omega);subst hN;simp
 ·rw[if_pos]
  ·simp
  ·rw[hE,kN];have e:List.take (G.length+6) (ZbP m s bs v w S (G++N))=ZbP m s bs v w S G:=by simp
   rw[e];rcases hS with rfl |⟨q,out,rfl,hq⟩
   ·simp[zH,Blk.below,Eng.below,uv,zf,snC];exact hGb
   ·simp[zH,Blk.below,Eng.below,uv,zf,snC];refine⟨by omega,hGb⟩
theorem ZcJ{m:zD}{s:SnV}{bs:List AgV}{v w q n:Nat}{out:List z2T}{G:Mem}{E:Env}(h6:6<=n)(hn:n<=q+6):jI n E (ZbP m s bs v w (ZbW q out) G)=ZbP m s bs v w (ZbW q out) G:=by
 unfold jI;split
 ·rfl
 ·rw[if_neg];obtain⟨k,rfl⟩:∃k,n=k+6:=⟨n-6,by omega⟩;have hc:¬q+6+1<=k+6:=by omega
  simp[zH,Blk.below,Eng.below,uv,hc]
inductive ZbY (n0:Nat):List z2T->Cl->Mem->Prop
 |nil {G:Mem} (hG:∀x∈G,PB x) (h:n0=G.length+6):ZbY n0 [] .jd G
 |own (q:Nat) {out:List z2T} {G:Mem} (hq:G[q]?=some (ZcC out)) (hG:∀x∈G,PB x) (hn:n0=G.length+6\/6<=n0/\n0<=q+6):ZbY n0 out (ZbW q out) G
theorem ZbY.six{n0:Nat}{out:List z2T}{S:Cl}{G:Mem}(h:ZbY n0 out S G):6<=n0:=by
 cases h with
 |nil _ h=>omega
 |own _ _ _ h=>omega
theorem ZbY.same{n0:Nat}{out:List z2T}{S:Cl}{G:Mem}(h:ZbY n0 out S G){m:zD}{s:SnV}{bs:List AgV}{v w:Nat}{E:Env}:jI n0 E (ZbP m s bs v w S G)=ZbP m s bs v w S G:=by
 cases h with
 |nil _ h=>exact ZcT h
 |own q _ _ h =>
  rcases h with h|h
  ·exact ZcT h
  ·exact ZcJ h.1 h.2
abbrev ZbL(ke:List Int)(i z:Nat):Env:=[(13,.w (W z)),(2,.w (.c (.je (zu ke)))),(6,.w (Pt 2)),(10,.w (Pt 4)),(3,.w (Pt 0)),(4,.w (Pt 1)),(11,.w (W i))]
theorem ZcP(ke:List Int)(i z:Nat){n:Nat}(hn:6<=n):(ZbL ke i z).all (fun x=>x.2.below n)=true:=by
 simp[AV.below,WV.below,WV.cells,Eng.below,uv];refine⟨?_,?_,?_,?_⟩<;>first |omega |exact decide_eq_true (by omega)
structure ZeW(m:zD)(s:SnV)(i z:Nat)(a b:AgV)(p:Bool)(x:z2T):Prop where
 there:R L Cs z3I [.a (snC s),W i] []=some (.w (Bo true),[])
 pres:R L Cs z3B [.a (zf m),.a (agC a),.a (agC b),W z] []=some (.w (Bo p),[])
 stay:∃(y:z2T) (w:Bool),R L Cs Zb2 [.c (.je (z2H s.ins)),W i,W z] []=some (.t [.a (z29 y),Bo w],[])/\(w=true->x=y)/\(w=false->∃r,R L Cs z3M [.a (zf m),.a (agC a),W z,W s.tick] []=some (.w (W r),[])/\x=⟨i,z,s.tick,r⟩)
theorem room32{n:Nat}(h:n<=1000):(n+1)*32<=140737488355328:=by omega
theorem ZdP{m:zD}{s:SnV}{bs:List AgV}{i z:Nat}(hi:i<s.agents.length)(hb:i<bs.length)(vR:s.agents.length<=8)(hbl:bs.length=s.agents.length)(hz:z<m.kh.length)(hzn:m.kh.length<=100){x:z2T}(hC:ZeW m s i z s.agents[i] bs[i] false x)(ke:List Int){n0 v w:Nat}{out:List z2T}{S:Cl}{G:Mem}(hS:ZbY n0 out S G) :
  Y L Cs zK (some [13,2,6,10,3,4,11]) n0 (ZbL ke i z) (ZbP m s bs v w S G)=Y L Cs zK (some [13,2,6,10,3,4,11]) n0 (ZbL ke i (z+1)) (ZbP m s bs v w S G):=by
 have hT:=hC.there;have hP:=hC.pres;have hw:=zB (i:=z) (by omega);have hcz:(z:Int)<m.kh.length:=by omega
 have hci:(i:Int)<s.agents.length:=by omega
 have hcb:(i:Int)<bs.length:=by omega
 have hD:=@ZbY.same n0 out S G hS m s bs v w (ZbL ke i (z+1));rw[<-hD];generalize hag:s.agents[i]=a at *;generalize hbg:bs[i]=b at *;simp only[zf,snC,agC]at hT hP;rw[hD];rw[zj zK.eq_1]
 conv=>rhs;rw[<-hD]
 simp[ZbL,ZbP,zf,snC,agC,hi,hb,hci,hcb,hz,hcz,hag,hbg,hT,hP,hw,zg,zH,-jI]
def ZcM(n:Nat)(S:Cl):Prop:=∃q out,S=ZbW q out/\n<=q+6
theorem ZbY.app{n0:Nat}{out:List z2T}{S:Cl}{G N:Mem}(h:ZbY n0 out S G)(hN:∀x∈N,PB x){m:zD}{s:SnV}{bs:List AgV}{v w:Nat}{E:Env}(hE:E.all (fun x=>x.2.below n0)=true):∃G',jI n0 E (ZbP m s bs v w S (G++N))=ZbP m s bs v w S G'/\ZbY n0 out S G':=by
 cases h with
 |nil hG h=>exact⟨G,Zdj h (.inl rfl) hG hE,.nil hG h⟩
 |own q hq hG hn =>
  have hql:q<G.length:=by by_cases c:q<G.length;exact c;rw[jH (by omega)]at hq;cases hq
  rcases hn with hn|hn
  ·exact⟨G,Zdj hn (.inr ⟨q,out,rfl,hql⟩) hG hE,.own q hq hG (.inl hn)⟩
  ·refine⟨G++N,ZcJ hn.1 hn.2,.own q (by rw[jp hql,hq]) ?_ (.inr hn)⟩;intro x hx;rcases jr.1 hx with hx|hx
   ·exact hG x hx
   ·exact hN x hx
theorem Zd5{m:zD}{s:SnV}{bs:List AgV}{i z:Nat}(hi:i<s.agents.length)(hb:i<bs.length)(vR:s.agents.length<=8)(hbl:bs.length=s.agents.length)(hz:z<m.kh.length)(hzn:m.kh.length<=100){x:z2T}(hC:ZeW m s i z s.agents[i] bs[i] true x)(ke:List Int){n0 v w:Nat}{out:List z2T}{S:Cl}{G:Mem}(hS:ZbY n0 out S G)(hol:out.length<=1000) :
  ∃(v':Nat) (S':Cl) (G':Mem),ZbY n0 (out++[x]) S' G'/\(∀k,ZcM k S->ZcM k S') /\
  Y L Cs zK (some [13,2,6,10,3,4,11]) n0 (ZbL ke i z) (ZbP m s bs v w S G)=Y L Cs zK (some [13,2,6,10,3,4,11]) n0 (ZbL ke i (z+1)) (ZbP m s bs v' w S' G'):=by
 have hT:=hC.there;have hP:=hC.pres;obtain⟨y,ws,hSt,hy1,hy2⟩:=hC.stay;have hw:=zB (i:=z) (by omega);have hcz:(z:Int)<m.kh.length:=by omega
 have hci:(i:Int)<s.agents.length:=by omega
 have hcb:(i:Int)<bs.length:=by omega
 have hsix:=hS.six;have jX:=room32 hol;generalize hag:s.agents[i]=a at *;generalize hbg:bs[i]=b at *;simp only[zf,snC,agC]at hT hP;have htk:(z2H out).take out.length=z2H out:=jC (by simp);have hsn:=z5U out x;have hb1:∀y:z2T,PB (ZcV y):=fun y n=>by simp[pbw,Blk.below]
 have hE1:∀(x:Option Blk) (N:Mem),(G++x::N)[G.length]?=some x:=fun x N=>by simp
 have hE2:∀(x y:Option Blk) (N:Mem),(G++x::y::N)[G.length+1]?=some y:=fun x y N=>by simp
 have hEs:∀(x y:Option Blk) (N:Mem),(G++x::N).set G.length y=G++y::N:=fun x y N=>by rw[kd _ _ (jk _)];simp
 cases hS with
 |nil hG hn =>
  subst hn;have fin:∀u:Nat,ZbY (G.length+6) ([]++[x]) (ZbW (G.length+2) [x]) (G++[bxv u 4 (z29 x),ZcV x,ZcC [x]]):=fun u=>by
   refine .own (G.length+2) (by simp) ?_ (.inr ⟨by omega,by omega⟩);intro y hy;rcases jr.1 hy with hy|hy
   ·exact hG y hy
   ·simp only[jD,kW,or_false]at hy;rcases hy with rfl|rfl|rfl
    ·exact ZeG _ _
    ·exact hb1 _
    ·exact ZeF _
  cases ws with
  |true =>
   obtain rfl:=hy1 rfl;refine⟨v+1,_,_,fin 1,fun k ⟨_,_,e,_⟩=>absurd e (by simp),?_⟩;have key:Y L Cs zK (some [13,2,6,10,3,4,11]) (G.length+6) (ZbL ke i z) (ZbP m s bs v w .jd G)=Y L Cs zK (some [13,2,6,10,3,4,11]) (G.length+6) (ZbL ke i (z+1)) (jI (G.length+6) (ZbL ke i (z+1)) (ZbP m s bs (v+1) w (.slice (G.length+2+6) 1 4 0 1 none) (G++[bxv 1 4 (z29 x),ZcV x,ZcV x]))):=by
    rw[zj zK.eq_1];simp (maxSteps:=1000000) [ZbL,ZbP,zf,snC,agC,z29,hi,hb,hci,hcb,hz,hcz,hag,hbg,hT,hP,hSt,hw,hE1,hE2,hEs,zg,zH,-jI];rfl
   exact key.trans (congrArg _ (ZcJ (q:=G.length+2) (out:=[_]) (by omega) (by omega)))
  |false =>
   obtain⟨r,hR,rfl⟩:=hy2 rfl;simp only[zf,agC]at hR;refine⟨v+1,_,_,fin 2,fun k ⟨_,_,e,_⟩=>absurd e (by simp),?_⟩;have key:Y L Cs zK (some [13,2,6,10,3,4,11]) (G.length+6) (ZbL ke i z) (ZbP m s bs v w .jd G)=Y L Cs zK (some [13,2,6,10,3,4,11]) (G.length+6) (ZbL ke i (z+1)) (jI (G.length+6) (ZbL ke i (z+1)) (ZbP m s bs (v+1) w (.slice (G.length+2+6) 1 4 0 1 none) (G++[bxv 2 4 (z29 ⟨i,z,s.tick,r⟩),ZcV ⟨i,z,s.tick,r⟩,ZcV ⟨i,z,s.tick,r⟩]))):=by
    rw[zj zK.eq_1];simp (maxSteps:=1000000) [ZbL,ZbP,zf,snC,agC,z29,hi,hb,hci,hcb,hz,hcz,hag,hbg,hT,hP,hSt,hR,hw,hE1,hE2,hEs,zg,zH,-jI];rfl
   exact key.trans (congrArg _ (ZcJ (q:=G.length+2) (out:=[_]) (by omega) (by omega)))
 |own q hq hG hn =>
  have hql:q<G.length:=by by_cases c:q<G.length;exact c;rw[jH (by omega)]at hq;cases hq
  have hq':∀N:Mem,(G++N)[q]?=some (ZcC out):=fun N=>by rw[jp hql,hq]
  have vF:∀(N:Mem) (x:Option Blk),(G++N).set q x=G.set q x++N:=fun N x=>kH _ _ hql
  have fin:ZbY n0 (out++[x]) (ZbW q (out++[x])) (G.set q (ZcC (out++[x]))):=by
   refine .own q (jY hql) ?_ (by simpa using hn);intro y hy;rcases kJ hy with hy|rfl
   ·exact hG y hy
   ·exact ZeF _
  have hPB:∀u:Nat,∀y∈[bxv u 4 (z29 x),ZcV x],PB y:=fun u y hy=>by
   simp only[jD,kW,or_false]at hy;rcases hy with rfl|rfl
   ·exact ZeG _ _
   ·exact hb1 _
  have hkeep:∀(o:List z2T) (k:Nat),ZcM k (ZbW q out)->ZcM k (ZbW q o):=fun o k ⟨q',o',e,h⟩=>⟨q,o,rfl,by simp only[ZbW,Cl.slice.injEq]at e;omega⟩
  simp only[ZcC]at hq';cases ws with
  |true =>
   obtain rfl:=hy1 rfl;have key:Y L Cs zK (some [13,2,6,10,3,4,11]) n0 (ZbL ke i z) (ZbP m s bs v w (ZbW q out) G)=Y L Cs zK (some [13,2,6,10,3,4,11]) n0 (ZbL ke i (z+1)) (jI n0 (ZbL ke i (z+1)) (ZbP m s bs (v+1) w (ZbW q (out++[x])) (G.set q (ZcC (out++[x]))++[bxv 1 4 (z29 x),ZcV x]))):=by
    clear fin hG hn hq;rw[zj zK.eq_1];simp[ZbL,ZbP,zf,snC,agC,z29,hi,hb,hci,hcb,hz,hcz,hag,hbg,hT,hP,hSt,hw,hE1,hE2,hEs,hq',vF,htk,hsn,jX,ZbW,ZcC,ZcV,jo,zg,zH,-jI]
   obtain⟨G',h1,h2⟩:=fin.app (hPB 1) (m:=m) (s:=s) (bs:=bs) (v:=v+1) (w:=w) (ZcP ke i (z+1) hsix);exact⟨v+1,_,G',h2,hkeep _,by rw[key,h1]⟩
  |false =>
   obtain⟨r,hR,rfl⟩:=hy2 rfl;simp only[zf,agC]at hR;have key:Y L Cs zK (some [13,2,6,10,3,4,11]) n0 (ZbL ke i z) (ZbP m s bs v w (ZbW q out) G)=Y L Cs zK (some [13,2,6,10,3,4,11]) n0 (ZbL ke i (z+1)) (jI n0 (ZbL ke i (z+1)) (ZbP m s bs (v+1) w (ZbW q (out++[⟨i,z,s.tick,r⟩])) (G.set q (ZcC (out++[⟨i,z,s.tick,r⟩]))++[bxv 2 4 (z29 ⟨i,z,s.tick,r⟩),ZcV ⟨i,z,s.tick,r⟩]))):=by
    clear fin hG hn hq;rw[zj zK.eq_1];simp[ZbL,ZbP,zf,snC,agC,z29,hi,hb,hci,hcb,hz,hcz,hag,hbg,hT,hP,hSt,hR,hw,hE1,hE2,hEs,hq',vF,htk,hsn,jX,ZbW,ZcC,ZcV,jo,zg,zH,-jI]
   obtain⟨G',h1,h2⟩:=fin.app (hPB 2) (m:=m) (s:=s) (bs:=bs) (v:=v+1) (w:=w) (ZcP ke i (z+1) hsix);exact⟨v+1,_,G',h2,hkeep _,by rw[key,h1]⟩
theorem ZbY.to{n1 n0:Nat}{out:List z2T}{S:Cl}{G:Mem}(h:ZbY n1 out S G)(hk:ZcM n0 S)(h6:6<=n0):ZbY n0 out S G:=by
 obtain⟨q,o,e,hn⟩:=hk;cases h with
 |nil hG h=>exact absurd e (by simp)
 |own q' hq hG hn' =>
  simp only[ZbW,Cl.slice.injEq]at e;exact .own q' hq hG (.inr ⟨h6,by omega⟩)
def ltI(x y:z2T):Prop:=x.qy<y.qy\/x.qy=y.qy/\x.uf<y.uf
structure ZbX(n nz:Nat)(tick:Int)(i z:Nat)(out:List z2T):Prop where
 asc:out.Pairwise ltI
 low:∀x∈out,x.qy<i\/x.qy=i/\x.uf<z
 rng:∀x∈out,0<=x.qy/\x.qy<n/\0<=x.uf/\x.uf<nz
 val:∀x∈out,0<=x.since/\x.since<=tick/\0<=x.qX/\x.qX<=100
 len:out.length<=nz*i+z
theorem ZbX.skip{n nz:Nat}{tick:Int}{i z:Nat}{out:List z2T}(h:ZbX n nz tick i z out):ZbX n nz tick i (z+1) out :=
 ⟨h.asc,fun x hx=>by have:=h.low x hx;omega,h.rng,h.val,by have:=h.len;omega⟩
theorem ZbX.next{n nz:Nat}{tick:Int}{i z:Nat}{out:List z2T}(h:ZbX n nz tick i z out)(hz:z<=nz):ZbX n nz tick (i+1) 0 out :=
 ⟨h.asc,fun x hx=>by have:=h.low x hx;omega,h.rng,h.val,by have:=h.len;rw[Nat.mul_add];omega⟩
theorem ZbX.put{n nz:Nat}{tick:Int}{i z:Nat}{out:List z2T}(h:ZbX n nz tick i z out){x:z2T}(hi:i<n)(hz:z<nz)(h1:x.qy=i)(h2:x.uf=z)(hv:0<=x.since/\x.since<=tick/\0<=x.qX/\x.qX<=100):ZbX n nz tick i (z+1) (out++[x]):=by
 refine⟨?_,?_,?_,?_,by have:=h.len;simp;omega⟩
 ·rw[jM];refine⟨h.asc,by simp,fun a ha b hb=>?_⟩;simp only[jx]at hb;subst hb;have:=h.low a ha;unfold ltI;omega
 ·intro y hy;rcases jr.1 hy with hy|hy
  ·have:=h.low y hy;omega
  ·simp only[jx]at hy;subst hy;omega
 ·intro y hy;rcases jr.1 hy with hy|hy
  ·exact h.rng y hy
  ·simp only[jx]at hy;subst hy;omega
 ·intro y hy;rcases jr.1 hy with hy|hy
  ·exact h.val y hy
  ·simp only[jx]at hy;subst hy;exact hv
theorem Zej{m:zD}{s:SnV}(h:z31 m s=0):∀x∈s.ins,0<=x.since/\x.since<=s.tick/\0<=x.qX/\x.qX<=100:=by
 intro x hx;unfold z31 at h;split at h
 ·exact absurd h (by decide)
 ·split at h
  ·exact absurd h (by decide)
  ·split at h
   ·exact absurd h (by decide)
   ·rename_i hn;have:¬zIY s.tick x=true:=fun hb=>hn (kM.2 ⟨x,hx,hb⟩)
    unfold zIY at this;simp at this;omega
theorem Zer{m:zD}{zs:List Zon}{ss:List Sgn}(hF:z7y m zs ss){s:SnV}(hs:KSn m s)(hc:z31 m s=0)(i z:Nat)(hi:i<s.agents.length)(hz:z<zs.length){b:AgV}(hb:WAg m b)(ht:thA s.tick s.agents[i]=true) :
  ∃x:z2T,ZeW m s i z s.agents[i] b (Zb7 m zs s.agents[i] b z) x/\x.qy=i/\x.uf=z/\(0<=x.since/\x.since<=s.tick/\0<=x.qX/\x.qX<=100):=by
 have ha:=hs.ags _ (jb hi);have hT:=z56 s i hi;rw[ht]at hT;have hP:=z4G hF ha hb z;have hS:=Zdi s.ins hs.ins i z;obtain⟨r,hr,hR⟩:=z7f hF ha z hz s.tick hs.tick.1;cases hq:ZdS s.ins i z with
 |none =>
  rw[hq]at hS;exact⟨⟨i,z,s.tick,r⟩,⟨hT,hP,⟨_,_,hS,fun h=>absurd h (by simp),fun _=>⟨r,hR,rfl⟩⟩⟩,rfl,rfl,hs.tick.1,ko _,hr.1,hr.2⟩
 |some k =>
  rw[hq]at hS;obtain⟨hk,hp,_⟩:=jP.1 hq;have e:Zdu s.ins i z=s.ins[k]:=by unfold Zdu;rw[hq];simp[hk]
  unfold Zc7 at hp;simp only[jh,decide_eq_true_eq]at hp;exact⟨Zdu s.ins i z,⟨hT,hP,⟨_,_,hS,fun _=>rfl,fun h=>absurd h (by simp)⟩⟩,by rw[e];exact hp.1,by rw[e];exact hp.2,by rw[e];exact Zej hc _ (jb hk)⟩
theorem ZdQ{m:zD}{zs:List Zon}{ss:List Sgn}(hF:z7y m zs ss){s:SnV}(hs:KSn m s)(hc:z31 m s=0)(hl:s.agents.length<=7){bs:List AgV}{i:Nat}(hi:i<s.agents.length)(hbl:bs.length=s.agents.length)(hb:i<bs.length)(hw:WAg m bs[i])(ht:thA s.tick s.agents[i]=true)(ke:List Int)(n0 w:Nat) :
  ∀(f z:Nat) (v:Nat) (out:List z2T) (S:Cl) (G:Mem),z+f=m.kh.length->ZbY n0 out S G->ZbX s.agents.length m.kh.length s.tick i z out->∃(v':Nat) (qV:List z2T) (S':Cl) (G':Mem),ZbY n0 qV S' G'/\(∀k,ZcM k S->ZcM k S')/\ZbX s.agents.length m.kh.length s.tick i m.kh.length qV /\
   Y L Cs zK (some [13,2,6,10,3,4,11]) n0 (ZbL ke i z) (ZbP m s bs v w S G)=some (.exit 2,(68,.w (Bo false))::ZbL ke i m.kh.length,ZbP m s bs v' w S' G'):=by
 have hzz:=hF.full.zd.z;have hzn:m.kh.length=zs.length:=by rw[hzz];simp
 have hz2:=hF.zn2;intro f;induction f with
 |zero =>
  intro z v out S G hz hS hO;obtain rfl:z=m.kh.length:=by omega
  refine⟨v,out,S,G,hS,fun _ h=>h,hO,?_⟩;rw[zj zK.eq_1];simp[ZbL,ZbP,zf]
 |succ f ih =>
  intro z v out S G hz hS hO;obtain⟨x,hC,x1,x2,x3⟩:=Zer hF hs hc i z hi (by omega) hw ht;cases hp:Zb7 m zs s.agents[i] bs[i] z with
  |false =>
   rw[hp]at hC;rw[ZdP hi hb (by omega) hbl (by omega) (by omega) hC ke hS];exact ih (z+1) v out S G (by omega) hS hO.skip
  |true =>
   rw[hp]at hC;have hlen:=hO.len;have hmul:m.kh.length*i<=2*7:=ux (by omega) (by omega);obtain⟨v1,S1,G1,g1,g2,g3⟩:=Zd5 hi hb (by omega) hbl (by omega) (by omega) hC ke (v:=v) (w:=w) hS (by omega);obtain⟨v2,uX,S2,G2,k1,k2,k3,k4⟩:=ih (z+1) v1 (out++[x]) S1 G1 (by omega) g1 (hO.put hi (by omega) x1 x2 x3);exact⟨v2,uX,S2,G2,k1,fun k h=>k2 k (g2 k h),k3,g3.trans k4⟩
abbrev ZcO(ke:List Int)(i:Nat):Env:=[(6,.w (Pt 2)),(2,.w (.c (.je (zu ke)))),(10,.w (Pt 4)),(3,.w (Pt 0)),(4,.w (Pt 1)),(11,.w (W i))]
theorem Zdv(bs:List AgV)(i:Nat)(b:AgV):(Zbn bs).set i (agC b)=Zbn (bs.set i b):=by simp[Zbn,vT]
theorem ZdR{m:zD}{s:SnV}{bs:List AgV}{i:Nat}(hi:i<s.agents.length)(ht:thA s.tick s.agents[i]=false)(ke:List Int)(n0 v w:Nat)(S:Cl)(G:Mem) :
  Y L Cs zK (some [13,2,6,10,3,4,11]) n0 (ZbL ke i 0) (ZbP m s bs v w S G)=some (.exit 2,(68,.w (Bo false))::ZbL ke i 0,ZbP m s bs v w S G):=by
 have hT:=z56 s i hi;rw[ht]at hT;simp only[snC]at hT;rw[zj zK.eq_1];by_cases hz:0<m.kh.length
 ·have hz':(0:Int)<m.kh.length:=by omega
  simp[ZbL,ZbP,zf,snC,hT,hz,hz',zg,zH,-jI]
 ·have hz':¬(0:Int)<m.kh.length:=by omega
  simp[ZbL,ZbP,zf,snC,hT,hz,hz',zg,zH,-jI]
theorem Zd6{m:zD}{zs:List Zon}{ss:List Sgn}(hF:z7y m zs ss){s:SnV}(hs:KSn m s)(hc:z31 m s=0)(hl:s.agents.length<=7){bs:List AgV}{i:Nat}(hi:i<s.agents.length)(hbl:bs.length=s.agents.length)(hb:i<bs.length)(hw:WAg m bs[i])(ke:List Int)(n0 w:Nat)(v:Nat)(out:List z2T)(S:Cl)(G:Mem)(hS:ZbY n0 out S G)(hO:ZbX s.agents.length m.kh.length s.tick i 0 out) :
  ∃(z' v':Nat) (qV:List z2T) (S':Cl) (G':Mem),ZbY n0 qV S' G'/\(∀k,ZcM k S->ZcM k S')/\ZbX s.agents.length m.kh.length s.tick (i+1) 0 qV /\
   Y L Cs zK (some [13,2,6,10,3,4,11]) n0 (ZbL ke i 0) (ZbP m s bs v w S G)=some (.exit 2,(68,.w (Bo false))::ZbL ke i z',ZbP m s bs v' w S' G'):=by
 cases ht:thA s.tick s.agents[i]with
 |false=>exact⟨0,v,out,S,G,hS,fun _ h=>h,hO.next (by omega),ZdR hi ht ke n0 v w S G⟩
 |true =>
  obtain⟨v',qV,S',G',h1,h2,h3,h4⟩:=ZdQ hF hs hc hl hi hbl hb hw ht ke n0 w m.kh.length 0 v out S G (by omega) hS hO;exact⟨_,v',qV,S',G',h1,h2,h3.next (by omega),h4⟩
theorem ZdN{m:zD}{zs:List Zon}{ss:List Sgn}(hF:z7y m zs ss){s:SnV}(hs:KSn m s)(hc:z31 m s=0)(hl:s.agents.length<=7){bs:List AgV}{i:Nat}(hi:i<s.agents.length)(hbl:bs.length=s.agents.length)(ke:List Int)(hin:∀a∈ke,zk0 a)(n0 v w:Nat)(out:List z2T)(S:Cl)(G:Mem)(hS:ZbY n0 out S G)(hO:ZbX s.agents.length m.kh.length s.tick i 0 out) :
  ∃(b:AgV) (v':Nat) (qV:List z2T) (S':Cl) (G':Mem),MvS m zs ss s.tick (ke.getD i 0) s.agents[i] b/\ZbY n0 qV S' G'/\ZbX s.agents.length m.kh.length s.tick (i+1) 0 qV /\
   Y L Cs Zbw (some [6,2,10,3,4,11]) n0 (ZcO ke i) (ZbP m s bs v w S G)=Y L Cs Zbw (some [6,2,10,3,4,11]) n0 (ZcO ke (i+1)) (ZbP m s (bs.set i b) v' (w+1) S' G'):=by
 have Ce:zk0 (ke.getD i 0):=by
  rw[jm];by_cases c:i<ke.length
  ·simp[c];exact hin _ (jb c)
  ·simp[c];unfold zk0;omega
 obtain⟨b,hm,hR⟩:=ZeC hF.full hs hc i hi (ke.getD i 0) Ce;have hbs:i<(bs.set i b).length:=by simp;omega
 have hbl2:(bs.set i b).length=s.agents.length:=by simpa using hbl
 have h1:ZbY (G.length+6) out S G:=by
  cases hS with
  |nil hG h=>exact .nil hG rfl
  |own q hq hG hn=>exact .own q hq hG (.inl rfl)
 obtain⟨z',v',qV,S',G',g1,g2,g3,g4⟩:=Zd6 hF hs hc hl hi hbl2 hbs (by simp;exact hm.wag) ke (G.length+6) (w+1) v out S G h1 hO;have g5:ZbY n0 qV S' G':=by
  cases hS with
  |nil hG h=>rw[h];exact g1
  |own q hq hG hn =>
   rcases hn with hn|hn
   ·rw[hn];exact g1
   ·exact g1.to (g2 n0 ⟨q,out,rfl,hn.2⟩) hn.1
 have hD:=@ZbY.same n0 qV S' G' g5 m s (bs.set i b) v' (w+1) (ZcO ke (i+1));refine⟨b,v',qV,S',G',hm,g5,g3,?_⟩;have hw:=zB (i:=i) (by omega);have hci:(i:Int)<s.agents.length:=by omega
 have hcb:(i:Int)<bs.length:=by omega
 have hib:i<bs.length:=by omega
 have hrs:=Zdv bs i b;clear hO h1 g1 g2 g3 g5 hS hm;simp only[zf,snC]at hR
 conv=>rhs;rw[<-hD]
 clear hD;have hD0:=ZcT (m:=m) (s:=s) (bs:=bs.set i b) (v:=v) (w:=w+1) (n:=G.length+6) (S:=S) (G:=G) (E:=ZbL ke i 0) rfl;have e6:G.length+1+1+1+1+1+1=G.length+6:=rfl;simp only[ZbL,ZbP,zf,snC,Zdk,uj,ji]at g4 hD0;rw[zj Zbw.eq_1];by_cases c:i<ke.length
 ·have e:ke.getD i 0=ke[i]:=by simp[c]
  have c':(i:Int)<ke.length:=by omega
  rw[e]at hR;simp only[agC]at hrs hR;simp[ZcO,ZbP,zf,snC,agC,hi,hci,hib,hcb,c,c',hR,hrs,hw,e6,hD0,g4,Zdk,uj,zg,zH,-jI]
 ·have e:ke.getD i 0=0:=by simp[c]
  have c':¬(i:Int)<ke.length:=by omega
  rw[e]at hR;simp only[agC]at hrs hR;simp[ZcO,ZbP,zf,snC,agC,hi,hci,hib,hcb,c,c',hR,hrs,hw,e6,hD0,g4,Zdk,uj,zg,zH,-jI]
theorem ZdO{m:zD}{zs:List Zon}{ss:List Sgn}(hF:z7y m zs ss){s:SnV}(hs:KSn m s)(hc:z31 m s=0)(hl:s.agents.length<=7)(ke:List Int)(hin:∀a∈ke,zk0 a)(n0:Nat):∀(f i v w:Nat) (bs:List AgV) (out:List z2T) (S:Cl) (G:Mem),i+f=s.agents.length->bs.length=s.agents.length ->
  (∀(j:Nat) (h1:j<s.agents.length) (h2:j<bs.length),j<i->MvS m zs ss s.tick (ke.getD j 0) s.agents[j] bs[j])->ZbY n0 out S G->ZbX s.agents.length m.kh.length s.tick i 0 out ->
  ∃(bs':List AgV) (v' w':Nat) (qV:List z2T) (S':Cl) (G':Mem),bs'.length=s.agents.length/\(∀(j:Nat) (h1:j<s.agents.length) (h2:j<bs'.length),MvS m zs ss s.tick (ke.getD j 0) s.agents[j] bs'[j])/\ZbY n0 qV S' G'/\ZbX s.agents.length m.kh.length s.tick s.agents.length 0 qV /\
   Y L Cs Zbw (some [6,2,10,3,4,11]) n0 (ZcO ke i) (ZbP m s bs v w S G)=some (.exit 0,[(39,.w (Bo false)),(2,.w (.c (.je (zu ke)))),(6,.w (Pt 2)),(10,.w (Pt 4)),(3,.w (Pt 0)),(4,.w (Pt 1)),(11,.w (W s.agents.length))],ZbP m s bs' v' w' S' G'):=by
 intro f;induction f with
 |zero =>
  intro i v w bs out S G hi hbl hM hS hO;obtain rfl:i=s.agents.length:=by omega
  refine⟨bs,v,w,out,S,G,hbl,fun j h1 h2=>hM j h1 h2 h1,hS,hO,?_⟩;rw[zj Zbw.eq_1];simp[ZcO,ZbP,snC]
 |succ f ih =>
  intro i v w bs out S G hi hbl hM hS hO;obtain⟨b,v1,out1,S1,G1,g1,g2,g3,g4⟩:=ZdN hF hs hc hl (show i<s.agents.length by omega) hbl ke hin n0 v w out S G hS hO;rw[g4];refine ih (i+1) v1 (w+1) (bs.set i b) out1 S1 G1 (by omega) (by simpa using hbl) (fun j h1 h2 hj=>?_) g2 g3;by_cases c:j=i
  ·subst c;simpa using g1
  ·rw[List.getElem_set_ne (by omega)];exact hM j h1 (by simpa using h2) (by omega)
end Go.TrRun
