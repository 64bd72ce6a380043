/- This text proves what functions of this seat's program answer, run by the evaluator; no condition. -/
import Derived.Test.YtjmaghejnagjeaaGreatTTx3
import Derived.WalkSmall
set_option maxHeartbeats 8000000
set_option linter.unusedVariables false
set_option linter.unusedSimpArgs false
set_option linter.unusedSectionVars false
/- Plain laws of cars, ramps, stops and profiles: no program in sight. -/
namespace Go.PlanLaw
structure Car where
 len:Int
 qN:Int
 k8:Int
 vH:Int
 AK:Int
def Car.ok(c:Car):Prop:=300<=c.len/\c.len<=20000/\1<=c.qN/\c.qN<=30/\20<=c.k8/\c.k8<=90/\5<=c.vH/\c.vH<=120/\0<=c.AK/\c.AK<=5
instance(c:Car):Decidable c.ok:=by unfold Car.ok;infer_instance
def zVH(c:Car)(x:Int):Int:=max (-c.k8) (min x c.qN)
def zFX(c:Car)(last w:Int):Int:=max (zVH c last-c.vH) (min (zVH c w) (zVH c last+c.vH))
def doV(v x:Int):Int:=min (max (v+max (-2000) (min x 2000)) 0) 2000
theorem zG1(v x:Int):0<=doV v x/\doV v x<=2000:=by unfold doV;omega
theorem zG2{c:Car}(h:c.ok)(x:Int):-c.k8<=zVH c x/\zVH c x<=c.qN:=by
 obtain⟨h1,h2,h3,h4,h5,h6,h7,h8,h9,h10⟩:=h;unfold zVH;omega
theorem zNt{c:Car}(h:c.ok)(x w:Int):-c.k8<=zFX c x w/\zFX c x w<=c.qN:=by
 have h1:=zG2 h x;have h2:=zG2 h w;obtain⟨h1,h2,h3,h4,h5,h6,h7,h8,h9,h10⟩:=h;unfold zFX;omega
theorem zG3{c:Car}(h:c.ok){x:Int}(h1:-c.k8<=x)(h2:x<=c.qN):zVH c x=x:=by unfold zVH;omega
def zGI(c:Car):Nat->Bool->Int->Int->Option (List Int)
 |0,_,_,_=>none
 |m+1,f,last,v=>if f=true\/0<v\/0<last then(zGI c m false (zFX c last (-c.k8)) (doV v (zFX c last (-c.k8)))).map (zFX c last (-c.k8) :: ·) else some []
theorem zF7(c:Car)(m:Nat)(f:Bool)(last v:Int):zGI c (m+1) f last v=if(f=true\/0<v\/0<last) then(zGI c m false (zFX c last (-c.k8)) (doV v (zFX c last (-c.k8)))).map (zFX c last (-c.k8) :: ·) else some []:=rfl
theorem zG8(v x:Int)(hv:0<=v/\v<=2000)(hx:-100<=x/\x<=100):doV v x=max 0 (min 2000 (v+x)):=by unfold doV;omega
theorem zGx{c:Car}(h:c.ok)(last:Int):zFX c last (-c.k8)=max (zVH c last-c.vH) (-c.k8):=by
 obtain⟨h1,h2,h3,h4,h5,h6,h7,h8,h9,h10⟩:=h;unfold zFX zVH;omega
theorem zGM{c:Car}{last:Int}(h:c.ok)(h1:-c.k8<=last)(h2:last<=c.qN):zFX c last (-c.k8)=max (last-c.vH) (-c.k8):=by
 rw[zGx h last,zG3 h h1 h2]
theorem ends2{c:Car}(h:c.ok):∀(m:Nat) (last v:Int),-c.k8<=last->last<=-20->0<=v->v<=2000->v<=20*m->∃l,zGI c (m+1) false last v=some l/\l.length<=m
 |0,last,v,h1,h2,h3,h4,h5=>⟨[],by
   rw[zF7,if_neg (by simp;omega)],by simp⟩
 |m+1,last,v,h1,h2,h3,h4,h5=>by
  have AC:=h;obtain⟨q1,q2,q3,q4,q5,q6,q7,q8,q9,q10⟩:=AC;rw[zF7];split
  ·have hr:=zGM h h1 (by omega:last<=c.qN);have hd:=zG8 v (zFX c last (-c.k8)) ⟨h3,h4⟩ (by omega);obtain⟨l,hl,hn⟩:=ends2 h m (zFX c last (-c.k8)) (doV v (zFX c last (-c.k8))) (by omega) (by omega) (by omega) (by omega) (by omega);exact⟨_::l,by rw[hl];rfl,by simp;omega⟩
  ·exact⟨[],rfl,by simp⟩
theorem ends1{c:Car}(h:c.ok):∀(t:Nat) (last v:Int),-c.k8<=last->last<=c.qN->last<=5*t-20->0<=v->v<=2000->∃l,zGI c (101+t) false last v=some l/\l.length<=100+t
 |0,last,v,h1,h2,h3,h4,h5=>ends2 h 100 last v h1 (by omega) h4 h5 (by omega)
 |t+1,last,v,h1,h2,h3,h4,h5=>by
  have AC:=h;obtain⟨q1,q2,q3,q4,q5,q6,q7,q8,q9,q10⟩:=AC;rw[show 101+(t+1)=(101+t)+1 by omega,zF7];split
  ·have hr:=zGM h h1 h2;have hd:=zG1 v (zFX c last (-c.k8));obtain⟨l,hl,hn⟩:=ends1 h t (zFX c last (-c.k8)) (doV v (zFX c last (-c.k8))) (by omega) (by omega) (by omega) hd.1 hd.2;exact⟨_::l,by rw[hl];rfl,by simp;omega⟩
  ·exact⟨[],rfl,by simp⟩
theorem ends{c:Car}(h:c.ok)(last v:Int)(h4:0<=v)(h5:v<=2000):∃l,zGI c 111 true last v=some l/\0<l.length/\l.length<=110:=by
 have AC:=h;obtain⟨q1,q2,q3,q4,q5,q6,q7,q8,q9,q10⟩:=AC;have hr:=zGx h last;have hcl:=zG2 h last;have hd:=zG1 v (zFX c last (-c.k8));obtain⟨l,hl,hn⟩:=ends1 h 9 (zFX c last (-c.k8)) (doV v (zFX c last (-c.k8))) (by omega) (by omega) (by omega) hd.1 hd.2;refine⟨_::l,by rw[show 111=(101+9)+1 from rfl,zF7,if_pos (.inl rfl),hl];rfl,by simp,by simp;omega⟩
def stops(c:Car)(last v:Int):List Int:=(zGI c 111 true last v).getD []
theorem zMs{c:Car}(h:c.ok)(last v:Int)(h4:0<=v)(h5:v<=2000):zGI c 111 true last v=some (stops c last v)/\0<(stops c last v).length/\(stops c last v).length<=110:=by
 obtain⟨l,h1,h2,h3⟩:=ends h last v h4 h5;simp only[stops,h1,qT];exact⟨trivial,h2,h3⟩
def chain(c:Car):Int->List Int->Prop
 |_,[]=>True
 |a,x::xs=>(-c.k8<=x/\x<=c.qN)/\(-c.vH<=x-a/\x-a<=c.vH)/\chain c x xs
def zG0:Int->List Int->Int
 |a,[]=>a
 |_,x::xs=>zG0 x xs
def zHd:Int->List Int->Int
 |v,[]=>v
 |v,x::xs=>zHd (doV v x) xs
structure Drv where
 last:Int
 v:Int
 l:List Int
def Drv.Ar(s:Drv)(a:Int):Drv:=⟨a,doV s.v a,s.l++[a]⟩
def Drv.uG(c:Car)(w:Int):Nat->Drv->Drv
 |0,s=>s
 |n+1,s=>Drv.uG c w n (s.Ar (zFX c s.last w))
def Drv.queue:List Int->Drv->Drv
 |[],s=>s
 |x::xs,s=>Drv.queue xs (s.Ar x)
def zJ2(c:Car)(q:List Int)(last v:Int)(up hold:Nat):List Int :=
 let s:=(((Drv.mk last v []).queue (q.take 5)) |>.uG c c.qN up) |>.uG c 0 hold
 s.l++stops c s.last s.v
def Drv.from(c:Car)(a:Int)(s:Drv):Prop:=chain c a s.l/\s.last=zG0 a s.l/\0<=s.v/\s.v<=2000
theorem Drv.yE{c:Car}{w:Int}:∀{n:Nat} {s:Drv},(Drv.uG c w n s).l.length=s.l.length+n
 |0,s=>rfl
 |n+1,s=>by rw[Drv.uG,Drv.yE];simp[Drv.Ar];omega
theorem Drv.Az:∀{q:List Int} {s:Drv},(Drv.queue q s).l.length=s.l.length+q.length
 |[],s=>rfl
 |x::q,s=>by rw[Drv.queue,Drv.Az];simp[Drv.Ar];omega
theorem Drv.B8:∀{q:List Int} {s:Drv},(Drv.queue q s).l=s.l++q
 |[],s=>by simp[Drv.queue]
 |x::q,s=>by rw[Drv.queue,Drv.B8];simp[Drv.Ar]
def zLD(c:Car)(x:Int):Bool:=!(decide (-c.k8<=x)&&decide (x<=c.qN))
def Ay(c:Car):Int->List Int->Bool
 |_,[]=>false
 |l,x::xs=>!(decide (-c.vH<=x-l)&&decide (x-l<=c.vH))||Ay c x xs
def ue(c:Car)(l:List Int):Int :=
 if ¬c.ok then 2 else if l.length=0 then 6 else if 200<l.length then 5
 else if 0<l.getLastD 0 then 2 else if l.any (zLD c) then 2 else if Ay c (l.headD 0) l then 11 else 0
end Go.PlanLaw
set_option maxRecDepth 10000
namespace Go.TrRun.Pl
open Go Go.Eng Go.PlanLaw
def kT(c:Car):List Cl:=[I c.len,I c.qN,I c.k8,I c.vH,I c.AK]
theorem zF6(x a b:Int):R L Cs zGF [W x,W a,W b] []=some (.w (Bo (decide (a<=x)&&decide (x<=b))),[]):=by
 rw[zUa zGH rfl];by_cases h:a<=x<;>simp[zF3,h]
theorem zGS{c:Car}(h:c.ok):R L Cs zGe [.a (kT c)] []=some (.w (W 0),[]):=by
 obtain⟨h1,h2,h3,h4,h5,h6,h7,h8,h9,h10⟩:=h;rw[zUa zGf rfl];simp[zFN,kT,zF6,h1,h2,h3,h4,h5,h6,h7,h8,h9,h10]
theorem Ak{c:Car}(h:c.ok):R L Cs zFU [.a (kT c)] []=some (.w (W 0),[]):=by
 obtain⟨h1,h2,h3,h4,h5,h6,h7,h8,h9,h10⟩:=h;rw[zUa zFV rfl];simp[zFH,kT,ug.2 h1,ug.2 h2,ug.2 h3,ug.2 h4,ug.2 h5,ug.2 h6,ug.2 h7,ug.2 h8,ug.2 h9,ug.2 h10]
abbrev P0:WV:=.c (.ptr 0 0 0 0)
def Drv.run(s:Drv)(l:List Int):Drv:=⟨zG0 s.last l,zHd s.v l,s.l++l⟩
theorem zOs{l:List Int}{i:Nat}(h:i<l.length):(zu l)[i]?=some [I l[i]]:=by simp[zu,h]
abbrev zKk(c:Car):Blk:={ box:=true,esz:=5,rows:=[kT c],gen:=0,fz:=false,ver:=0 }
abbrev fnB:WV:=.c (.fn zLp [] [.ptr 0 0 0 0])
theorem zOO{c:Car}(hc:c.ok)(x:Int):R L Cs zLp [W x,P0] [some (zKk c)]=some (.w (Bo (zLD c x)),[some (zKk c)]):=by
 obtain⟨h1,h2,h3,h4,h5,h6,h7,h8,h9,h10⟩:=hc;have hw:=kg (-c.k8);rw[zUa zMQ rfl];simp[zGB,kT,hw,zF6,zLD]
theorem zO5{c:Car}(hc:c.ok)(l:List Int)(hl:l.length<=1000):∀(r:List Int) (i:Nat),l.drop i=r->i<=l.length ->
  (r.any (zLD c)=false->∃E',Y L Cs zFZ (some [7,1,0,8]) 1 [(7,.w (W l.length)),(1,.w fnB),(0,.w (.c (.jc (zu l)))),(8,.w (W i))] [some (zKk c)]=some (.exit 0,E',[some (zKk c)])) /\
  (r.any (zLD c)=true->∃k:Nat,Y L Cs zFZ (some [7,1,0,8]) 1 [(7,.w (W l.length)),(1,.w fnB),(0,.w (.c (.jc (zu l)))),(8,.w (W i))] [some (zKk c)]=some (.ret,[(4,.w (W k))],[some (zKk c)])):=by
 intro r;induction r with
 |nil =>
  intro i hd hi;obtain rfl:=zUb hd hi;refine⟨fun _=>⟨_,zhJ (r:=(.exit 0,[(9,.w (Bo false)),(0,.w (.c (.jc (zu l)))),(1,.w fnB),(7,.w (W l.length)),(8,.w (W l.length))],[some (zKk c)])) ?_ (by simp)⟩,fun h=>by simp at h⟩;simp[zFZ]
 |cons x r ih =>
  intro i hd hi;obtain⟨hil,hx,hd'⟩:=zL hd;obtain⟨ih1,ih2⟩:=ih (i+1) hd' hil;have hch:=zOO hc x;have hw:=zB (i:=i) (by omega);have hg:=zOs hil;rw[hx]at hg;by_cases hb:zLD c x=true
  ·refine⟨fun h=>by simp[hb]at h,fun _=>⟨i,zhJ ?_ (by simp)⟩⟩;rw[hb]at hch;simp[zKk,kT]at hch;simp[zFZ,hil,hx,hch,zKk,kT]
  ·have hb:zLD c x=false:=by simpa using hb
   rw[hb]at hch;simp[zKk,kT]at hch;have vz:Y L Cs zFZ (some [7,1,0,8]) 1 [(7,.w (W l.length)),(1,.w fnB),(0,.w (.c (.jc (zu l)))),(8,.w (W i))] [some (zKk c)] =
     Y L Cs zFZ (some [7,1,0,8]) 1 [(7,.w (W l.length)),(1,.w fnB),(0,.w (.c (.jc (zu l)))),(8,.w (W (i+1:Nat)))] [some (zKk c)]:=by
    rw[zrL];simp[zFZ,hil,hx,hch,zKk,kT,hw]
   rw[vz];simp only[uU,hb,qS];exact⟨ih1,ih2⟩
theorem zvV{c:Car}(hc:c.ok)(l:List Int)(hl:l.length<=1000):∃k:Int,R L Cs zK9 [.c (.jc (zu l)),fnB] [some (zKk c)]=some (.w (W k),[some (zKk c)])/\(decide (0<=k)=l.any (zLD c)):=by
 obtain⟨h1,h2⟩:=zO5 hc l hl l 0 rfl (jx _);cases hb:l.any (zLD c)with
 |false =>
  obtain⟨E',hE⟩:=h1 hb;refine⟨-1,?_,by decide⟩;rw[zUa zKx rfl];simp at hE;simp[zF2,hE]
 |true =>
  obtain⟨k,hE⟩:=h2 hb;refine⟨k,?_,by simp⟩;rw[zUa zKx rfl];simp at hE;simp[zF2,hE]
theorem zMN{c:Car}(hc:c.ok)(l:List Int)(hl:l.length<=1000):R L Cs zKQ [.c (.jc (zu l)),fnB] [some (zKk c)]=some (.w (Bo (l.any (zLD c))),[some (zKk c)]):=by
 obtain⟨k,h1,h2⟩:=zvV hc l hl;rw[zUa zKT rfl];simp[zKk,kT]at h1;simp[zF0,h1,h2,zKk,kT]
abbrev zKp(l:List Int):Blk:={ box:=true,esz:=1,rows:=[[.jc (zu l)]],gen:=0,fz:=false,ver:=0 }
theorem zw9{c:Car}(hc:c.ok)(l:List Int)(hl:l.length<=1000)(hr:∀x∈l,-1000<=x/\x<=1000):∀(r:List Int) (i:Nat) (a:Int),-1000<=a/\a<=1000->l.drop i=r->i<=l.length ->
  (Ay c a r=false->∃E',Y L Cs zGw (some [7,44,43,2,45]) 2 [(7,.w (W a)),(44,.w (W l.length)),(43,.w (.c (.jc (zu l)))),(2,.w P0),(45,.w (W i))] [some (zKk c),some (zKp l)]=some (.exit 1,E',[some (zKk c),some (zKp l)])) /\
  (Ay c a r=true->Y L Cs zGw (some [7,44,43,2,45]) 2 [(7,.w (W a)),(44,.w (W l.length)),(43,.w (.c (.jc (zu l)))),(2,.w P0),(45,.w (W i))] [some (zKk c),some (zKp l)]=some (.ret,[(4,.w (W 11))],[some (zKk c),some (zKp l)])):=by
 intro r;have hcc:=hc;obtain⟨q1,q2,q3,q4,q5,q6,q7,q8,q9,q10⟩:=hcc;have hwr:=kg (-c.vH);induction r with
 |nil =>
  intro i a ha hd hi;obtain rfl:=zUb hd hi;refine⟨fun _=>⟨_,zhJ (r:=(.exit 1,[(46,.w (Bo false)),(7,.w (W a)),(2,.w P0),(43,.w (.c (.jc (zu l)))),(44,.w (W l.length)),(45,.w (W l.length))],[some (zKk c),some (zKp l)])) ?_ (by simp)⟩,fun h=>by simp[Ay]at h⟩;simp[zGw]
 |cons x r ih =>
  intro i a ha hd hi;obtain⟨hil,hx,hd'⟩:=zL hd;have hxr:=hr x (by rw[<-hx];exact jf hil);obtain⟨ih1,ih2⟩:=ih (i+1) x hxr hd' hil;have hw:=zB (i:=i) (by omega);have hws:=kg (x-a);have hwi:=zF6 (x-a) (-c.vH) c.vH;by_cases hb:(decide (-c.vH<=x-a)&&decide (x-a<=c.vH))=true
  ·rw[hb]at hwi;have vz:Y L Cs zGw (some [7,44,43,2,45]) 2 [(7,.w (W a)),(44,.w (W l.length)),(43,.w (.c (.jc (zu l)))),(2,.w P0),(45,.w (W i))] [some (zKk c),some (zKp l)] =
     Y L Cs zGw (some [7,44,43,2,45]) 2 [(7,.w (W x)),(44,.w (W l.length)),(43,.w (.c (.jc (zu l)))),(2,.w P0),(45,.w (W (i+1:Nat)))] [some (zKk c),some (zKp l)]:=by
    rw[zrL];simp[zGw,hil,hx,zKk,kT,hw,hws,hwr,hwi]
   rw[vz];simp only[Ay,hb,Bool.not_true,qS];exact⟨ih1,ih2⟩
  ·have hb:(decide (-c.vH<=x-a)&&decide (x-a<=c.vH))=false:=by simpa using hb
   rw[hb]at hwi;refine⟨fun h=>(by simp only[Ay,hb,Bool.not_false,Bool.true_or]at h;cases h),fun _=>zhJ ?_ (by simp)⟩;simp[zGw,hil,hx,zKk,kT,hw,hws,hwr,hwi]
theorem zPK{c:Car}(hc:c.ok)(l:List Int)(hl:l.length<=1000):R L Cs zLZ [.a (kT c),.a [.jc (zu l)]] []=some (.w (W (ue c l)),[]):=by
 have hck:=zGS hc;have hcf:=zMN hc l hl;simp[zKk,kT]at hck hcf;rw[zUa zL3 rfl];cases l with
 |nil=>simp[zGK,kT,hck,ue,hc]
 |cons x r =>
 simp only[zaP]at hcf;have hne:¬((r.length:Int)+1=0):=by omega
 by_cases h200:200<r.length+1
 ·have Bl:(200:Int)<(r.length:Int)+1:=by omega
  simp[zGK,kT,hck,ue,hc,hne,h200,Bl]
 have Bl:¬(200:Int)<(r.length:Int)+1:=by omega
 have uP:∀h,([I x]::zu r)[r.length]'h=[I ((x::r).getLastD 0)]:=by
  intro h;have e:[I x]::zu r=zu (x::r):=rfl;simp only[e,zBd];simp[List.getLastD_eq_getLast?,List.getLast?_eq_getElem?]
 have hw:IntKind.i64.wrap (r.length:Int)=r.length:=zTd _ (by omega) (by omega);simp only[List.getLastD_cons]at uP;have hlt:(r.length:Int)<(r.length:Int)+1:=by omega
 have hF:ue c (x::r)=if 0<r.getLastD x then 2 else if(x::r).any (zLD c)=true then 2 else if Ay c x (x::r)=true then 11 else 0:=by
  unfold ue;rw[if_neg (by simp[hc]),if_neg (by simp),if_neg (by simpa using h200),List.getLastD_cons,List.headD_cons]
 rw[hF];generalize r.getLastD x=z at uP;by_cases hp:0<z
 ·simp[zGK,kT,hck,hne,Bl,hlt,uP,hw,hp]
 have hlen:((r.length:Int)+1)=((x::r).length:Nat):=by simp
 by_cases hb:(x::r).any (zLD c)=true
 ·rw[hb]at hcf;simp only[uU]at hb;simp[zGK,kT,hck,hne,Bl,hlt,uP,hw,hp,hcf,hb]
 ·have hb:(x::r).any (zLD c)=false:=by simpa using hb
  have hr:∀y∈(x::r),-1000<=y/\y<=1000:=by
   intro y hy;have h1:=yw.1 hb y hy;obtain⟨q1,q2,q3,q4,q5,q6,q7,q8,q9,q10⟩:=hc;simp[zLD]at h1;omega
  obtain⟨h1,h2⟩:=zw9 hc (x::r) hl hr (x::r) 0 x (hr x (jo ..)) rfl (jx _);rw[hb]at hcf;cases hs:Ay c x (x::r)with
  |false =>
   obtain⟨E',h1⟩:=h1 hs;simp[zKk,kT,zKp]at h1;simp[zGK,kT,hck,hne,Bl,hlt,uP,hw,hp,hcf,hb,hs,h1]
   |true =>
   have h2:=h2 hs;simp[zKk,kT,zKp]at h2;simp[zGK,kT,hck,hne,Bl,hlt,uP,hw,hp,hcf,hb,hs,h2]
 end Go.TrRun.Pl
namespace Go.TrRun.Pl
open Go Go.Eng Go.PlanLaw
theorem zOl(x n:Int)(hn:0<n):(if x.tmod n<0 then x.tmod n+n else x.tmod n)=x % n:=by
 have h1:=qj x (by omega:n≠0);have h2:=qk x hn;have h3:=Int.tmod_eq_emod (a:=x) (b:=n);split at h3
 ·rw[h3];split<;>omega
 ·have e:(n.natAbs:Int)=n:=by omega
  rw[e]at h3;rw[h3];split<;>omega
theorem zD0(x n:Int)(hn:0<n)(hn':n<=1000000000000):R L Cs zEd [W x,W n] []=some (.w (W (x % n)),[]):=by
 have h0:=zOl x n hn;have h1:=qj x (by omega:n≠0);have h2:=qk x hn;have h3:=Int.tmod_lt_of_pos x hn;have h4:=Int.lt_tmod_of_pos x hn;have hne:n≠0:=by omega
 rw[zUa zEh rfl];by_cases h:x.tmod n<0
 ·rw[if_pos h]at h0;have hw:=kg (x % n);simp[zDP,hne,h,h0,hw]
 ·rw[if_neg h]at h0;simp[zDP,hne,h];exact h0
def Bx(l a b r:Int):Car:=⟨300+l % 4700,1+a % 30,50+b % 41,20+r % 101,0⟩
theorem CD(l a b r:Int):(Bx l a b r).ok:=by
 simp only[Car.ok,Bx];omega
theorem R_made(l a b r:Int):R L Cs zLl [.a [I l,I a,I b,I r]] []=some (.w (.a (kT (Bx l a b r))),[]):=by
 have m1:=zD0 l 4700 (by omega) (by omega);have m2:=zD0 a 30 (by omega) (by omega);have m3:=zD0 b 41 (by omega) (by omega);have m4:=zD0 r 101 (by omega) (by omega);have w1:=kg (300+l % 4700);have w2:=kg (1+a % 30);have w3:=kg (50+b % 41);have w4:=kg (20+r % 101);rw[zUa zLo rfl];simp[zHT,m1,m2,m3,m4,w1,w2,w3,w4,kT,Bx]
theorem C4:R L Cs zF9 [] []=some (.w (Bo true),[]):=zah.2 ⟨200,by kernel_rfl⟩
theorem AE{c:Car}(h:c.ok)(a w:Int):R L Cs zSz [.a (kT c),W a,W w] []=some (.w (W (zFX c a w)),[]):=by
 have hk1:=zG2 h a;have hk2:=zG2 h w;obtain⟨h1,h2,h3,h4,h5,h6,h7,h8,h9,h10⟩:=h;have w0:=kg (-c.k8);have w1:=kg (zVH c a-c.vH);have w2:=kg (zVH c a+c.vH);simp only[zVH]at w1 w2;rw[zUa zSA rfl];simp[zSm,kT,w0,w1,w2,zFX,zVH]
abbrev Pt(k:Nat):WV:=.c (.ptr k 0 0 0)
def BP(c:Car):Int:=if c.ok then 0 else 2
theorem y7(c:Car):R L Cs zGe [.a (kT c)] []=some (.w (W (BP c)),[]):=by
 by_cases h:c.ok
 ·rw[BP,if_pos h];exact zGS h
 rw[BP,if_neg h,zUa zGf rfl];have e:¬(((decide (300<=c.len)&&decide (c.len<=20000))=true)/\((decide (1<=c.qN)&&decide (c.qN<=30))=true)/\((decide (20<=c.k8)&&decide (c.k8<=90))=true)/\((decide (5<=c.vH)&&decide (c.vH<=120))=true)/\((decide (0<=c.AK)&&decide (c.AK<=5))=true)):=by
  intro e;simp only[jg,decide_eq_true_eq]at e;exact h (by simp only[Car.ok];omega)
 have w1:=zF6 c.len 300 20000;have w2:=zF6 c.qN 1 30;have w3:=zF6 c.k8 20 90;have w4:=zF6 c.vH 5 120;have w5:=zF6 c.AK 0 5;generalize (decide (300<=c.len)&&decide (c.len<=20000))=b1 at *;generalize (decide (1<=c.qN)&&decide (c.qN<=30))=b2 at *;generalize (decide (20<=c.k8)&&decide (c.k8<=90))=b3 at *;generalize (decide (5<=c.vH)&&decide (c.vH<=120))=b4 at *;generalize (decide (0<=c.AK)&&decide (c.AK<=5))=b5 at *;cases b1 with
 |false=>simp[zFN,kT,w1]
 |true=>cases b2 with
  |false=>simp[zFN,kT,w1,w2]
  |true=>cases b3 with
   |false=>simp[zFN,kT,w1,w2,w3]
   |true=>cases b4 with
    |false=>simp[zFN,kT,w1,w2,w3,w4]
    |true=>cases b5 with
     |false=>simp[zFN,kT,w1,w2,w3,w4,w5]
     |true=>simp at e
theorem BQ(c:Car)(l:List Int)(hl:l.length<=1000):R L Cs zLZ [.a (kT c),.a [.jc (zu l)]] []=some (.w (W (ue c l)),[]):=by
 by_cases h:c.ok
 ·exact zPK h l hl
 have h1:=y7 c;rw[BP,if_neg h]at h1;simp only[kT]at h1;rw[ue,if_pos h,zUa zL3 rfl];simp[zGK,kT,h1]
def actF(l:List Int)(i:Int):Int:=if l.length=0 then 0 else(l[(max 0 (min i (l.length-1))).toNat]?).getD 0
theorem R_Act(l:List Int)(hl:l.length<=1000)(i:Int):R L Cs zGR [.a [.jc (zu l)],W i] []=some (.w (W (actF l i)),[]):=by
 rw[zUa zGT rfl];by_cases h:l.length=0
 ·have hn:l=[]:=km h;subst hn;simp[zGa,actF]
 ·have h1:¬(l.length:Int)=0:=by omega
  have hb:((l.length:Int)==0)=false:=by simpa using h1
  have hw:=kg ((l.length:Int)-1);have hm:min (max i 0) ((l.length:Int)-1)=max 0 (min i ((l.length:Int)-1)):=by omega
  have hk:(max 0 (min i ((l.length:Int)-1))).toNat<l.length:=by omega
  have hk0:0<=max 0 (min i ((l.length:Int)-1))/\max 0 (min i ((l.length:Int)-1))<l.length:=by omega
  rw[actF,if_neg h];generalize max 0 (min i ((l.length:Int)-1))=m at *;simp[zGa,hb,hw,hm,hk,hk0]
def u5(l:List Int):List Int:=if 1<l.length then l.drop 1 else l
theorem zVy(l:List Int)(hl:l.length<=1000):R L Cs zUj [.c (.jc (zu l))] []=some (.w (.c (sl 0 1 (zu l))),[some (own 1 (zu l))]):=by
 have hr:l.length*8<=140737488355328:=by omega
 have hL:List.lookup zUj Cs=some (1,8,false):=by kernel_rfl
 rw[zrP rfl];simp[vM,hL,zuh,hr]
theorem R_Tail(l:List Int)(hl:l.length<=1000):R L Cs zUW [.a [.jc (zu l)]] []=some (.w (.a [.jc (zu (u5 l))]),[]):=by
 have hc:=zVy (u5 l) (by unfold u5;split<;>first |omega |(simp;omega));rw[zUa zU0 rfl]
 match l,hl,hc with
 |[],hl,hc=>simp[u5]at hc;simp[zUk,u5,zX,zg,hc]
 |[x],hl,hc=>simp[u5]at hc;simp[zUk,u5,zX,zg,hc]
 |x::y::t,hl,hc =>
  have h1:(1:Int)<(t.length:Int)+1+1:=by omega
  have h2:(1:Int)<=(t.length:Int)+1+1:=by omega
  have h3:(0:Int)<=(t.length:Int)+1+1:=by omega
  have h4:1+(t.length+1)<=t.length+1+1:=by omega
  simp[u5]at hc;simp[zUk,u5,zX,zg,hc,h1,h2,h3,h4]
end Go.TrRun.Pl
namespace Go.TrRun
open Go Go.Eng
abbrev zK8:=Go.PlanLaw.Car
def zKW(m:zD)(r:List Int)(c:zK8)(k:zci):Bool:=decide (zdA m r=0)&&decide (zaK m (r.headD 0)=1)&&decide (Pl.BP c=0)&&decide (zdf m k=0)
theorem zPi{m:zD}{zs:List Zon}{ss:List Sgn}(hF:zKj m zs ss)(r:List Int)(hl:r.length<=1000)(c:zK8)(k:zci)(hk:k.jQ.length<=100000000000) :
  R L Cs zNB [.a (zf m),.c (.jc (zu r)),.a (Pl.kT c),.a (zG k)] []=some (.w (Bo (zKW m r c k)),[]):=by
 have h:=hF.full.qH;have h1:=zQC h hF.fit.1;have h2:=zos m h.small h.chk r hl;have h3:=Pl.y7 c;have h4:=zuu h k hk;unfold zKW;by_cases hr:zdA m r=0
 ·obtain⟨hon,hne,hl8⟩:=zg1 h hr;obtain⟨x0,r',rfl⟩:∃x r',r=x::r':=by cases r with|nil=>exact absurd rfl hne|cons x r'=>exact⟨x,r',rfl⟩
  have hx0:=hon x0 (jo ..);obtain⟨n,rfl⟩:=jt hx0.1;have hn:n<m.jb.length:=by omega
  have hni:(n:Int)<m.jb.length:=by omega
  have ek:zaK m n=m.jb[n].kind:=by simp[zaK,hn]
  have e0:((n:Int)::r').headD 0=n:=rfl;rw[hr]at h2;rw[e0,ek];generalize hcv:Pl.BP c=cv at *;generalize hkv:zdf m k=kv at *;have w1:IntKind.i64.wrap 1=1:=rfl;have w0:IntKind.i64.wrap 0=0:=rfl;simp only[zf,zG,Pl.kT,zaP]at h1 h2 h3 h4;rw[zUa zMf rfl];rw[show decide (zdA m ((n:Int)::r')=0)=true from by simp[hr],uz];by_cases c1:m.jb[n].kind=1
  ·have b1:(m.jb[n].kind==1)=true:=by simp[c1]
   by_cases c2:cv=0
   ·have b2:(cv==0)=true:=by simp[c2]
    by_cases c3:kv=0
    ·have b3:(kv==0)=true:=by simp[c3]
     simp (maxSteps:=1000000) [zIW,zf,zG,Pl.kT,zo,h1,h2,h3,h4,hn,hni,c1,b1,c2,b2,c3,b3,zg,zH]
    ·have b3:(kv==0)=false:=by simp[c3]
     simp (maxSteps:=1000000) [zIW,zf,zG,Pl.kT,zo,h1,h2,h3,h4,hn,hni,c1,b1,c2,b2,c3,b3,zg,zH]
   ·have b2:(cv==0)=false:=by simp[c2]
    simp (maxSteps:=1000000) [zIW,zf,zG,Pl.kT,zo,h1,h2,h3,h4,hn,hni,c1,b1,c2,b2,zg,zH]
  ·have b1:(m.jb[n].kind==1)=false:=by simp[c1]
   simp (maxSteps:=1000000) [zIW,zf,zG,Pl.kT,zo,h1,h2,h3,h4,hn,hni,c1,b1,zg,zH]
 ·have hb:(zdA m r==0)=false:=by simp[hr]
  simp only[zf]at h1 h2;rw[zUa zMf rfl];generalize zdA m r=rv at *;simp[zIW,zf,zG,Pl.kT,h1,h2,hr,hb,zg,zH]
def zPn(zs:List Zon)(p:Pss):Prop:=(0<=p.kN/\p.kN<zs.length)/\0<=p.part/\p.part<(zMh zs p.kN).length
theorem zOf(st:Int)(z:Nat)(x:Int):∀(l:List Prt) (k:Nat) (p:Pss),p∈zLB st z x k l->p.kN=z/\(k:Int)<=p.part/\p.part<k+l.length
 |[],k,p,h=>by cases h
 |q::l,k,p,h=>by
  have ih:=zOf st z x l (k+1) p;unfold zLB at h;split at h
  ·rcases jy.1 h with rfl|h'
   ·simp only[jl];exact⟨trivial,by omega,by omega⟩
   ·have:=ih h';simp only[jl];omega
  ·have:=ih h;simp only[jl];omega
theorem zOe(st x:Int)(zs:List Zon):∀(l:List Zon) (z:Nat) (p:Pss),zs.drop z=l->p∈zLA st x z l->zPn zs p
 |[],z,p,_,h=>by cases h
 |q::l,z,p,hd,h=>by
  obtain⟨hz,hq,hd'⟩:=zL hd;unfold zLA at h;rcases jw.1 h with h'|h'
  ·have:=zOf st z x q.parts 0 p h';have e:zMh zs p.kN=q.parts:=by rw[this.1];simp[zMh,hz,hq]
   exact⟨by omega,by omega,by rw[e];omega⟩
  ·exact zOe st x zs l (z+1) p hd' h'
theorem zNh(m:zD)(zs:List Zon):∀(r:List Int) (a:Int) (p:Pss),p∈zKh m zs a r->zPn zs p
 |[],a,p,h=>by cases h
 |x::r,a,p,h=>by
  unfold zKh at h;rcases jw.1 h with h'|h'
  ·exact zOe a x zs zs 0 p rfl h'
  ·exact zNh m zs r _ p h'
def zLV(z:Int):List Pss->Pss×Pss×Bool->Pss×Pss×Bool
 |[],v=>v
 |p::t,v=>zLV z t (if p.kN=z then(if v.2.2 then v.1 else p,p,true) else v)
def zNx(ps:List Pss)(z:Int):Pss×Pss×Bool:=zLV z ps (zKw,zKw,false)
theorem zPq(z:Int):∀(t:List Pss) (v:Vis) (w:Pss×Pss×Bool),(∀p∈t,0<=p.part)->v.kN=z->(w.2.2=true->0<=v.entry/\v.entry=w.1.part)->(w.2.2=false->v.entry=-1)->v.first=w.1->v.last=w.2.1 ->
  (t.foldl (zJ5 z) v).kN=z/\((zLV z t w).2.2=true->0<=(t.foldl (zJ5 z) v).entry/\(t.foldl (zJ5 z) v).entry=(zLV z t w).1.part)/\((zLV z t w).2.2=false->(t.foldl (zJ5 z) v).entry=-1)/\(t.foldl (zJ5 z) v).first=(zLV z t w).1/\(t.foldl (zJ5 z) v).last=(zLV z t w).2.1:=by
 intro t;induction t with
 |nil=>intro v w _ h1 h2 h3 h4 h5;exact⟨h1,h2,h3,h4,h5⟩
 |cons p t ih =>
  intro v w hp h1 h2 h3 h4 h5;rw[jK];unfold zLV;have hp0:=hp p (jo ..);have hpt:∀q∈t,0<=q.part:=fun q hq=>hp q (jq _ hq)
  by_cases c:p.kN=z
  ·rw[if_pos c];cases hw:w.2.2 with
   |true =>
    obtain⟨g1,g2⟩:=h2 hw;have e:zJ5 z v p=⟨v.kN,v.entry,v.first,p⟩:=by simp only[zJ5,c,if_true,show ¬v.entry<0 by omega,if_false]
    rw[e];exact ih _ _ hpt h1 (fun _=>⟨g1,g2⟩) (fun q=>by cases q) h4 rfl
   |false =>
    have g:=h3 hw;have e:zJ5 z v p=⟨v.kN,p.part,p,p⟩:=by simp only[zJ5,c,if_true,show v.entry<0 by omega]
    rw[e];exact ih _ _ hpt h1 (fun _=>⟨hp0,rfl⟩) (fun q=>by cases q) rfl rfl
  ·rw[if_neg c];have e:zJ5 z v p=v:=by simp only[zJ5,c,if_false]
   rw[e];exact ih v w hpt h1 h2 h3 h4 h5
theorem zOR(ps:List Pss)(hp:∀p∈ps,0<=p.part)(z:Int):(zKn ps z).kN=z/\((zNx ps z).2.2=true->0<=(zKn ps z).entry/\(zKn ps z).entry=(zNx ps z).1.part)/\((zNx ps z).2.2=false->(zKn ps z).entry=-1)/\(zKn ps z).first=(zNx ps z).1/\(zKn ps z).last=(zNx ps z).2.1 :=
 zPq z ps ⟨z,-1,zKw,zKw⟩ (zKw,zKw,false) hp rfl (fun q=>by cases q) (fun _=>rfl) rfl rfl
theorem zPt(z:Int):∀(t:List Pss) (w:Pss×Pss×Bool),(zLV z t w).2.2=true->w.2.2=false->∃p∈t,p.kN=z/\(zLV z t w).1=p:=by
 have uZ:∀(t:List Pss) (w:Pss×Pss×Bool),w.2.2=true->(zLV z t w).1=w.1:=by
  intro t;induction t with
  |nil=>intro w _;rfl
  |cons p t ih =>
   intro w hw;unfold zLV;by_cases c:p.kN=z
   ·rw[if_pos c,ih _ rfl,hw];rfl
   ·rw[if_neg c,ih _ hw]
 intro t;induction t with
 |nil=>intro w h1 h2;rw[show zLV z [] w=w from rfl,h2]at h1;cases h1
 |cons p t ih =>
  intro w h1 h2;unfold zLV at h1 ⊢;by_cases c:p.kN=z
  ·rw[if_pos c];refine⟨p,jo ..,c,?_⟩;rw[uZ _ _ rfl,h2];rfl
  ·rw[if_neg c]at h1 ⊢;obtain⟨q,h3,h4⟩:=ih w h1 h2;exact⟨q,jq _ h3,h4⟩
theorem zNn(ps:List Pss):∀(n z:Nat) (v:Vis),v∈zKE ps z n<->∃y:Nat,z<=y/\y<z+n/\0<=(zKn ps y).entry/\v=zKn ps y
 |0,z,v=>by simp[zKE];intro y h1 h2;omega
 |n+1,z,v=>by
  have ih:=zNn ps n (z+1) v;unfold zKE;by_cases c:0<=(zKn ps z).entry
  ·rw[if_pos c,jy,ih];constructor
   ·rintro(rfl |⟨y,h1,h2,h3,h4⟩)
    ·exact⟨z,jm _,by omega,c,rfl⟩
    ·exact⟨y,by omega,by omega,h3,h4⟩
   ·rintro⟨y,h1,h2,h3,h4⟩;by_cases e:y=z
    ·subst e;exact .inl h4
    ·exact .inr ⟨y,by omega,by omega,h3,h4⟩
  ·rw[if_neg c,ih];constructor
   ·rintro⟨y,h1,h2,h3,h4⟩;exact⟨y,by omega,by omega,h3,h4⟩
   ·rintro⟨y,h1,h2,h3,h4⟩;by_cases e:y=z
    ·subst e;exact absurd h3 c
    ·exact⟨y,by omega,by omega,h3,h4⟩
theorem zNo(ps:List Pss):∀(n z:Nat),(zKE ps z n).length<=n
 |0,z=>by simp[zKE]
 |n+1,z=>by
  have:=zNo ps n (z+1);unfold zKE;split<;>simp<;>omega
theorem zPr{m:zD}{zs:List Zon}{ss:List Sgn}(hF:zKj m zs ss)(r:List Int):∀v∈zKE (zKh m zs 0 r) 0 zs.length,zKN zs v:=by
 intro v hv;obtain⟨y,_,h2,h3,rfl⟩:=(zNn _ _ _ _).1 hv;have hp:∀p∈zKh m zs 0 r,0<=p.part:=fun p hp=>(zNh m zs r 0 p hp).2.1
 obtain⟨k1,k2,k3,k4,k5⟩:=zOR (zKh m zs 0 r) hp y;have hb:(zNx (zKh m zs 0 r) y).2.2=true:=by
  cases hq:(zNx (zKh m zs 0 r) y).2.2 with
  |true=>rfl
  |false=>have:=k3 hq;omega
 obtain⟨p,hpm,hpz,hpe⟩:=zPt y _ _ hb rfl;have hok:=zNh m zs r 0 p hpm;have he:=(k2 hb).2;rw[show(zNx (zKh m zs 0 r) y).1=p from hpe]at he;have hyl:y<zs.length:=by omega
 refine⟨by rw[k1];omega,?_,?_⟩
 ·rw[k1];have:=hF.full.zd.Cg zs[y] (jf hyl);simpa [zMh,hyl]using this
 ·rw[k1,he];have:=hok.2;rw[hpz]at this;exact this
abbrev pvV(m:zD)(zs:List Zon)(r:List Int):List Vis:=zKE (zKh m zs 0 r) 0 zs.length
def zNw(m:zD)(zs:List Zon)(ss:List Sgn)(r:List Int)(len:Int)(k:zci)(jZ:List Int)(signals:Bool):Bool×Int×Int :=
 zKX (zLH len (pvV m zs r) jZ (zKr m zs ss r len (zKh m zs 0 r) (pvV m zs r) signals jZ 0 k)) (fbF m r jZ k.tick k.ego)
theorem zL8{m:zD}{zs:List Zon}{ss:List Sgn}(hF:zKj m zs ss){r:List Int}(hr:zdA m r=0)(len:Int)(hlen:0<=len/\len<=20000)(signals:Bool)(jZ:List Int)(hin:∀a∈jZ,zk0 a)(hal:jZ.length<=500)(u:Nat)(k:zci)(WAS NW:List Cl)(SW:Cl)(hk:KJ m k)(ht:0<=k.tick/\k.tick<=1099511627776)(hW:zMo WAS)(hSW:zKq NW SW)(hne0:jZ≠[]) :
  ∃u' WAS' NW' SW',zMo WAS'/\zKq NW' SW'/\u'≠u/\R L Cs zKv [J0,.a (zG k),.a [.jc (zu jZ)],Bo signals] (zJ3 m r len (zKh m zs 0 r) (pvV m zs r) u WAS NW SW) =
   some (.w (.a (zJ4 (zNw m zs ss r len k jZ signals))),zJ3 m r len (zKh m zs 0 r) (pvV m zs r) u' WAS' NW' SW'):=by
 have hvo:=zPr hF r;have hvl:(pvV m zs r).length<=zs.length:=zNo (zKh m zs 0 r) zs.length 0;have htwo:=hF.two;have hp:=hF.few r hr;obtain⟨qq,hq0⟩:∃qq,qq=0/\pvV m zs r=[]\/qq=1/\pvV m zs r≠[]:=by
  by_cases h0:pvV m zs r=[]
  ·exact⟨0,.inl ⟨rfl,h0⟩⟩
  ·exact⟨1,.inr ⟨rfl,h0⟩⟩
 obtain⟨u',W',N',S',a,b,hu,h⟩:=zVQ hF hr len hlen (zKh m zs 0 r) (by omega) (pvV m zs r) qq hq0 (by omega) hvo signals jZ hin hal u k WAS NW SW hk ht hW hSW hne0;refine⟨u',W',N',S',a,b,hu,?_⟩;simp only[zJ3,zVW hq0];exact h
def zOk(m:zD)(zs:List Zon)(ss:List Sgn)(r:List Int)(c:zK8)(k:zci)(jZ:List Int)(signals:Bool):Bool×Int×Int :=
 if zKW m r c k=true/\Go.PlanLaw.ue c jZ=0 then zNw m zs ss r c.len k jZ signals else(false,0,1)
theorem zVR{c:zK8}{l:List Int}(h:Go.PlanLaw.ue c l=0):c.ok/\l≠[]/\l.length<=200:=by
 unfold Go.PlanLaw.ue at h;split at h
 ·cases h
 ·rename_i h1;split at h
  ·cases h
  ·rename_i h2;split at h
   ·cases h
   ·rename_i h3;exact⟨yx.1 h1,fun e=>h2 (by rw[e];rfl),by omega⟩
theorem zNz{m:zD}{r:List Int}{c:zK8}{k:zci}(h:zKW m r c k=true):zdA m r=0/\zaK m (r.headD 0)=1/\c.ok/\zdf m k=0:=by
 unfold zKW at h;simp only[jg,decide_eq_true_eq]at h;refine⟨h.1.1.1,h.1.1.2,?_,h.2⟩;have:=h.1.2;unfold Pl.BP at this;split at this
 ·assumption
 ·cases this
theorem zOJ{m:zD}{zs:List Zon}{ss:List Sgn}(hF:zKj m zs ss)(r:List Int)(hl:r.length<=1000)(c:zK8)(k:zci)(hk:k.jQ.length<=100000000000)(jZ:List Int)(hin:∀a∈jZ,zk0 a)(hal:jZ.length<=1000)(signals:Bool) :
  R L Cs zMY [.a (zf m),.c (.jc (zu r)),.a (Pl.kT c),.a (zG k),.a [.jc (zu jZ)],Bo signals] []=some (.w (.a (zJ4 (zOk m zs ss r c k jZ signals))),[]):=by
 have h1:=zPi hF r hl c k hk;have h2:=Pl.BQ c jZ hal;unfold zOk;simp only[zf,zG,Pl.kT]at h1 h2;by_cases d1:zKW m r c k=true
 ·rw[d1]at h1;by_cases d2:Go.PlanLaw.ue c jZ=0
  ·rw[if_pos ⟨d1,d2⟩];rw[d2]at h2;obtain⟨hr,_,hc,hck⟩:=zNz d1;obtain⟨_,hne,hal2⟩:=zVR d2;have hke:=zte hck;have hc1:=hc.1;have hc2:=hc.2.1;have hkj:=zPP hF.full.qH hck;obtain⟨u,h3⟩:=zMM hF hr c.len;obtain⟨u',W',N',S',oW,oS,hu,h4⟩:=zL8 hF hr c.len (by omega) signals jZ hin (by omega) u k zox zox .jd hkj (by omega) (.inl rfl) (.inl ⟨rfl,rfl⟩) hne;generalize zNw m zs ss r c.len k jZ signals=y at *;simp only[pvV]at h4;generalize zKE (zKh m zs 0 r) 0 zs.length=vs at *;generalize zKh m zs 0 r=ps at *;rw[zUa zLb rfl];by_cases h0:vs=[]
   ·simp only[zJ3,if_pos h0]at h3 h4;rcases oW with rfl |⟨kw,rfl⟩<;>rcases oS with⟨rfl,rfl⟩ |⟨k0,x,rfl,rfl⟩<;>simp only[zf,zG,jC,zh,zi,zox,zJ4,zJY,jk,jh]at h3 h4<;>simp (maxSteps:=1000000) [zIR,zf,zG,Pl.kT,jC,zh,zi,zox,zJ4,zJY,h1,h2,h3,h4,hu,zg,zH,own]
   ·simp only[zJ3,if_neg h0]at h3 h4;rcases oW with rfl |⟨kw,rfl⟩<;>rcases oS with⟨rfl,rfl⟩ |⟨k0,x,rfl,rfl⟩<;>simp only[zf,zG,jC,zh,zi,zox,zJ4,zJY,own,zJZ,jk,jh]at h3 h4<;>simp (maxSteps:=1000000) [zIR,zf,zG,Pl.kT,jC,zh,zi,zox,zJ4,zJY,h1,h2,h3,h4,hu,zg,zH,own]
  ·rw[if_neg (fun q=>d2 q.2)];have hb:(Go.PlanLaw.ue c jZ !=0)=true:=by simp[d2]
   rw[zUa zLb rfl];generalize Go.PlanLaw.ue c jZ=e at *;simp[zIR,zf,zG,Pl.kT,zJ4,zJY,h1,h2,d2,hb,zg,zH]
 ·have hb:zKW m r c k=false:=by simpa using d1
  rw[if_neg (fun q=>d1 q.1)];rw[hb]at h1;rw[zUa zLb rfl];simp[zIR,zf,zG,Pl.kT,zJ4,zJY,h1,zg,zH]
def enP(ps:List Pss)(len shi slo:Int)(z:Nat):Bool:=(zNx ps z).2.2&&decide ((zNx ps z).1.lo<=shi)&&decide (slo-len<=(zNx ps z).2.1.hi)
def grP(zs:List Zon)(ss:List Sgn)(ps:List Pss)(shi slo tick:Int)(z:Nat):Bool:=(zNx ps z).2.2&&decide (0<zPp zs z)&&decide ((zNx ps z).1.lo<=shi)&&decide (slo<(zNx ps z).1.lo) && !zfA (ss.getD (zPp zs z-1).toNat ztn) (zPX zs z (zNx ps z).1.part) tick
theorem zRk(m:zD)(zs:List Zon)(r:List Int)(y:Nat):0<=(zKn (zKh m zs 0 r) y).entry<->(zNx (zKh m zs 0 r) y).2.2=true:=by
 obtain⟨_,h2,h3,_⟩:=zOR (zKh m zs 0 r) (fun p hp=>(zNh m zs r 0 p hp).2.1) y;cases hb:(zNx (zKh m zs 0 r) y).2.2 with
 |true=>exact⟨fun _=>rfl,fun _=>(h2 hb).1⟩
 |false=>rw[h3 hb];exact⟨fun h=>absurd h (by decide),fun h=>by cases h⟩
theorem zRC(m:zD)(zs:List Zon)(r:List Int)(p:Vis->Bool)(q:Nat->Bool)(h:∀y:Nat,y<zs.length->q y=((zNx (zKh m zs 0 r) y).2.2&&p (zKn (zKh m zs 0 r) y))):(pvV m zs r).any p=(List.range zs.length).any q:=by
 rw[yQ,jR,jR];constructor
 ·rintro⟨v,hv,hp⟩;obtain⟨y,_,hy,he,rfl⟩:=(zNn _ _ _ _).1 hv;refine⟨y,qf.2 (by omega),?_⟩;rw[h y (by omega),hp,(zRk m zs r y).1 he];rfl
 ·rintro⟨y,hy,hq⟩;have hy:=qf.1 hy;rw[h y hy,jg]at hq;exact⟨zKn (zKh m zs 0 r) y,(zNn _ _ _ _).2 ⟨y,by omega,by omega,(zRk m zs r y).2 hq.1,rfl⟩,hq.2⟩
theorem zRZ(m:zD)(zs:List Zon)(r:List Int)(len:Int)(e:Ego):(pvV m zs r).any (zOS len e)=(List.range zs.length).any (enP (zKh m zs 0 r) len e.shi e.slo):=by
 refine zRC m zs r _ _ fun y hy=>?_
 obtain⟨_,_,_,h4,h5⟩:=zOR (zKh m zs 0 r) (fun p hp=>(zNh m zs r 0 p hp).2.1) y;unfold enP zOS;rw[h4,h5,Bool.and_assoc]
theorem zRE(m:zD)(zs:List Zon)(ss:List Sgn)(r:List Int)(shi slo tick:Int):(pvV m zs r).any (zNj zs ss shi slo tick)=(List.range zs.length).any (grP zs ss (zKh m zs 0 r) shi slo tick):=by
 refine zRC m zs r _ _ fun y hy=>?_
 obtain⟨h1,h2,_,h4,h5⟩:=zOR (zKh m zs 0 r) (fun p hp=>(zNh m zs r 0 p hp).2.1) y;unfold grP zNj zP1 zP0;cases hb:(zNx (zKh m zs 0 r) y).2.2 with
 |false=>simp
 |true =>
  rw[h1,h4,(h2 hb).2];simp only[uz,Bool.and_assoc]
theorem zUJ(x tick:Int){lo lo' hi hi':Int}(hl:lo'<=lo)(hh:hi<=hi'):∀(l:List zCP) (n n':Int),n'<=n->l.foldl (zOx x lo' hi' tick) n'<=l.foldl (zOx x lo hi tick) n
 |[],n,n',h=>h
 |w::l,n,n',h=>by
  refine zUJ x tick hl hh l _ _ ?_;unfold zOx zQf;simp only[jg,decide_eq_true_eq];split
  ·rename_i c;split<;>omega
  ·rename_i c;rw[if_neg (fun d=>c ⟨⟨⟨⟨d.1.1.1.1,by have:=d.1.1.1.2;omega⟩,by have:=d.1.1.2;omega⟩,d.1.2⟩,d.2⟩)];exact h
theorem zUw(x lo hi tick:Int):∀(l:List zCP) (n:Int),(∀w∈l,0<=w.uH)->0<=n->0<=l.foldl (zOx x lo hi tick) n
 |[],n,_,h=>h
 |w::l,n,hw,h=>by
  refine zUw x lo hi tick l _ (fun y hy=>hw y (jq _ hy)) ?_;have:=hw w (jo ..);unfold zOx;split<;>omega
theorem zUo{m:zD}(h:zcp m)(x:Int):0<=zLS m x:=by
 unfold zLS;by_cases c:x.toNat<m.jb.length
 ·have:=h.uH _ (jf c);simp[c];omega
 ·simp[jY (show m.jb.length<=x.toNat by omega)]
abbrev zVB(o o':Int):Prop:=o=-1\/(0<=o'/\o'<=o)
theorem zUS{m:zD}(h:zcp m)(hw:∀w∈m.kE,0<=w.uH){fr fr' to to' tick:Int}(hf:fr'<=fr)(ht:to<=to'):∀(r:List Int) (a o o':Int),zVB o o'->(o'=-1\/0<=o')->zVB (zNU m fr to tick a o r) (zNU m fr' to' tick a o' r)
 |[],a,o,o',hr,_=>hr
 |x::r,a,o,o',hr,h0=>by
  unfold zNU;have hn:=zUw x (max 0 (fr'-a)) (min (to'-a) (z8 m x)) tick m.kE (zLS m x) hw (zUo h x);have hm:=zUJ x tick (show max 0 (fr'-a)<=max 0 (fr-a) by omega) (show min (to-a) (z8 m x)<=min (to'-a) (z8 m x) by omega) m.kE (zLS m x) (zLS m x) (jL _);generalize hA:m.kE.foldl (zOx x (max 0 (fr-a)) (min (to-a) (z8 m x)) tick) (zLS m x)=A at *;generalize hB:m.kE.foldl (zOx x (max 0 (fr'-a)) (min (to'-a) (z8 m x)) tick) (zLS m x)=B at *;have e1:zNi m fr to tick a o x=if max 0 (fr-a)>min (to-a) (z8 m x) then o else if o<0\/A<o then A else o:=by unfold zNi;rw[hA]
  have e2:zNi m fr' to' tick a o' x=if max 0 (fr'-a)>min (to'-a) (z8 m x) then o' else if o'<0\/B<o' then B else o':=by unfold zNi;rw[hB]
  rw[e1,e2];have key:zVB (if max 0 (fr-a)>min (to-a) (z8 m x) then o else if o<0\/A<o then A else o) (if max 0 (fr'-a)>min (to'-a) (z8 m x) then o' else if o'<0\/B<o' then B else o')/\((if max 0 (fr'-a)>min (to'-a) (z8 m x) then o' else if o'<0\/B<o' then B else o')=-1\/0<=(if max 0 (fr'-a)>min (to'-a) (z8 m x) then o' else if o'<0\/B<o' then B else o')):=by
   unfold zVB at hr ⊢;by_cases c2:max 0 (fr'-a)>min (to'-a) (z8 m x)
   ·rw[if_pos c2,if_pos (by omega)];exact⟨hr,h0⟩
   ·rw[if_neg c2];by_cases c1:max 0 (fr-a)>min (to-a) (z8 m x)
    ·rw[if_pos c1];by_cases d:o'<0\/B<o'
     ·rw[if_pos d];omega
     ·rw[if_neg d];omega
    ·rw[if_neg c1];by_cases d:o'<0\/B<o'
     ·rw[if_pos d];by_cases f:o<0\/A<o
      ·rw[if_pos f];omega
      ·rw[if_neg f];omega
     ·rw[if_neg d];by_cases f:o<0\/A<o
      ·rw[if_pos f];omega
      ·rw[if_neg f];omega
  exact zUS h hw hf ht r _ _ _ key.1 key.2
theorem zUH{m:zD}(h:zcp m)(hw:∀w∈m.kE,0<=w.uH){fr to tick:Int}:∀(r:List Int) (a o:Int),0<=o->0<=zNU m fr to tick a o r
 |[],a,o,ho=>ho
 |x::r,a,o,ho=>by
  unfold zNU;refine zUH h hw r _ _ ?_;have hn:=zUw x (max 0 (fr-a)) (min (to-a) (z8 m x)) tick m.kE (zLS m x) hw (zUo h x);unfold zNi;split
  ·exact ho
  ·split
   ·exact hn
   ·exact ho
theorem zUI{m:zD}(h:zcp m)(hw:∀w∈m.kE,0<=w.uH){fr to tick:Int}(hft:fr<=to):∀(r:List Int) (a:Int),zj2 m r->a<=fr->to<=zmd m a r->r≠[]->0<=zNU m fr to tick a (-1) r
 |[],a,_,_,_,hne=>absurd rfl hne
 |x::r,a,hon,ha,ht,_=>by
  unfold zNU;have hl:=zcX h (hon x (jo ..));have hn:=zUw x (max 0 (fr-a)) (min (to-a) (z8 m x)) tick m.kE (zLS m x) hw (zUo h x);by_cases c:fr<=a+z8 m x
  ·refine zUH h hw r _ _ ?_;unfold zNi;rw[if_neg (by omega),if_pos (.inl (by decide))];exact hn
  ·have e:zNi m fr to tick a (-1) x=-1:=by unfold zNi;rw[if_pos (by omega)]
   rw[e];cases r with
   |nil=>simp only[zmd]at ht;omega
   |cons y r=>exact zUI h hw hft (y::r) _ (fun z hz=>hon z (jq _ hz)) (by omega) ht (by simp)
theorem zVj{m:zD}(h:zcp m)(hw:∀w∈m.kE,0<=w.uH){r:List Int}(hon:zj2 m r)(hne:r≠[]){x y:zci}(hI:InK x y)(h0:0<=x.ego.slo)(hle:x.ego.slo<=x.ego.shi)(he:x.ego.shi<=zmd m 0 r)(hs:zMt m r y=0):zMt m r x=0:=by
 unfold zMt at hs ⊢;have e1:=hI.ego.slo;have e2:=hI.ego.shi;have e4:=hI.ego.vhi;have hr:=zUS h hw (tick:=y.tick) e1 e2 r 0 (-1) (-1) (.inl rfl) (.inl rfl);have hh:=zUI h hw (tick:=y.tick) hle r 0 hon h0 he hne;rw[hI.tick];split at hs
 ·cases hs
 ·rw[if_neg];unfold zVB at hr;omega
theorem zU8{m:zD}{r:List Int}{x y:zci}(hI:InK x y)(h0:0<=x.ego.vhi){sw sw':List Swp}(hS:zVA sw sw')(hs:zMF m r y sw'=0):zMF m r x sw=0:=by
 unfold zMF at hs ⊢;have e2:=hI.ego.shi;have e4:=hI.ego.vhi;by_cases c:x.ego.vhi=0
 ·rw[if_pos c]
 ·rw[if_neg c,if_neg];rw[if_neg (by omega)]at hs;intro ha;obtain⟨s,hsm,hp⟩:=jR.1 ha;obtain⟨t,ht,hst⟩:=hS s hsm;have:sw'.any (apP m r y.ego.shi)=true:=by
   refine jR.2 ⟨t,ht,?_⟩;unfold apP at hp ⊢;rw[<-hst.lane];cases hi:zgo r s.lane with
   |none=>rw[hi]at hp;cases hp
   |some i =>
    rw[hi]at hp;simp only[jg,kA,decide_eq_true_eq]at hp ⊢;refine⟨?_,by have:=hst.lo;omega⟩;cases hc:t.cap with
    |false=>rfl
    |true=>rw[hst.cap hc]at hp;cases hp.1
  rw[if_pos this]at hs;cases hs
theorem zVv{p:Prt}{s t:Swp}(h:InS s t)(hs:inS p s=true):inS p t=true:=by
 unfold inS at hs ⊢;simp only[jg,kA,decide_eq_true_eq]at hs ⊢;have h1:=h.lane;have h2:=h.lo;have h3:=h.hi;refine⟨⟨⟨?_,by rw[<-h1];exact hs.1.1.2⟩,by omega⟩,by omega⟩;cases hc:t.cap with
 |false=>rfl
 |true=>rw[h.cap hc]at hs;exact hs.1.1.1
theorem zUD{sw sw':List Swp}(h:zVA sw sw')(e:Int):∀(l:List Prt) (i:Nat),zNK sw e i l=true->zNK sw' e i l=true
 |[],i,ht=>ht
 |p::l,i,ht=>by
  unfold zNK at ht ⊢;simp only[qL,jg]at ht ⊢;rcases ht with⟨h1,h2⟩|h1
  ·left;refine⟨h1,?_⟩;obtain⟨s,hs,hp⟩:=jR.1 h2;obtain⟨t,ht,hst⟩:=h s hs;exact jR.2 ⟨t,ht,zVv hst hp⟩
  ·exact .inr (zUD h e l _ h1)
theorem zU9{zs:List Zon}{len:Int}{ps:List Pss}{vs:List Vis}{w1 w2 x y:zci}(hw:InK w1 w2)(hI:InK x y){sw sw':List Swp}(hS:zVA sw sw')(hs:zMG zs len ps vs w2 y sw'=0):zMG zs len ps vs w1 x sw=0:=by
 unfold zMG at hs ⊢;rw[if_neg];intro ha;obtain⟨v,hv,hp⟩:=jR.1 ha;have:vs.any (alP zs ps sw' y.ego.shi (w2.ego.slo-len))=true:=by
  refine jR.2 ⟨v,hv,?_⟩;unfold alP zNf at hp ⊢;rw[jg]at hp ⊢;refine⟨?_,zUD hS _ _ _ hp.2⟩;obtain⟨p,hpm,h⟩:=jR.1 hp.1;refine jR.2 ⟨p,hpm,?_⟩;unfold zM4 at h ⊢;simp only[jg,decide_eq_true_eq]at h ⊢;have:=hI.ego.shi;have:=hw.ego.slo;exact⟨⟨h.1.1,by omega⟩,by omega⟩
 rw[if_pos this]at hs;cases hs
theorem zVa{zs:List Zon}{ss:List Sgn}{vs:List Vis}{w1 w2 x y:zci}(hw:InK w1 w2)(hI:InK x y)(hs:zMH zs ss vs w2 y=0):zMH zs ss vs w1 x=0:=by
 unfold zMH at hs ⊢;rw[if_neg];intro ha;obtain⟨v,hv,hp⟩:=jR.1 ha;have:vs.any (zNj zs ss y.ego.shi w2.ego.slo w2.tick)=true:=by
  refine jR.2 ⟨v,hv,?_⟩;unfold zNj zP1 at hp ⊢;rw[hw.tick]at hp;simp only[jg,decide_eq_true_eq]at hp ⊢;have:=hI.ego.shi;have:=hw.ego.slo;exact⟨⟨⟨hp.1.1.1,by omega⟩,by omega⟩,hp.2⟩
 rw[if_pos this]at hs;cases hs
theorem zUu{len:Int}{vs:List Vis}{x y:zci}(hI:InK x y)(h0:0<=x.ego.vhi)(hs:zLQ len vs y=true):zLQ len vs x=true:=by
 unfold zLQ at hs ⊢;simp only[jg,decide_eq_true_eq,kA]at hs ⊢;have e1:=hI.ego.slo;have e2:=hI.ego.shi;have e4:=hI.ego.vhi;refine⟨by omega,?_⟩;cases ha:vs.any (zOS len x.ego)with
 |false=>rfl
 |true =>
  obtain⟨v,hv,hp⟩:=jR.1 ha;have:vs.any (zOS len y.ego)=true:=by
   refine jR.2 ⟨v,hv,?_⟩;unfold zOS at hp ⊢;simp only[jg,decide_eq_true_eq]at hp ⊢;omega
  rw[this]at hs;cases hs.2
theorem zU7{a b c d e:Int}:zKs [a,b,c,d,e]=0<->a=0/\b=0/\c=0/\d=0/\e=0:=by
 simp only[zKs];constructor
 ·intro h
  repeat' split at h
  all_goals first |(refine⟨?_,?_,?_,?_,?_⟩<;>assumption) |(exact absurd h (by assumption)) |skip
  all_goals simp_all
 ·rintro⟨rfl,rfl,rfl,rfl,rfl⟩;simp
set_option maxRecDepth 100000
open Go Go.Eng Go.PlanLaw
def zT7:List Pss->Bool
 |[]=>true
 |[_]=>true
 |[p,q]=>decide (p.lo<=q.lo)&&decide (p.hi<=q.hi)&&decide (q.lo<=p.hi+300)
 |_=>false
def zTY(ps:List Pss)(z:Int):Bool:=zT7 (ps.filter fun p=>decide (p.kN=z))
theorem zT6(k:Nat)(hk:k<7)(lim r o1 o2 o3 v w b t:Int):zTx (zq k lim r o1 o2 o3 v w b t) (fun l=>(List.range (zsP k r).length).all fun z=>zTY (zKh (zq k lim r o1 o2 o3 v w b t) (zsP k r) 0 l) z)=true:=match k,hk with
 |0,_=>by kernel_rfl
 |1,_=>by kernel_rfl
 |2,_=>by kernel_rfl
 |3,_=>by kernel_rfl
 |4,_=>by kernel_rfl
 |5,_=>by kernel_rfl
 |6,_=>by kernel_rfl
theorem zTK(z:Int):∀(t:List Pss) (w:Pss×Pss×Bool),zLV z t w=zLV z (t.filter fun p=>decide (p.kN=z)) w
 |[],w=>rfl
 |p::t,w=>by
  by_cases c:p.kN=z
  ·rw[List.filter_cons_of_pos (by simpa using c),zLV,zLV,zTK z t]
  ·rw[um (by simpa using c),zLV,if_neg c,zTK z t]
theorem zTW{ps:List Pss}(z:Int)(h:zTY ps z=true)(hlh:∀p∈ps,p.lo<=p.hi)(len shi slo:Int)(hl:300<=len)(hs:slo<=shi) :
  ((zNx ps z).2.2&&decide ((zNx ps z).1.lo<=shi)&&decide (slo-len<=(zNx ps z).2.1.hi))=(ps.filter fun p=>decide (p.kN=z)).any fun p=>decide (p.lo<=shi)&&decide (slo-len<=p.hi):=by
 unfold zTY at h;unfold zNx;rw[zTK];have hz:∀p∈ps.filter (fun p=>decide (p.kN=z)),p.kN=z/\p.lo<=p.hi:=fun p hp=>by
  have:=ua.1 hp;exact⟨by simpa using this.2,hlh p this.1⟩
 generalize ps.filter (fun p=>decide (p.kN=z))=l at *
 match l,h with
 |[],_=>rfl
 |[p],_ =>
  have h1:=(hz p (by simp)).1;simp[zLV,h1]
 |[p,q],h =>
  have h1:=hz p (by simp);have h2:=hz q (by simp);simp only[zT7,jg,decide_eq_true_eq]at h;simp only[zLV,h1.1,h2.1,if_true,uz,uU,List.any_nil,Bool.or_false];rw[yQ];simp;omega
theorem zTP(st:Int)(z:Nat)(x:Int):∀(l:List Prt) (k:Nat),(∀p∈l,p.lo<p.hi)->∀p∈zLB st z x k l,p.lo<=p.hi
 |[],k,_,p,h=>by cases h
 |q::l,k,hq,p,h=>by
  unfold zLB at h;have ih:=fun h=>zTP st z x l (k+1) (fun y hy=>hq y (jq _ hy)) p h
  have:=hq q (jo ..);split at h
  ·rcases jy.1 h with rfl|h
   ·simp only;omega
   ·exact ih h
  ·exact ih h
theorem zTO(st x:Int):∀(l:List Zon) (z:Nat),(∀q∈l,∀p∈q.parts,p.lo<p.hi)->∀p∈zLA st x z l,p.lo<=p.hi
 |[],z,_,p,h=>by cases h
 |q::l,z,hq,p,h=>by
  unfold zLA at h;rcases jw.1 h with h|h
  ·exact zTP _ _ _ _ _ (hq q (jo ..)) p h
  ·exact zTO _ _ l _ (fun y hy=>hq y (jq _ hy)) p h
theorem zTM(m:zD)(zs:List Zon)(hq:∀q∈zs,∀p∈q.parts,p.lo<p.hi):∀(r:List Int) (a:Int),∀p∈zKh m zs a r,p.lo<=p.hi
 |[],a,p,h=>by cases h
 |x::r,a,p,h=>by
  unfold zKh at h;rcases jw.1 h with h|h
  ·exact zTO _ _ _ _ hq p h
  ·exact zTM m zs hq r _ p h
theorem zT2{m:zD}{zs:List Zon}{ss:List Sgn}(hF:zKj m zs ss){r:List Int}(hcon:∀z:Nat,z<zs.length->zTY (zKh m zs 0 r) z=true)(len shi slo:Int)(hl:300<=len)(hs:slo<=shi) :
  (List.range zs.length).any (enP (zKh m zs 0 r) len shi slo)=(zKh m zs 0 r).any fun p=>decide (p.lo<=shi)&&decide (slo-len<=p.hi):=by
 have hlh:=zTM m zs (fun q hq p hp=>(hF.full.pv q hq p hp).2.2.1) r 0;have hok:=zNh m zs r 0;generalize zKh m zs 0 r=ps at *;rw[yQ,jR,jR];constructor
 ·rintro⟨z,hz,h⟩;have hz:=qf.1 hz;unfold enP at h;rw[zTW z (hcon z hz) hlh len shi slo hl hs,jR]at h;obtain⟨p,hp,h⟩:=h;exact⟨p,(ua.1 hp).1,h⟩
 ·rintro⟨p,hp,h⟩;obtain⟨⟨o1,o2⟩,_⟩:=hok p hp;obtain⟨z,hz⟩:=jt o1;refine⟨z,qf.2 (by omega),?_⟩;unfold enP;rw[zTW z (hcon z (by omega)) hlh len shi slo hl hs,jR];exact⟨p,ua.2 ⟨hp,by simpa using hz⟩,h⟩
theorem zT4(z:Int)(ps:List Pss)(h:(zNx ps z).2.2=true):(zNx ps z).1∈ps/\(zNx ps z).1.kN=z:=by
 obtain⟨p,hp,h1,h2⟩:=zPt z ps (zKw,zKw,false) h rfl;unfold zNx;rw[h2];exact⟨hp,h1⟩
theorem zTU{m:zD}{zs:List Zon}{ss:List Sgn}(hF:zKj m zs ss){r:List Int}(hr:zdA m r=0)(hkd:zaK m (r.headD 0)=1)(hcon:∀z:Nat,z<zs.length->zTY (zKh m zs 0 r) z=true){c:zK8}(hc:c.ok)(K:zci)(hck:zdf m K=0)(hv:K.ego.vlo=0/\K.ego.vhi=0)(hs:K.ego.shi<=zmd m 0 r)(ht:K.tick<1099511627776)(hb:K.ego.shi<=1099511627776)(signals:Bool)(a:Int)(ha:a<=0)(hchk:ue c [a]=0) :
  (zOk m zs ss r c K [a] signals).1 = !((zKh m zs 0 r).any fun p=>decide (p.lo<=K.ego.shi)&&decide (K.ego.slo-c.len<=p.hi)):=by
 have AC:=hc;obtain⟨q1,q2,q3,q4,q5,q6,q7,q8,q9,q10⟩:=AC;have hego:=(zte hck).1;have hso:K.ego.slo<=K.ego.shi:=by
  have:=hego;obtain⟨⟩:=this;omega
 obtain⟨hon,hne,hl8⟩:=zg1 hF.full.qH hr;have hE:zaN m r K.ego a=K.ego:=by
  have hcl:zgH m r a<=0:=by
   unfold zgH zif zd4
   repeat' split
   all_goals omega
  have hsp:zcD m r a 0=0:=by
   have:0<=zeR (zaK m (r.getD 0 0)):=by unfold zeR;(repeat' split)<;>omega
   unfold zcD;omega
  unfold zaN;rw[hv.1,hv.2,hsp];have e:K.ego=⟨K.ego.slo,K.ego.shi,K.ego.vlo,K.ego.vhi⟩:=rfl;rw[e,hv.1,hv.2];simp
 have yn:zKW m r c K=true:=by
  unfold zKW Pl.BP;rw[if_pos hc,hkd,hr,hck];rfl
 have hfb:fbF m r [a] K.tick K.ego=none:=by
  unfold fbF;rw[if_neg (by unfold TrRun.AQ;rw[hE];omega),hE,if_neg (by omega)];rfl
 have BI:=zT2 hF hcon c.len K.ego.shi K.ego.slo (by omega) hso;rw[<-zRZ]at BI;have hnx:(zEt m zs ss r c.len signals K a).ego=K.ego:=hE;unfold zOk;rw[if_pos ⟨yn,hchk⟩];unfold zNw;rw[hfb];simp only[zKX,zKr];have hon0:onW m r (zEt m zs ss r c.len signals K a)=0:=by unfold onW;rw[hnx,if_neg (by omega)]
 have hsl0:zMt m r (zEt m zs ss r c.len signals K a)=0:=by unfold zMt;rw[hnx,hv.2,if_neg (by omega)]
 have hap0:zMF m r (zEt m zs ss r c.len signals K a) (zKu m zs ss r c.len signals K a)=0:=by unfold zMF;rw[hnx,if_pos hv.2]
 cases hin:(zKh m zs 0 r).any fun p=>decide (p.lo<=K.ego.shi)&&decide (K.ego.slo-c.len<=p.hi)with
 |true =>
  rw[hin]at BI;split
  ·simp only[zLH,zLQ,hnx,BI];simp
  ·rfl
 |false =>
  rw[hin]at BI;have hno:∀p∈zKh m zs 0 r,p.lo<=K.ego.shi->K.ego.slo-c.len<=p.hi->False:=fun p hp a b=>by
   have:=yw.1 hin p hp;simp[a,b]at this
  have hal0:zMG zs c.len (zKh m zs 0 r) (pvV m zs r) K (zEt m zs ss r c.len signals K a) (zKu m zs ss r c.len signals K a)=0:=by
   unfold zMG;rw[if_neg];intro h;obtain⟨v,_,h⟩:=jR.1 h;unfold alP at h;rw[jg,jR]at h;obtain⟨⟨p,hp,h⟩,_⟩:=h;unfold zM4 at h;simp only[jg,decide_eq_true_eq,hnx]at h;exact hno p hp h.1.2 h.2
  have hlw0:zMH zs ss (pvV m zs r) K (zEt m zs ss r c.len signals K a)=0:=by
   unfold zMH;rw[zRE,if_neg];intro h;obtain⟨z,_,h⟩:=jR.1 h;unfold grP at h;simp only[jg,decide_eq_true_eq,hnx]at h;obtain⟨h1,h2⟩:=zT4 z (zKh m zs 0 r) (by simp[h]);have h3:=zTM m zs (fun q hq p hp=>(hF.full.pv q hq p hp).2.2.1) r 0 _ h1;exact hno _ h1 (by omega) (by omega)
  have hw:zMi m zs ss r c.len (zKh m zs 0 r) (pvV m zs r) K (zEt m zs ss r c.len signals K a) (zKu m zs ss r c.len signals K a)=0:=by
   unfold zMi;rw[hon0,hsl0,hap0,hal0,hlw0];rfl
  rw[if_pos hw];simp only[zLH,zLQ,hnx,BI,hv.2];simp
set_option maxRecDepth 10000
open Go Go.Eng Go.PlanLaw
theorem zVq{m:zD}{zs:List Zon}{ss:List Sgn}(h:zcp m)(hw:∀w∈m.kE,0<=w.uH){r:List Int}(hon:zj2 m r)(hne:r≠[]){len:Int}{ps:List Pss}{vs:List Vis}{w1 w2 x y:zci}(hW:InK w1 w2)(hI:InK x y)(hx:znd x.ego){sw sw':List Swp}(hS:zVA sw sw')(hs:zMi m zs ss r len ps vs w2 y sw'=0):zMi m zs ss r len ps vs w1 x sw=0:=by
 obtain⟨⟨e1,e2,e3⟩,⟨e4,e5,e6⟩⟩:=hx;unfold zMi at hs ⊢;rw[zU7]at hs ⊢;obtain⟨h1,h2,h3,h4,h5⟩:=hs;have ho:x.ego.shi<=zmd m 0 r:=by
  unfold onW at h1;split at h1
  ·cases h1
  ·have:=hI.ego.shi;omega
 refine⟨by unfold onW;rw[if_neg (by omega)],zVj h hw hon hne hI e1 e2 ho h2,zU8 hI (by omega) hS h3,zU9 hW hI hS h4,zVa hW hI h5⟩
theorem zUs{m:zD}{zs:List Zon}{ss:List Sgn}(hf:zmq m zs ss)(hw:∀w∈m.kE,0<=w.uH){r:List Int}(hr:zdA m r=0)(len:Int)(ps:List Pss)(vs:List Vis)(signals:Bool):∀(t:List Int) (n n':Nat) (a b:zci),InK a b->zdf m a=0->zdf m b=0->(zKr m zs ss r len ps vs signals t n b).1=none->fbF m r t b.tick b.ego=none ->
  (zKr m zs ss r len ps vs signals t n' a).1=none/\fbF m r t a.tick a.ego=none/\InK (zKr m zs ss r len ps vs signals t n' a).2 (zKr m zs ss r len ps vs signals t n b).2/\zdf m (zKr m zs ss r len ps vs signals t n' a).2=0
 |[],n,n',a,b,hI,ha,hb,h1,h2=>⟨rfl,rfl,hI,ha⟩
 |x::t,n,n',a,b,hI,ha,hb,h1,h2=>by
  have h:=hf.qH;obtain⟨hon,hne,hl8⟩:=zg1 h hr;unfold zKr at h1;split at h1
  ·rename_i hwy;have hon':=zNe hwy;have BN:¬AQ m r b.tick b.ego x:=by
    intro hbd;unfold fbF at h2;rw[if_pos hbd]at h2;cases h2
   unfold fbF at h2;have hsh:(zaN m r b.ego x).shi<=zmd m 0 r:=hon';rw[if_neg BN,if_neg (by omega)]at h2;have h2:fbF m r t (b.tick+1) (zaN m r b.ego x)=none:=by
    cases hq:fbF m r t (b.tick+1) (zaN m r b.ego x)with
    |none=>rfl
    |some y=>rw[hq]at h2;cases h2
   obtain⟨hN,hS⟩:=zVi hf r len hI ha hb x signals;have hE:=zUz m r hI.ego x;have e2:=hE.shi;have htk:=hI.tick;unfold TrRun.AQ at BN;have tb:=(zte hb).2;have cb:zdf m (zEt m zs ss r len signals b x)=0:=zEH hf hr len b x signals hb (by omega) (by omega);have ca:zdf m (zEt m zs ss r len signals a x)=0:=zEH hf hr len a x signals ha (by omega) (by omega);have hwa:=zVq h hw hon hne (len:=len) (ps:=ps) (vs:=vs) (zs:=zs) (ss:=ss) hI hN (zte ca).1 hS hwy;obtain⟨g1,g2,g3,g4⟩:=zUs hf hw hr len ps vs signals t (n+1) (n'+1) _ _ hN ca cb h1 h2;have v1:zKr m zs ss r len ps vs signals (x::t) n' a=zKr m zs ss r len ps vs signals t (n'+1) (zEt m zs ss r len signals a x):=by rw[zKr,if_pos hwa]
   have v2:zKr m zs ss r len ps vs signals (x::t) n b=zKr m zs ss r len ps vs signals t (n+1) (zEt m zs ss r len signals b x):=by rw[zKr,if_pos hwy]
   rw[v1,v2];refine⟨g1,?_,g3,g4⟩;unfold fbF;rw[if_neg (by unfold TrRun.AQ;omega),if_neg (by omega)];have g2:fbF m r t (a.tick+1) (zaN m r a.ego x)=none:=g2;rw[g2];rfl
  ·cases h1
theorem zUm(m:zD)(zs:List Zon)(ss:List Sgn)(r:List Int)(c:zK8)(k:zci)(p:List Int)(signals:Bool):(zOk m zs ss r c k p signals).1=true <->
  zKW m r c k=true/\ue c p=0/\(zKr m zs ss r c.len (zKh m zs 0 r) (pvV m zs r) signals p 0 k).1=none/\fbF m r p k.tick k.ego=none/\zLQ c.len (pvV m zs r) (zKr m zs ss r c.len (zKh m zs 0 r) (pvV m zs r) signals p 0 k).2=true:=by
 unfold zOk;by_cases h:zKW m r c k=true/\ue c p=0
 ·rw[if_pos h];unfold zNw zLH;generalize zKr m zs ss r c.len (zKh m zs 0 r) (pvV m zs r) signals p 0 k=V;obtain⟨v1,v2⟩:=V;cases v1 with
  |none =>
   simp only;by_cases hs:zLQ c.len (pvV m zs r) v2=true
   ·rw[if_pos hs];cases fbF m r p k.tick k.ego with
    |none=>simp[zKX,h,hs]
    |some b=>simp[zKX]
   ·rw[if_neg hs];cases fbF m r p k.tick k.ego with
    |none=>simp[zKX,hs]
    |some b=>simp[zKX]
  |some x =>
   obtain⟨x1,x2⟩:=x;cases fbF m r p k.tick k.ego with
   |none=>simp[zKX]
   |some b =>
    simp only[zKX];split<;>simp
 ·rw[if_neg h];constructor
  ·intro q;cases q
  ·rintro⟨h1,h2,_⟩;exact absurd ⟨h1,h2⟩ h
theorem zUV{m:zD}{r:List Int}{c:zK8}{k k':zci}(h:zKW m r c k=true)(hk:zdf m k'=0):zKW m r c k'=true:=by
 unfold zKW at h ⊢;simp only[jg,decide_eq_true_eq]at h ⊢;exact⟨h.1,hk⟩
theorem zUC{m:zD}{zs:List Zon}{ss:List Sgn}(hf:zmq m zs ss)(hw:∀w∈m.kE,0<=w.uH){r:List Int}{c:zK8}{a b:zci}(hI:InK a b)(ha:zdf m a=0){p:List Int}{signals:Bool}(h:(zOk m zs ss r c b p signals).1=true):(zOk m zs ss r c a p signals).1=true:=by
 rw[zUm]at h ⊢;obtain⟨h1,h2,h3,h4,h5⟩:=h;obtain⟨hr,_,_,hb⟩:=zNz h1;obtain⟨g1,g2,g3,g4⟩:=zUs hf hw hr c.len _ _ signals p 0 0 a b hI ha hb h3 h4;exact⟨zUV h1 ha,h2,g1,g2,zUu g3 (by have:=(zte g4).1.v;omega) h5⟩
theorem zUX{c:zK8}{a:Int}{t:List Int}(h:ue c (a::t)=0)(hne:t≠[]):ue c t=0:=by
 obtain⟨b,t,rfl⟩:∃b s,t=b::s:=by cases t with|nil=>exact absurd rfl hne|cons b s=>exact⟨b,s,rfl⟩
 unfold ue at h ⊢;split at h
 ·cases h
 ·rename_i c1;rw[if_neg c1,if_neg (by simp)];rw[if_neg (by simp)]at h;split at h
  ·cases h
  ·rename_i c2;rw[if_neg (by simp only[jl]at c2 ⊢;omega)];split at h
   ·cases h
   ·rename_i c3;rw[if_neg (by simpa using c3)];split at h
    ·cases h
    ·rename_i c4;rw[if_neg (fun q=>c4 (by rw[uU,q,Bool.or_true]))];split at h
     ·cases h
     ·rename_i c5;rw[if_neg];intro q;refine c5 ?_;simp only[List.headD_cons]at q ⊢;obtain⟨q1,q2,q3,q4,q5,q6,q7,q8,q9,q10⟩:=yx.1 c1;have e:Go.PlanLaw.Ay c b (b::t)=Go.PlanLaw.Ay c b t:=by
       rw[Go.PlanLaw.Ay];have:(!(decide (-c.vH<=b-b)&&decide (b-b<=c.vH)))=false:=by simp;omega
       rw[this,qS]
      rw[e]at q;rw[Go.PlanLaw.Ay,Go.PlanLaw.Ay,q,Bool.or_true,Bool.or_true]
theorem zUY{c:zK8}{a:Int}(h:ue c [a]=0):a<=0:=by
 unfold ue at h;split at h
 ·cases h
 ·rw[if_neg (by simp),if_neg (by simp)]at h;split at h
  ·cases h
  ·rename_i c3;simpa using c3
theorem zVh{m:zD}{zs:List Zon}{ss:List Sgn}(hF:zKj m zs ss)(hw:∀w∈m.kE,0<=w.uH){r:List Int}(hcon:∀z:Nat,z<zs.length->zTY (zKh m zs 0 r) z=true){c:zK8}{k:zci}{a:Int}{t:List Int}{signals:Bool}(htk:k.tick<1099511627775)(h:(zOk m zs ss r c k (a::t) signals).1=true) :
  zm6 m r c.len k a=0/\zdf m (zEt m zs ss r c.len signals k a)=0/\(zOk m zs ss r c (zEt m zs ss r c.len signals k a) (Pl.u5 (a::t)) signals).1=true:=by
 have hf:=hF.full;rw[zUm]at h;obtain⟨h1,h2,h3,h4,h5⟩:=h;obtain⟨hr,hkd,hc,hb⟩:=zNz h1;obtain⟨hon,hne,hl8⟩:=zg1 hf.qH hr;have hEb:=zFu hf.qH r hl8 hon;unfold zKr at h3;split at h3
 ·rename_i hwy;have hon':(zaN m r k.ego a).shi<=zmd m 0 r:=zNe hwy;have BN:¬TrRun.AQ m r k.tick k.ego a:=by
   intro hbd;unfold fbF at h4;rw[if_pos hbd]at h4;cases h4
  unfold fbF at h4;rw[if_neg BN,if_neg (by omega)]at h4;have h4:fbF m r t (k.tick+1) (zaN m r k.ego a)=none:=by
   cases hq:fbF m r t (k.tick+1) (zaN m r k.ego a)with
   |none=>rfl
   |some y=>rw[hq]at h4;cases h4
  unfold TrRun.AQ at BN;have tb:=(zte hb).2;have cn:zdf m (zEt m zs ss r c.len signals k a)=0:=zEH hf hr c.len k a signals hb (by omega) (by omega);have hst:zm6 m r c.len k a=0:=by
   obtain⟨q1,q2,_⟩:=hc;unfold zm6;simp[hb,hr];omega
  refine⟨hst,cn,?_⟩;have v1:zKr m zs ss r c.len (zKh m zs 0 r) (pvV m zs r) signals (a::t) 0 k=zKr m zs ss r c.len (zKh m zs 0 r) (pvV m zs r) signals t (0+1) (zEt m zs ss r c.len signals k a):=by rw[zKr,if_pos hwy]
  rw[v1]at h5;by_cases ht:t=[]
  ·subst ht;have e:Pl.u5 [a]=[a]:=by simp[Pl.u5]
   rw[e];have h5:zLQ c.len (pvV m zs r) (zEt m zs ss r c.len signals k a)=true:=h5;unfold zLQ at h5;simp only[jg,decide_eq_true_eq,kA]at h5;obtain⟨⟨e1,e2,e3⟩,⟨e4,e5,e6⟩⟩:=(zte cn).1;have hlen:=hc.1;have hnt:(zEt m zs ss r c.len signals k a).tick=k.tick+1:=rfl;have hsl:(zEt m zs ss r c.len signals k a).ego.shi<=zmd m 0 r:=hon';have hlaw:=fun(htk:(zEt m zs ss r c.len signals k a).tick<1099511627776)=>zTU hF hr hkd hcon hc (zEt m zs ss r c.len signals k a) cn ⟨by omega,h5.1⟩ hsl htk (by omega) signals a (zUY h2) h2
   have hca:=zT2 hF hcon c.len (zEt m zs ss r c.len signals k a).ego.shi (zEt m zs ss r c.len signals k a).ego.slo hlen e2;rw[<-zRZ,h5.2]at hca;rw[hlaw (by omega),<-hca];rfl
  ·have e:Pl.u5 (a::t)=t:=by
    have:1<(a::t).length:=by cases t with |nil=>exact absurd rfl ht |cons b t=>simp
    simp only[Pl.u5,if_pos this];rfl
   rw[e,zUm];obtain⟨g1,g2,g3,g4⟩:=zUs hf hw hr c.len (zKh m zs 0 r) (pvV m zs r) signals t (0+1) 0 _ _ (InK.refl _) cn cn h3 h4;exact⟨zUV h1 cn,zUX h2 ht,g1,g2,zUu g3 (by have:=(zte g4).1.v;omega) h5⟩
 ·cases h3
open Go Go.Eng
def gF(less:List Int)(i:Nat):Int:=if less.length=0 then 0 else(less.getD (i % less.length) 0) % 1073741824
def shF(b:zk)(g:Int):zk:=⟨b.lane,b.lo+g % 700,b.hi-g / 11 % 700,b.vlo+g % 30,b.vhi-g / 7 % 30,b.hold⟩
def kpF(b:zk)(g:Int):Bool:=decide ((shF b g).lo<=(shF b g).hi)&&decide ((shF b g).vlo<=(shF b g).vhi) && !decide (g % 5=1)
def naF(less:List Int):Nat->List zk->List zk
 |_,[]=>[]
 |i,b::r=>(if kpF b (gF less i)=true then [shF b (gF less i)] else [])++naF less (i+1) r
theorem zUP(less:List Int)(i:Nat):0<=gF less i/\gF less i<1073741824:=by
 unfold gF;split<;>omega
structure NB(b:zk):Prop where
 lo:0<=b.lo/\b.lo<=1000000000
 hi:0<=b.hi/\b.hi<=1000000000
 vlo:0<=b.vlo/\b.vlo<=1000000000
 vhi:0<=b.vhi/\b.vhi<=1000000000
 le:b.lo<=b.hi
 vle:b.vlo<=b.vhi
inductive Nst:List zk->Cl->Mem->Prop
 |nil:Nst [] .jd []
 |own (out:List zk) (j:Nat) (G:Mem):out≠[]->G[j]?=some (some (own 6 (zI out)))->Nst out (.slice (j+3) out.length 6 0 out.length none) G
abbrev naE(less:List Int)(i:Nat):Env:=[(6,.w (W i)),(4,.w (Pt 1)),(2,.w (Pt 0)),(1,.w (.c (.jc (zu less)))),(5,.w (Pt 2))]
abbrev naM(k:zci)(v:Nat)(S:Cl)(G:Mem):Mem:=bx 6 (zG k)::bx 6 zFA::bxv v 6 (zTL k.tick S k.ego)::G
theorem zVC(k:zci)(hk:k.jQ.length<=1000000000)(less:List Int)(hl:less.length<=1000)(i:Nat)(hi:i<k.jQ.length)(hb:NB k.jQ[i])(out:List zk)(ho:out.length<=i)(v:Nat)(S:Cl)(G:Mem)(hS:Nst out S G) :
  ∃v' S' G',Nst (out++if kpF k.jQ[i] (gF less i)=true then [shF k.jQ[i] (gF less i)] else []) S' G'/\Y L Cs zT9 (some [6,4,2,1,5]) 3 (naE less i) (naM k v S G)=Y L Cs zT9 (some [6,4,2,1,5]) 3 (naE less (i+1)) (naM k v' S' G'):=by
 have hw:=zB (i:=i) (by omega);have hii:(i:Int)<k.jQ.length:=by omega
 have hg:=zUP less i;have hG:(less.length=0/\gF less i=0)\/(0<less.length/\∃(h:i % less.length<less.length),gF less i=less[i % less.length] % 1073741824):=by
  by_cases c:less.length=0
  ·exact .inl ⟨c,by unfold gF;rw[if_pos c]⟩
  ·have h:=qJ i (show 0<less.length by omega);refine .inr ⟨by omega,h,?_⟩;unfold gF;rw[if_neg c,jp,jr h];rfl
 have hq1:∀x:Int,(gF less i).tmod x=gF less i % x:=fun x=>ky hg.1
 have hq2:∀x:Int,(gF less i).tdiv x=gF less i / x:=fun x=>kq hg.1
 have hq3:(gF less i / 11).tmod 700=gF less i / 11 % 700:=ky (by omega);have hq4:(gF less i / 7).tmod 30=gF less i / 7 % 30:=ky (by omega);have hq5:Int.tmod (i:Int) (less.length:Int)=((i % less.length:Nat):Int):=rfl;have w1:=kg (gF less i / 11);have w2:=kg (gF less i / 7);generalize hgg:gF less i=g at *;generalize hbb:k.jQ[i]=b at *;obtain⟨bl,lo,bhi,vlo,vhi,hold⟩:=b;obtain⟨⟨l1,l2⟩,⟨h1,h2⟩,⟨a1,a2⟩,⟨c1,c2⟩,le,vle⟩:=hb;simp only at l1 l2 h1 h2 a1 a2 c1 c2 le vle;have w3:=kg (lo+g % 700);have w4:=kg (bhi-g / 11 % 700);have w5:=kg (vlo+g % 30);have w6:=kg (vhi-g / 7 % 30);have jV:(out.length+1)*48<=140737488355328:=by omega
 have yS:∀n:Int,R L Cs zEd [W n,W 1073741824] []=some (.w (W (n % 1073741824)),[]):=fun n=>zD0 n 1073741824 (by omega) (by omega)
 have x0:IntKind.i64.wrap 0=0:=rfl;have y1:=kg lo;have y2:=kg bhi;have y3:=kg vlo;have y4:=kg vhi;rcases hG with⟨hl0,hg0⟩ |⟨hl0,hlt,hge⟩
 ·subst hg0;have hkp:kpF ⟨bl,lo,bhi,vlo,vhi,hold⟩ 0=true:=by simp[kpF,shF,le,vle]
  have hsh:shF ⟨bl,lo,bhi,vlo,vhi,hold⟩ 0=⟨bl,lo,bhi,vlo,vhi,hold⟩:=by simp[shF]
  rw[if_pos hkp,hsh];cases hS with
  |nil =>
   refine⟨v+1,.slice 5 1 6 0 1 none,[bxv 5 6 (ze ⟨bl,lo,bhi,vlo,vhi,hold⟩),some (own 6 [ze ⟨bl,lo,bhi,vlo,vhi,hold⟩]),some (own 6 [ze ⟨bl,lo,bhi,vlo,vhi,hold⟩])],Nst.own [⟨bl,lo,bhi,vlo,vhi,hold⟩] 2 _ (by simp) rfl,?_⟩;rw[zj zT9.eq_1];simp (maxSteps:=1000000) [naE,naM,zG,zTL,hi,hii,hbb,ze,hw,zg,zH,hl0,x0,y1,y2,y3,y4,le,vle,Int.zero_tmod]
  |own out j G hne hG0 =>
   have hjG:j<G.length:=(jJ.1 hG0).1;have hg1:∀N:Mem,(G++N)[j]?=some (some (own 6 (zI out))):=fun N=>by rw[js hjG,hG0]
   have yV:∀(N:Mem) (x:Option Blk),(G++N).set j x=G.set j x++N:=fun N x=>qF _ _ hjG
   have hE:∀(x:Option Blk) (N:Mem),(G++x::N)[G.length]?=some x:=fun x N=>by simp
   have hE2:∀(x y:Option Blk) (N:Mem),(G++x::y::N)[G.length+1]?=some y:=fun x y N=>by rw[jN (by omega)];simp
   have hEs:∀(x y:Option Blk) (N:Mem),(G++x::N).set G.length y=G++y::N:=fun x y N=>by rw[kM _ _ (jm _)];simp
   have hdr:∀(E:Env) (x y:Option Blk) (w g len:Nat) (N:Mem),j7 3 E (x::y::bxv w 6 (zTL k.tick (.slice (j+3) g 6 0 len none) k.ego)::N)=(x::y::bxv w 6 (zTL k.tick (.slice (j+3) g 6 0 len none) k.ego)::N):=by
    intro E x y w g len N;unfold j7;split
    ·rfl
    ·rw[if_neg];simp[zH,Blk.below,Eng.below,v9]
   simp only[own,zgg]at hg1;simp only[bxv,zTL]at hdr;refine⟨v+1,.slice (j+3) (out++[zk.mk bl lo bhi vlo vhi hold]).length 6 0 (out++[zk.mk bl lo bhi vlo vhi hold]).length none,G.set j (some (own 6 (zI (out++[zk.mk bl lo bhi vlo vhi hold]))))++[bxv 5 6 (ze (zk.mk bl lo bhi vlo vhi hold)),some (own 6 [ze (zk.mk bl lo bhi vlo vhi hold)])],Nst.own _ j _ (by simp) (by rw[js (by simpa using hjG),ku hjG]),?_⟩;rw[zj zT9.eq_1];simp (maxSteps:=1000000) [naE,naM,zG,zTL,hi,hii,hbb,ze,hw,zg,zH,hl0,x0,y1,y2,y3,y4,le,vle,Int.zero_tmod,hg1,yV,hE,hE2,hEs,hdr,jV,-j7]
 ·have hl1:¬less.length=0:=by omega
  have BF:(0:Int)<less.length:=by omega
  have BG:=hge.symm;have hq6:0<=(i:Int) % (less.length:Int):=qj _ (by omega);have hq7:(i:Int) % (less.length:Int)<less.length:=qk _ (by omega);have hq8:((i:Int) % (less.length:Int)).toNat=i % less.length:=by rw[<-Int.natCast_emod];exact Int.toNat_natCast _
  cases hS with
  |nil =>
   by_cases c3:lo+g % 700<=bhi-g / 11 % 700
   ·by_cases c4:vlo+g % 30<=vhi-g / 7 % 30
    ·by_cases c5:g % 5=1
     ·have hkp:(if kpF (zk.mk bl lo bhi vlo vhi hold) g=true then [shF (zk.mk bl lo bhi vlo vhi hold) g] else [])=[]:=by simp[kpF,shF,c3,c4,c5]
      refine⟨v,.jd,[],by rw[hkp];exact Nst.nil,?_⟩;rw[zj zT9.eq_1];simp (maxSteps:=1000000) [naE,naM,zG,zTL,hi,hii,hbb,ze,hw,zg,zH,hl0,hl1,BF,BG,yS,hq1,hq2,hq3,hq4,hq5,hq6,hq7,hq8,hlt,w1,w2,w3,w4,w5,w6,jV,c3,c4,c5]
     ·have hkp:(if kpF (zk.mk bl lo bhi vlo vhi hold) g=true then [shF (zk.mk bl lo bhi vlo vhi hold) g] else [])=[(zk.mk bl (lo+g % 700) (bhi-g / 11 % 700) (vlo+g % 30) (vhi-g / 7 % 30) hold)]:=by simp[kpF,shF,c3,c4,c5]
      refine⟨v+1,.slice 5 1 6 0 1 none,[bxv 5 6 (ze (zk.mk bl (lo+g % 700) (bhi-g / 11 % 700) (vlo+g % 30) (vhi-g / 7 % 30) hold)),some (own 6 [ze (zk.mk bl (lo+g % 700) (bhi-g / 11 % 700) (vlo+g % 30) (vhi-g / 7 % 30) hold)]),some (own 6 [ze (zk.mk bl (lo+g % 700) (bhi-g / 11 % 700) (vlo+g % 30) (vhi-g / 7 % 30) hold)])],by rw[hkp];exact Nst.own [(zk.mk bl (lo+g % 700) (bhi-g / 11 % 700) (vlo+g % 30) (vhi-g / 7 % 30) hold)] 2 _ (by simp) rfl,?_⟩;rw[zj zT9.eq_1];simp (maxSteps:=1000000) [naE,naM,zG,zTL,hi,hii,hbb,ze,hw,zg,zH,hl0,hl1,BF,BG,yS,hq1,hq2,hq3,hq4,hq5,hq6,hq7,hq8,hlt,w1,w2,w3,w4,w5,w6,jV,c3,c4,c5]
    ·have hkp:(if kpF (zk.mk bl lo bhi vlo vhi hold) g=true then [shF (zk.mk bl lo bhi vlo vhi hold) g] else [])=[]:=by simp[kpF,shF,c3,c4]
     refine⟨v,.jd,[],by rw[hkp];exact Nst.nil,?_⟩;rw[zj zT9.eq_1];simp (maxSteps:=1000000) [naE,naM,zG,zTL,hi,hii,hbb,ze,hw,zg,zH,hl0,hl1,BF,BG,yS,hq1,hq2,hq3,hq4,hq5,hq6,hq7,hq8,hlt,w1,w2,w3,w4,w5,w6,jV,c3,c4]
   ·have hkp:(if kpF (zk.mk bl lo bhi vlo vhi hold) g=true then [shF (zk.mk bl lo bhi vlo vhi hold) g] else [])=[]:=by simp[kpF,shF,c3]
    refine⟨v,.jd,[],by rw[hkp];exact Nst.nil,?_⟩;rw[zj zT9.eq_1];simp (maxSteps:=1000000) [naE,naM,zG,zTL,hi,hii,hbb,ze,hw,zg,zH,hl0,hl1,BF,BG,yS,hq1,hq2,hq3,hq4,hq5,hq6,hq7,hq8,hlt,w1,w2,w3,w4,w5,w6,jV,c3]
  |own out j G hne hG0 =>
   have hjG:j<G.length:=(jJ.1 hG0).1;have hg1:∀N:Mem,(G++N)[j]?=some (some (own 6 (zI out))):=fun N=>by rw[js hjG,hG0]
   have yV:∀(N:Mem) (x:Option Blk),(G++N).set j x=G.set j x++N:=fun N x=>qF _ _ hjG
   have hE:∀(x:Option Blk) (N:Mem),(G++x::N)[G.length]?=some x:=fun x N=>by simp
   have hE2:∀(x y:Option Blk) (N:Mem),(G++x::y::N)[G.length+1]?=some y:=fun x y N=>by rw[jN (by omega)];simp
   have hEs:∀(x y:Option Blk) (N:Mem),(G++x::N).set G.length y=G++y::N:=fun x y N=>by rw[kM _ _ (jm _)];simp
   have hdr:∀(E:Env) (x y:Option Blk) (w g len:Nat) (N:Mem),j7 3 E (x::y::bxv w 6 (zTL k.tick (.slice (j+3) g 6 0 len none) k.ego)::N)=(x::y::bxv w 6 (zTL k.tick (.slice (j+3) g 6 0 len none) k.ego)::N):=by
    intro E x y w g len N;unfold j7;split
    ·rfl
    ·rw[if_neg];simp[zH,Blk.below,Eng.below,v9]
   simp only[own,zgg]at hg1;simp only[bxv,zTL]at hdr;by_cases c3:lo+g % 700<=bhi-g / 11 % 700
   ·by_cases c4:vlo+g % 30<=vhi-g / 7 % 30
    ·by_cases c5:g % 5=1
     ·have hkp:(if kpF (zk.mk bl lo bhi vlo vhi hold) g=true then [shF (zk.mk bl lo bhi vlo vhi hold) g] else [])=[]:=by simp[kpF,shF,c3,c4,c5]
      refine⟨v,.slice (j+3) out.length 6 0 out.length none,G++[bxv 5 6 (ze (zk.mk bl (lo+g % 700) (bhi-g / 11 % 700) (vlo+g % 30) (vhi-g / 7 % 30) hold))],by rw[hkp,kJ];exact Nst.own out j _ hne (by rw[js hjG,hG0]),?_⟩;rw[zj zT9.eq_1];simp (maxSteps:=1000000) [naE,naM,zG,zTL,hi,hii,hbb,ze,hw,zg,zH,hl0,hl1,BF,BG,yS,hq1,hq2,hq3,hq4,hq5,hq6,hq7,hq8,hlt,w1,w2,w3,w4,w5,w6,jV,c3,c4,c5,hg1,yV,hE,hE2,hEs,hdr,-j7]
     ·have hkp:(if kpF (zk.mk bl lo bhi vlo vhi hold) g=true then [shF (zk.mk bl lo bhi vlo vhi hold) g] else [])=[(zk.mk bl (lo+g % 700) (bhi-g / 11 % 700) (vlo+g % 30) (vhi-g / 7 % 30) hold)]:=by simp[kpF,shF,c3,c4,c5]
      refine⟨v+1,.slice (j+3) (out++[(zk.mk bl (lo+g % 700) (bhi-g / 11 % 700) (vlo+g % 30) (vhi-g / 7 % 30) hold)]).length 6 0 (out++[(zk.mk bl (lo+g % 700) (bhi-g / 11 % 700) (vlo+g % 30) (vhi-g / 7 % 30) hold)]).length none,G.set j (some (own 6 (zI (out++[(zk.mk bl (lo+g % 700) (bhi-g / 11 % 700) (vlo+g % 30) (vhi-g / 7 % 30) hold)]))))++[bxv 5 6 (ze (zk.mk bl (lo+g % 700) (bhi-g / 11 % 700) (vlo+g % 30) (vhi-g / 7 % 30) hold)),some (own 6 [ze (zk.mk bl (lo+g % 700) (bhi-g / 11 % 700) (vlo+g % 30) (vhi-g / 7 % 30) hold)])],by rw[hkp];exact Nst.own _ j _ (by simp) (by rw[js (by simpa using hjG),ku hjG]),?_⟩;rw[zj zT9.eq_1];simp (maxSteps:=1000000) [naE,naM,zG,zTL,hi,hii,hbb,ze,hw,zg,zH,hl0,hl1,BF,BG,yS,hq1,hq2,hq3,hq4,hq5,hq6,hq7,hq8,hlt,w1,w2,w3,w4,w5,w6,jV,c3,c4,c5,hg1,yV,hE,hE2,hEs,hdr,-j7]
    ·have hkp:(if kpF (zk.mk bl lo bhi vlo vhi hold) g=true then [shF (zk.mk bl lo bhi vlo vhi hold) g] else [])=[]:=by simp[kpF,shF,c3,c4]
     refine⟨v,.slice (j+3) out.length 6 0 out.length none,G++[bxv 5 6 (ze (zk.mk bl (lo+g % 700) (bhi-g / 11 % 700) (vlo+g % 30) (vhi-g / 7 % 30) hold))],by rw[hkp,kJ];exact Nst.own out j _ hne (by rw[js hjG,hG0]),?_⟩;rw[zj zT9.eq_1];simp (maxSteps:=1000000) [naE,naM,zG,zTL,hi,hii,hbb,ze,hw,zg,zH,hl0,hl1,BF,BG,yS,hq1,hq2,hq3,hq4,hq5,hq6,hq7,hq8,hlt,w1,w2,w3,w4,w5,w6,jV,c3,c4,hg1,yV,hE,hE2,hEs,hdr,-j7]
   ·have hkp:(if kpF (zk.mk bl lo bhi vlo vhi hold) g=true then [shF (zk.mk bl lo bhi vlo vhi hold) g] else [])=[]:=by simp[kpF,shF,c3]
    refine⟨v,.slice (j+3) out.length 6 0 out.length none,G++[bxv 5 6 (ze (zk.mk bl (lo+g % 700) (bhi-g / 11 % 700) (vlo+g % 30) (vhi-g / 7 % 30) hold))],by rw[hkp,kJ];exact Nst.own out j _ hne (by rw[js hjG,hG0]),?_⟩;rw[zj zT9.eq_1];simp (maxSteps:=1000000) [naE,naM,zG,zTL,hi,hii,hbb,ze,hw,zg,zH,hl0,hl1,BF,BG,yS,hq1,hq2,hq3,hq4,hq5,hq6,hq7,hq8,hlt,w1,w2,w3,w4,w5,w6,jV,c3,hg1,yV,hE,hE2,hEs,hdr,-j7]
theorem zVD(k:zci)(hk:k.jQ.length<=1000000000)(hb:∀b∈k.jQ,NB b)(less:List Int)(hl:less.length<=1000):∀(r:List zk) (i:Nat) (out:List zk) (v:Nat) (S:Cl) (G:Mem),k.jQ.drop i=r->i<=k.jQ.length->out.length<=i->Nst out S G ->
  ∃v' S' G',Nst (out++naF less i r) S' G'/\Y L Cs zT9 (some [6,4,2,1,5]) 3 (naE less i) (naM k v S G)=some (.exit 0,(19,.w (Bo false))::naE less k.jQ.length,naM k v' S' G'):=by
 intro r;induction r with
 |nil =>
  intro i out v S G hd hi ho hS;obtain rfl:=zUb hd hi;refine⟨v,S,G,by simpa [naF]using hS,?_⟩;rw[zj zT9.eq_1];simp[naE,naM,zG]
 |cons b r ih =>
  intro i out v S G hd hi ho hS;obtain⟨hil,hx,hd'⟩:=zL hd;obtain⟨v1,S1,G1,h1,h2⟩:=zVC k hk less hl i hil (hb _ (jf hil)) out ho v S G hS;rw[hx]at h1;obtain⟨v2,S2,G2,h3,h4⟩:=ih (i+1) _ v1 S1 G1 hd' hil (by rw[jv];split<;>simp<;>omega) h1;refine⟨v2,S2,G2,?_,by rw[h2,h4]⟩;rw[naF,<-jE];exact h3
def zUr(e:Ego)(less:List Int):Ego:=if 1<less.length then(if e.slo+less.getD 0 0 % 100<=e.shi-less.getD 1 0 % 100 then⟨e.slo+less.getD 0 0 % 100,e.shi-less.getD 1 0 % 100,e.vlo,e.vhi⟩ else e) else e
def zUv(k:zci)(less:List Int):zci:=⟨k.tick,naF less 0 k.jQ,zUr k.ego less⟩
theorem zVb(k:zci)(hk:k.jQ.length<=1000000000)(hb:∀b∈k.jQ,NB b)(he:-1000000000000000<=k.ego.slo/\k.ego.slo<=1000000000000000/\-1000000000000000<=k.ego.shi/\k.ego.shi<=1000000000000000)(less:List Int)(hl:less.length<=1000) :
  R L Cs zUi [.a (zG k),.c (.jc (zu less))] []=some (.w (.a (zG (zUv k less))),[]):=by
 obtain⟨v,S,G,hS,hL⟩:=zVD k hk hb less hl k.jQ 0 [] 1 .jd [] rfl (jx _) (jm _) .nil;rw[jh]at hS;unfold zUv;generalize naF less 0 k.jQ=out at *;have yS:∀n:Int,R L Cs zEd [W n,W 100] []=some (.w (W (n % 100)),[]):=fun n=>zD0 n 100 (by omega) (by omega)
 obtain⟨e1,e2,e3,e4⟩:=he;simp only[naE,naM,zG,zTL,ji]at hL;by_cases c:1<less.length
 ·obtain⟨x0,x1,t,rfl⟩:∃x0 x1 t,less=x0::x1::t:=by
   match less,c with
   |x0::x1::t,_=>exact⟨x0,x1,t,rfl⟩
  have c':(1:Int)<((x0::x1::t).length:Int):=by omega
  simp only[zaP]at hL;have w1:=kg (k.ego.slo+x0 % 100);have w2:=kg (k.ego.shi-x1 % 100);have hn:zUr k.ego (x0::x1::t)=if k.ego.slo+x0 % 100<=k.ego.shi-x1 % 100 then⟨k.ego.slo+x0 % 100,k.ego.shi-x1 % 100,k.ego.vlo,k.ego.vhi⟩ else k.ego:=by unfold zUr;rw[if_pos c];rfl
  rw[hn];have ht:(0:Int)<(t.length:Int)+1:=by omega
  have ht3:(0:Int)<(t.length:Int)+1+1:=by omega
  have ht2:(1:Int)<(t.length:Int)+1+1:=by omega
  by_cases d:k.ego.slo+x0 % 100<=k.ego.shi-x1 % 100
  ·rw[if_pos d,zUa zUh rfl];cases hS with
   |nil=>simp (maxSteps:=1000000) [zUd,zG,hL,yS,c,c',ht,ht2,ht3,d,w1,w2,zg,zH,zdR]
   |own out j G hne hG =>
    have hjG:j<G.length:=(jJ.1 hG).1;have hg1:∀N:Mem,(G++N)[j]?=some (some (own 6 (zI out))):=fun N=>by rw[js hjG,hG]
    have hE:∀(x:Option Blk) (N:Mem),(G++x::N)[G.length]?=some x:=fun x N=>by simp
    have hEs:∀(x y:Option Blk) (N:Mem),(G++x::N).set G.length y=G++y::N:=fun x y N=>by rw[kM _ _ (jm _)];simp
    simp only[own,zgg]at hg1;simp (maxSteps:=1000000) [zUd,zG,hL,yS,c,c',ht,ht2,ht3,d,w1,w2,hg1,hE,hEs,zg,zH,zdR,look]
  ·rw[if_neg d,zUa zUh rfl];cases hS with
   |nil=>simp (maxSteps:=1000000) [zUd,zG,hL,yS,c,c',ht,ht2,ht3,d,w1,w2,zg,zH,zdR]
   |own out j G hne hG =>
    have hjG:j<G.length:=(jJ.1 hG).1;have hg1:∀N:Mem,(G++N)[j]?=some (some (own 6 (zI out))):=fun N=>by rw[js hjG,hG]
    have hE:∀(x:Option Blk) (N:Mem),(G++x::N)[G.length]?=some x:=fun x N=>by simp
    have hEs:∀(x y:Option Blk) (N:Mem),(G++x::N).set G.length y=G++y::N:=fun x y N=>by rw[kM _ _ (jm _)];simp
    simp only[own,zgg]at hg1;simp (maxSteps:=1000000) [zUd,zG,hL,yS,c,c',ht,ht2,ht3,d,w1,w2,hg1,hE,hEs,zg,zH,zdR,look]
 ·have c':¬(1:Int)<(less.length:Int):=by omega
  have hn:zUr k.ego less=k.ego:=by unfold zUr;rw[if_neg c]
  rw[hn,zUa zUh rfl];cases hS with
  |nil=>simp (maxSteps:=1000000) [zUd,zG,hL,c,c',zg,zH,zdR]
  |own out j G hne hG =>
   have hjG:j<G.length:=(jJ.1 hG).1;have hg1:∀N:Mem,(G++N)[j]?=some (some (own 6 (zI out))):=fun N=>by rw[js hjG,hG]
   simp only[own,zgg]at hG hg1;simp (maxSteps:=1000000) [zUd,zG,hL,c,c',hG,hg1,zg,zH,zdR,look]
theorem zVr{b:zk}{g:Int}(hg:0<=g):InP (shF b g) b:=by
 refine⟨rfl,?_,?_,?_,?_,?_⟩<;>simp only[shF]<;>omega
theorem zU3(less:List Int):∀(r:List zk) (i:Nat),Sub (naF less i r) r
 |[],i,p,hp=>by cases hp
 |b::r,i,p,hp=>by
  unfold naF at hp;rcases jw.1 hp with hp|hp
  ·split at hp
   ·rw[jz.1 hp];exact⟨b,jo ..,zVr (zUP less i).1⟩
   ·cases hp
  ·obtain⟨q,hq,h⟩:=zU3 less r (i+1) p hp;exact⟨q,jq _ hq,h⟩
theorem zVt{m:zD}(less:List Int):∀(r:List zk) (i:Nat),(∀b∈r,VB m b)->∀p∈naF less i r,VB m p
 |[],i,_,p,hp=>by cases hp
 |b::r,i,hv,p,hp=>by
  unfold naF at hp;rcases jw.1 hp with hp|hp
  ·split at hp
   ·rename_i c;rw[jz.1 hp];have hb:=hv b (jo ..);have hg:=zUP less i;unfold kpF at c;simp only[jg,decide_eq_true_eq]at c;have h1:=hb.lo;have h2:=hb.hi;have h3:=hb.vlo;have h4:=hb.vhi;have s1:(shF b (gF less i)).lo=b.lo+gF less i % 700:=rfl;have s2:(shF b (gF less i)).hi=b.hi-gF less i / 11 % 700:=rfl;have s3:(shF b (gF less i)).vlo=b.vlo+gF less i % 30:=rfl;have s4:(shF b (gF less i)).vhi=b.vhi-gF less i / 7 % 30:=rfl;exact⟨hb.lane,by omega,c.1.1,by show(shF b (gF less i)).hi<=z8 m b.lane;omega,by omega,c.1.2,by show(shF b (gF less i)).vhi<=zeR (zaK m b.lane);omega,hb.hold⟩
   ·cases hp
  ·exact zVt less r (i+1) (fun x hx=>hv x (jq _ hx)) p hp
theorem zVf(less:List Int):∀(r:List zk) (i:Nat),r.Pairwise Apt->(naF less i r).Pairwise Apt
 |[],i,_=>List.Pairwise.nil
 |b::r,i,h=>by
  rw[jH]at h;have ih:=zVf less r (i+1) h.2;unfold naF;split
  ·refine jH.2 ⟨fun p hp=>?_,ih⟩;obtain⟨q,hq,hpq⟩:=zU3 less r (i+1) p hp;have hb:=h.1 q hq;have hs:=zVr (b:=b) (zUP less i).1;have a1:=hs.lane;have a2:=hs.hi;have b1:=hpq.lane;have b2:=hpq.lo;unfold Apt at hb ⊢;omega
  ·exact ih
theorem zVe(k:zci)(less:List Int):InK (zUv k less) k:=by
 refine⟨rfl,?_,zU3 less _ _⟩;show InE (zUr k.ego less) k.ego;unfold zUr;split
 ·split
  ·exact⟨by simp only;omega,by simp only;omega,jL _,jL _⟩
  ·exact⟨jL _,jL _,jL _,jL _⟩
 ·exact⟨jL _,jL _,jL _,jL _⟩
theorem zUO{m:zD}(h:zcp m){k:zci}(hc:zdf m k=0)(less:List Int):zdf m (zUv k less)=0:=by
 obtain⟨⟨⟨e1,e2,e3⟩,⟨e4,e5,e6⟩⟩,t1,t2⟩:=zte hc;refine zFv ?_ (zVt less _ _ (zxJ h hc)) (zVf less _ _ (zFn h hc));have:(zUr k.ego less).slo<=(zUr k.ego less).shi/\k.ego.slo<=(zUr k.ego less).slo/\(zUr k.ego less).shi<=k.ego.shi/\(zUr k.ego less).vlo=k.ego.vlo/\(zUr k.ego less).vhi=k.ego.vhi:=by
  unfold zUr;split
  ·split
   ·rename_i c;exact⟨c,by simp only;omega,by simp only;omega,rfl,rfl⟩
   ·exact⟨e2,jL _,jL _,rfl,rfl⟩
  ·exact⟨e2,jL _,jL _,rfl,rfl⟩
 simp only[ziI,zUv,zsa];omega
theorem zSv(v a:Int)(hv:0<=v/\v<=2000)(ha:-2000<=a/\a<=2000):R L Cs zSt [W v,W a] []=some (.w (W (doV v a)),[]):=by
 have w0:=kg (v+a);have e:doV v a=max 0 (min (v+a) 2000):=by unfold doV;omega
 rw[e,zUa zSw rfl];simp[zSk,w0]
theorem zS3(v x:Int):doV v (max (-2000) (min x 2000))=doV v x:=by unfold doV;omega
abbrev slI(id:Nat)(l:List Int):WV:=.c (.slice id l.length 1 0 l.length none)
abbrev owI(l:List Int):Option Blk:=some (own 1 (zu l))
abbrev rsE(a v:Int)(l:List Int):Env:=[(1,.w (W a)),(2,.w (W v)),(7,.w (slI 2 l)),(3,.w (Pl.Pt 0))]
theorem zST{c:Car}(hc:c.ok):∀(f:Nat) (l:List Int) (a v:Int) (r:List Int),zGI c f (decide (l.length=0)) a v=some r->l.length+f<=1000->0<=v/\v<=2000 ->
  ∃a' v',Y L Cs zSh (some [1,2,7,3]) 3 (rsE a v l) [bx 5 (Pl.kT c),gb 1,owI l]=some (.exit 0,(24,.w (Bo false))::rsE a' v' (l++r),[bx 5 (Pl.kT c),gb 1,owI (l++r)]):=by
 intro f;induction f with
 |zero=>intro l a v r h;cases h
 |succ f ih =>
  intro l a v r h hf hv;have AC:=hc;obtain⟨q1,q2,q3,q4,q5,q6,q7,q8,q9,q10⟩:=AC;rw[zF7]at h;by_cases cnd:(decide (l.length=0)=true)\/0<v\/0<a
  ·rw[if_pos cnd]at h;obtain⟨r',hr',rfl⟩:=ja.1 h;have hx:=zNt hc a (-c.k8);have hd:=zG1 v (zFX c a (-c.k8));have hS:=zSv v (zFX c a (-c.k8)) hv (by omega);have hR:=Pl.AE hc a (-c.k8);have w0:=kg (-c.k8);simp only[Pl.kT]at hR;generalize zFX c a (-c.k8)=x at *;obtain⟨a',v',h⟩:=ih (l++[x]) x (doV v x) r' (by rw[show decide ((l++[x]).length=0)=false by simp];exact hr') (by simp;omega) hd;refine⟨a',v',?_⟩;rw[show l++x::r'=l++[x]++r' by simp,<-h];have jV:(l.length+1)*8<=140737488355328:=by omega
   rw[zj zSh.eq_1];by_cases e1:l.length=0
   ·have e2:l=[]:=km e1;subst e2;simp[rsE,slI,owI,own,Pl.kT,w0,hR,hS]
   ·have e0:((l.length:Int)==0)=false:=by rw[beq_eq_false_iff_ne];omega
    by_cases e2:0<v
    ·simp[rsE,slI,owI,own,Pl.kT,w0,hR,hS,e0,e1,e2,jV]
    ·have e3:0<a:=by
      rcases cnd with q|q|q
      ·exact absurd (of_decide_eq_true q) e1
      ·omega
      ·exact q
     simp[rsE,slI,owI,own,Pl.kT,w0,hR,hS,e0,e1,e2,e3,jV]
  ·rw[if_neg cnd]at h;obtain rfl:=vY h;have e1:¬l.length=0:=fun e=>cnd (.inl (by simp[e]))
   have e2:¬0<v:=fun e=>cnd (.inr (.inl e))
   have e3:¬0<a:=fun e=>cnd (.inr (.inr e))
   have e0:((l.length:Int)==0)=false:=by rw[beq_eq_false_iff_ne];omega
   refine⟨a,v,?_⟩;rw[zj zSh.eq_1];simp[rsE,slI,owI,own,Pl.kT,e0,e1,e2,e3]
theorem zSH{c:Car}(hc:c.ok)(a v:Int):R L Cs zSu [.a (Pl.kT c),W a,W v] []=some (.w (.c (.jc (zu (stops c a (max 0 (min v 2000)))))),[]):=by
 have h1:=Pl.Ak hc;obtain⟨h2,_,h4⟩:=zMs hc a (max 0 (min v 2000)) (by omega) (by omega);obtain⟨a',v',h3⟩:=zST hc 111 [] a (max 0 (min v 2000)) _ h2 (by simp) (by omega);generalize stops c a (max 0 (min v 2000))=r at *;simp only[Pl.kT]at h1;simp only[rsE,owI,slI,own,Pl.kT,zay,ju,jh,ji]at h3;rw[zUa zSx rfl];simp[zSl,Pl.kT,h1,h3,zg]
abbrev rpM(c:Car)(l:List Int):Mem:=[bx 5 (Pl.kT c),bx 1 [.jd],owI l]
abbrev zS2(q:List Int)(up hold:Nat)(i:Nat)(s:Drv):Env:=[(2,.w (W s.last)),(13,.w (slI 2 s.l)),(3,.w (W s.v)),(14,.w (W i)),(6,.w (Pl.Pt 0)),(5,.w (W hold)),(12,.w (Pl.Pt 1)),(4,.w (W up)),(1,.w (.c (.jc (zu q))))]
abbrev zS5(q:List Int)(up hold:Nat)(i:Nat)(s:Drv):Env:=[(31,.w (Bo false)),(2,.w (W s.last)),(13,.w (slI 2 s.l)),(3,.w (W s.v)),(14,.w (W i)),(6,.w (Pl.Pt 0)),(5,.w (W hold)),(12,.w (Pl.Pt 1)),(4,.w (W up)),(1,.w (.c (.jc (zu q))))]
theorem zSS(c:Car)(q:List Int)(hql:q.length<=1000)(up hold:Nat):∀(r:List Int) (i:Nat) (s:Drv),(q.take 5).drop i=r->i<=(q.take 5).length->s.l.length<=i->0<=s.v/\s.v<=2000 ->
  Y L Cs zSf (some [2,13,3,14,6,5,12,4,1]) 3 (zS2 q up hold i s) (rpM c s.l)=some (.exit 0,zS5 q up hold (q.take 5).length (Drv.queue r s),rpM c (Drv.queue r s).l):=by
 intro r;induction r with
 |nil =>
  intro i s hd hi hs hv;obtain rfl:=zUb hd hi;rw[zj zSf.eq_1];by_cases e:q.length<=5
  ·have e1:(q.take 5).length=q.length:=by simp;omega
   rw[e1];simp[zS2,zS5,rpM,Drv.queue]
  ·have e1:(q.take 5).length=5:=by simp;omega
   have e2:(5:Int)<q.length:=by omega
   have e3:5<q.length:=by omega
   rw[e1];simp[zS2,zS5,rpM,Drv.queue,e2,e3]
 |cons x r ih =>
  intro i s hd hi hs hv;obtain⟨hil,hx,hd'⟩:=zL hd;have h5:i<5/\i<q.length:=by simp at hil;omega
  have hx':q[i]'(h5.2)=x:=by rw[<-hx];simp
  have yG:=ih (i+1) (s.Ar x) hd' hil (by simp[Drv.Ar];omega) (zG1 ..);have hw:=zB (i:=i) (by omega);have hS:=zSv s.v (max (-2000) (min x 2000)) hv (by omega);rw[zS3]at hS;have jV:(s.l.length+1)*8<=140737488355328:=by omega
  have h5':(i:Int)<5:=by omega
  have h6':(i:Int)<q.length:=by omega
  have h6:=h5.2;rw[Drv.queue,<-yG,zj zSf.eq_1];simp[zS2,rpM,slI,owI,own,Pl.kT,h5',h6',h6,hx',hS,hw,jV,Drv.Ar]
abbrev zS1(hold n:Nat)(i:Nat)(s:Drv):Env:=[(2,.w (W s.last)),(13,.w (slI 2 s.l)),(3,.w (W s.v)),(15,.w (W i)),(4,.w (W n)),(12,.w (Pl.Pt 1)),(5,.w (W hold)),(6,.w (Pl.Pt 0))]
theorem zSR{c:Car}(hc:c.ok)(hold n:Nat)(hn:n<=20):∀(t i:Nat) (s:Drv),i+t=n->s.l.length<=5+i->0<=s.v/\s.v<=2000 ->
  Y L Cs zSe (some [2,13,3,15,4,12,5,6]) 3 (zS1 hold n i s) (rpM c s.l)=some (.exit 2,(59,.w (Bo false))::zS1 hold n n (Drv.uG c c.qN t s),rpM c (Drv.uG c c.qN t s).l):=by
 intro t;induction t with
 |zero =>
  intro i s hi hs hv;obtain rfl:i=n:=by omega
  rw[zj zSe.eq_1];simp[zS1,rpM,Drv.uG]
 |succ t ih =>
  intro i s hi hs hv;have yG:=ih (i+1) (s.Ar (zFX c s.last c.qN)) (by omega) (by simp[Drv.Ar];omega) (zG1 ..);have hw:=zB (i:=i) (by omega);have hx:=zNt hc s.last c.qN;have hR:=Pl.AE hc s.last c.qN;have AC:=hc;obtain⟨q1,q2,q3,q4,q5,q6,q7,q8,q9,q10⟩:=AC;have hS:=zSv s.v (zFX c s.last c.qN) hv (by omega);have jV:(s.l.length+1)*8<=140737488355328:=by omega
  have h5:(i:Int)<n:=by omega
  have h5':(i:Int)<20:=by omega
  have h6:i<20:=by omega
  have h7:i<n:=by omega
  rw[Drv.uG,<-yG,zj zSe.eq_1];generalize zFX c s.last c.qN=x at *;simp only[Pl.kT]at hR;simp[zS1,rpM,slI,owI,own,Pl.kT,h5,h5',h6,h7,hR,hS,hw,jV,Drv.Ar]
abbrev zS0(n:Nat)(i:Nat)(s:Drv):Env:=[(2,.w (W s.last)),(13,.w (slI 2 s.l)),(3,.w (W s.v)),(16,.w (W i)),(5,.w (W n)),(12,.w (Pl.Pt 1)),(6,.w (Pl.Pt 0))]
theorem zSQ{c:Car}(hc:c.ok)(n:Nat)(hn:n<=20):∀(t i:Nat) (s:Drv),i+t=n->s.l.length<=25+i->0<=s.v/\s.v<=2000 ->
  Y L Cs zSd (some [2,13,3,16,5,12,6]) 3 (zS0 n i s) (rpM c s.l)=some (.exit 4,(80,.w (Bo false))::zS0 n n (Drv.uG c 0 t s),rpM c (Drv.uG c 0 t s).l):=by
 intro t;induction t with
 |zero =>
  intro i s hi hs hv;obtain rfl:i=n:=by omega
  rw[zj zSd.eq_1];simp[zS0,rpM,Drv.uG]
 |succ t ih =>
  intro i s hi hs hv;have yG:=ih (i+1) (s.Ar (zFX c s.last 0)) (by omega) (by simp[Drv.Ar];omega) (zG1 ..);have hw:=zB (i:=i) (by omega);have hx:=zNt hc s.last 0;have hR:=Pl.AE hc s.last 0;have AC:=hc;obtain⟨q1,q2,q3,q4,q5,q6,q7,q8,q9,q10⟩:=AC;have hS:=zSv s.v (zFX c s.last 0) hv (by omega);have jV:(s.l.length+1)*8<=140737488355328:=by omega
  have h5:(i:Int)<n:=by omega
  have h5':(i:Int)<20:=by omega
  have h6:i<20:=by omega
  have h7:i<n:=by omega
  rw[Drv.uG,<-yG,zj zSd.eq_1];generalize zFX c s.last 0=x at *;simp only[Pl.kT]at hR;simp[zS0,rpM,slI,owI,own,Pl.kT,h5,h5',h6,h7,hR,hS,hw,jV,Drv.Ar]
theorem zSy{c:Car}{w:Int}:∀{n:Nat} {s:Drv},0<=s.v/\s.v<=2000->0<=(Drv.uG c w n s).v/\(Drv.uG c w n s).v<=2000
 |0,s,h=>h
 |n+1,s,h=>zSy (n:=n) (zG1 s.v _)
theorem zSD:∀{q:List Int} {s:Drv},0<=s.v/\s.v<=2000->0<=(Drv.queue q s).v/\(Drv.queue q s).v<=2000
 |[],s,h=>h
 |x::q,s,h=>zSD (q:=q) (zG1 s.v _)
theorem zSO{c:Car}(hc:c.ok)(q:List Int)(hql:q.length<=1000)(last v:Int)(up hold:Nat)(hu:up<=20)(hh:hold<=20) :
  R L Cs zSq [.a (Pl.kT c),.c (.jc (zu q)),W last,W v,W up,W hold] []=some (.w (.a [.jc (zu (zJ2 c q last (max 0 (min v 2000)) up hold))]),[]):=by
 have h0:=Pl.Ak hc;have hv:0<=max 0 (min v 2000)/\max 0 (min v 2000)<=2000:=by omega
 generalize hvv:max 0 (min v 2000)=v' at hv;have ht5:(q.take 5).length<=5:=by simp;omega
 have hl1:(Drv.queue (q.take 5) (Drv.mk last v' [])).l.length=(q.take 5).length:=by rw[Drv.Az];simp
 have h1:=zSS c q hql up hold (q.take 5) 0 (Drv.mk last v' []) rfl (jx _) (by simp) hv;have g1:=zSD (q:=q.take 5) (s:=Drv.mk last v' []) hv;unfold zJ2;generalize Drv.queue (q.take 5) (Drv.mk last v' [])=s1 at *;have h2:=zSR hc hold up hu up 0 s1 (by omega) (by omega) g1;have g2:=zSy (c:=c) (w:=c.qN) (n:=up) g1;have hl2:=Drv.yE (c:=c) (w:=c.qN) (n:=up) (s:=s1);simp only[];generalize Drv.uG c c.qN up s1=s2 at *;have h3:=zSQ hc hold hh hold 0 s2 (by omega) (by omega) g2;have g3:=zSy (c:=c) (w:=0) (n:=hold) g2;have hl3:=Drv.yE (c:=c) (w:=0) (n:=hold) (s:=s2);generalize Drv.uG c 0 hold s2=s3 at *;have h4:=zSH hc s3.last s3.v;rw[show max 0 (min s3.v 2000)=s3.v by omega]at h4;have h5:=zMs hc s3.last s3.v g3.1 g3.2;generalize stops c s3.last s3.v=st at *;simp only[zS2,zS5,zS1,zS0,rpM,slI,owI,own,Pl.kT,zay,zfq,ju,ji]at h0 h1 h2 h3 h4;have jV:(s3.l.length+st.length)*8<=140737488355328:=by omega
 have hne:zu st≠[]:=by
  have:=h5.2.1;intro e;have e2:(zu st).length=0:=by rw[e];rfl
  rw[zfq]at e2;omega
 have hT:List.take (s3.l.length+st.length) (zu s3.l++zu st)=zu s3.l++zu st:=jU (by simp);rw[zUa zSs rfl];simp[zSi,Pl.kT,hvv,h0,h1,h2,h3,h4,jV,hne,hT,zg,zX]
theorem zLx{c:zK8}{w:Int}:∀{n:Nat} {s:Drv},0<=s.v/\s.v<=2000->0<=(Drv.uG c w n s).v/\(Drv.uG c w n s).v<=2000
 |0,s,h=>h
 |n+1,s,h=>zLx (n:=n) (zG1 s.v _)
theorem zMg:∀{q:List Int} {s:Drv},0<=s.v/\s.v<=2000->0<=(Drv.queue q s).v/\(Drv.queue q s).v<=2000
 |[],s,h=>h
 |x::q,s,h=>zMg (q:=q) (zG1 s.v _)
theorem zOt{c:zK8}(hc:c.ok)(q:List Int)(last v:Int)(up hold:Nat)(hv:0<=v/\v<=2000):(zJ2 c q last v up hold).length<=115+up+hold:=by
 unfold zJ2;have h1:=zMg (q:=q.take 5) (s:=Drv.mk last v []) hv;have h2:=zLx (c:=c) (w:=c.qN) (n:=up) h1;have h3:=zLx (c:=c) (w:=0) (n:=hold) h2;have hl1:(Drv.queue (q.take 5) (Drv.mk last v [])).l.length=(q.take 5).length:=by rw[Drv.Az];simp
 have hl2:=Drv.yE (c:=c) (w:=c.qN) (n:=up) (s:=Drv.queue (q.take 5) (Drv.mk last v []));have hl3:=Drv.yE (c:=c) (w:=0) (n:=hold) (s:=Drv.uG c c.qN up (Drv.queue (q.take 5) (Drv.mk last v [])));generalize Drv.uG c 0 hold (Drv.uG c c.qN up (Drv.queue (q.take 5) (Drv.mk last v [])))=s at *;have h4:=(zMs hc s.last s.v h3.1 h3.2).2.2;have h5:(q.take 5).length<=5:=by simp;omega
 simp only[jv];omega
theorem zVo(n:Int):∃m zs ss,zKj m zs ss/\(∀w∈m.kE,0<=w.uH)/\(∀l,zdA m l=0->∀z:Nat,z<zs.length->zTY (zKh m zs 0 l) z=true)/\R L Cs zY [W n] []=some (.w (.a (zf m)),[]):=by
 obtain⟨k,lim,r,o1,o2,o3,v,w,b,t,hk,nu,hR⟩:=zA5 n;have hF:=zTs k hk nu;refine⟨_,_,_,hF,?_,fun l hr z hz=>?_,hR⟩
 ·have:(zq k lim r o1 o2 o3 v w b t).kE=zak w b t:=rfl;rw[this];have ht:=nu.t;rcases zbp w b t with e|e
  ·rw[e];intro x hx;cases hx
  ·rw[e];intro x hx;rw[jz.1 hx];show 0<=t*200;omega
 ·exact jB.1 (zTp hF.full.vG (zT6 k hk lim r o1 o2 o3 v w b t) hr) z (qf.2 hz)
theorem zVF{m:zD}(h:zcp m){b:zk}(hb:VB m b):NB b:=by
 have h1:=hb.lo;have h2:=hb.le;have h3:=hb.hi;have h4:=hb.vlo;have h5:=hb.vle;have h6:=hb.vhi;have hl:=(zcX h hb.lane).2;have ht:zeR (zaK m b.lane)<=2000:=by unfold zeR;(repeat' split)<;>omega
 exact⟨by omega,by omega,by omega,by omega,h2,h5⟩
theorem zVE{m:zD}{zs:List Zon}{ss:List Sgn}(hf:zmq m zs ss){k:zci}(hc:zdf m k=0)(less:List Int)(hl:less.length<=1000):R L Cs zUi [.a (zG k),.c (.jc (zu less))] []=some (.w (.a (zG (zUv k less))),[]):=by
 obtain⟨⟨⟨e1,e2,e3⟩,_⟩,_⟩:=zte hc;exact zVb k (by have:=zvx hf.qH hf.vG hc;omega) (fun b hb=>zVF hf.qH (zxJ hf.qH hc b hb)) (by omega) less hl
theorem zVs{c:zK8}(hc:c.ok)(q:List Int)(hq:∀a∈q,zk0 a)(last v:Int)(hv:0<=v/\v<=2000)(up hold:Nat):∀a∈zJ2 c q last v up hold,zk0 a:=by
 have hcc:=hc;obtain⟨q1,q2,q3,q4,q5,q6,q7,q8,q9,q10⟩:=hcc;have hr:∀(w:Int) (n:Nat) (s:Drv),(∀a∈s.l,zk0 a)->∀a∈(Drv.uG c w n s).l,zk0 a:=by
  intro w n;induction n with
  |zero=>intro s h;exact h
  |succ n ih =>
   intro s h;refine ih _ fun a ha=>?_
   simp only[Drv.Ar,jw,jz]at ha;rcases ha with ha|rfl
   ·exact h a ha
   ·have:=zNt hc s.last w;exact⟨by omega,by omega⟩
 have hs:∀(m:Nat) (f:Bool) (last v:Int) (l:List Int),zGI c m f last v=some l->∀a∈l,zk0 a:=by
  intro m;induction m with
  |zero=>intro f last v l h;cases h
  |succ m ih =>
   intro f last v l h;rw[zF7]at h;split at h
   ·obtain⟨l',h',rfl⟩:=ja.1 h;intro a ha;rcases jy.1 ha with rfl|ha
    ·have:=zNt hc last (-c.k8);exact⟨by omega,by omega⟩
    ·exact ih _ _ _ _ h' a ha
   ·obtain rfl:=vY h;intro a ha;cases ha
 intro a ha;unfold zJ2 at ha;simp only[jw]at ha;have g1:=zMg (q:=q.take 5) (s:=Drv.mk last v []) hv;have g2:=zLx (c:=c) (w:=c.qN) (n:=up) g1;have g3:=zLx (c:=c) (w:=0) (n:=hold) g2;rcases ha with ha|ha
 ·refine hr _ _ _ (hr _ _ _ fun a ha=>?_) a ha;rw[Drv.B8,jh]at ha;exact hq a (qm ha)
 ·exact hs _ _ _ _ _ (zMs hc _ _ g3.1 g3.2).1 a ha
theorem zUZ(n rt x0 x1 x2 x3 a0 a1 a2 a3 up hold:Int)(l:List Bit)(hl:∀x∈l,zk0 x.hold)(less:List Int)(signals:Bool) :
  R L Cs zUg [W n,W rt,.a [I x0,I x1,I x2,I x3],.c (.jc (zDS l)),.a [I a0,I a1,I a2,I a3],.c (.jc (zu less)),W up,W hold,Bo signals] []=some (.w (Bo true),[]):=by
 have ha:=Pl.C4;by_cases c1:(6:Int)<l.length
 ·have c1':6<l.length:=by omega
  rw[zUa zUf rfl];simp[zUe,c1,c1',ha,zg]
 have c1':¬6<l.length:=by omega
 by_cases c2:(8:Int)<less.length
 ·have c2':8<less.length:=by omega
  rw[zUa zUf rfl];simp[zUe,c1,c1',c2,c2',ha,zg]
 have c2':¬8<less.length:=by omega
 obtain⟨m,zs,ss,hF,hwk,hcon,hM⟩:=zVo n;have hf:=hF.full;have hm:=hf.qH;have hp:=hF.pos;obtain⟨kk,hR⟩:=zES hm rt;have hrl:=zEm m kk;have hon:=zEy hm kk;have hr:=zE5 hf hp kk;generalize zDT m kk=r at *;have hK:=zFz hm hp r hrl l (by omega) hl a0 a1 (a2 % 270) a3;obtain⟨v1,v2,v3⟩:=zEM hm hp r hrl hon l a0 a1 (a2 % 270) a3;have hKl:(zD1 m r l a0 a1 (a2 % 270) a3).jQ.length<=6:=by
  have:=zkq (l.map (zDN m));rw[qt]at this;simp only[zD1];omega
 have hmd:=zD0 a2 270 (by omega) (by omega);have hmu:=zEW up 7 (by omega) (by omega);have hmh:=zEW hold 5 (by omega) (by omega);obtain⟨u,hu⟩:=jt (qj up (show(7:Int)≠0 by decide));obtain⟨hh,hhd⟩:=jt (qj hold (show(5:Int)≠0 by decide));have hu2:u<=20:=by omega
 have hh2:hh<=20:=by omega
 rw[hu]at hmu;rw[hhd]at hmh;have hC:=Pl.R_made x0 x1 x2 x3;have hcok:=Pl.CD x0 x1 x2 x3;generalize Pl.Bx x0 x1 x2 x3=c at *;generalize a2 % 270=aa at *;generalize hK0:zD1 m r l a0 a1 aa a3=K0 at *;have hO:=zPg hm r (by omega) c.len K0 (by omega) (fun z hz=>zFo hm (zxJ hm v1 z hz));have hOl:=zO2 hm r c.len K0 (by omega);have hOt:(zO3 m r c.len K0).tick<=1000:=by
  unfold zO3;split
  ·exact v2
  ·exact v2
 generalize zO3 m r c.len K0=K at *;have hP:=zSO hcok [] (by simp) 0 K.ego.vhi u hh hu2 hh2;have hci:=zOt hcok [] 0 (max 0 (min K.ego.vhi 2000)) u hh (by omega);have hin:=zVs hcok [] (fun _ h=>nomatch h) 0 (max 0 (min K.ego.vhi 2000)) (by omega) u hh;generalize zJ2 c [] 0 (max 0 (min K.ego.vhi 2000)) u hh=p at *;have hV:=zOJ hF r (by omega) c K hOl p hin (by omega) signals;have hy:=zUm m zs ss r c K p signals;generalize hyy:zOk m zs ss r c K p signals=y at *;obtain⟨y1,y2,y3⟩:=y;cases y1 with
 |false =>
  simp only[zf,zG,Pl.kT,zJ4,zJY,zay]at hM hR hK hC hO hP hV;rw[zUa zUf rfl];simp (maxSteps:=1000000) [zUe,zf,zG,Pl.kT,c1,c1',c2,c2',ha,hM,hR,hK,hC,hO,hP,hV,hmd,hmu,hmh,zg,zH]
 |true =>
  have hT:(zOk m zs ss r c K p signals).1=true:=by rw[hyy]
  obtain⟨h1,h2,-,-,-⟩:=(zUm m zs ss r c K p signals).1 hT;obtain⟨-,-,hcc,hkc⟩:=zNz h1;obtain⟨-,hne,-⟩:=zVR h2;have hN:=zVE hf hkc less (by omega);have hNI:=zUC hf hwk (zVe K less) (zUO hm hkc less) hT;have hNok:=zUO hm hkc less;obtain⟨a,t,rfl⟩:∃a t,p=a::t:=by cases p with|nil=>exact absurd rfl hne|cons a t=>exact⟨a,t,rfl⟩
  obtain⟨s1,s2,s3⟩:=zVh hF hwk (hcon r hr) (by omega) hT;have hS:=zy6 hf r (by omega) c.len K hOl (fun b hb=>zFo hm (zxJ hm hkc b hb)) a (hin a (jo ..)) signals;rw[zsH,if_pos s1]at hS;have hnx:zpg m zs ss r c.len K (zaN m r K.ego a) signals=zEt m zs ss r c.len signals K a:=rfl;rw[hnx]at hS;have hA:=Pl.R_Act (a::t) (by omega) 0;have hTl:=Pl.R_Tail (a::t) (by omega);have htin:∀x∈Pl.u5 (a::t),zk0 x:=fun x hx=>by
   unfold Pl.u5 at hx;split at hx
   ·exact hin x (qG hx)
   ·exact hin x hx
  have htl:(Pl.u5 (a::t)).length<=1000:=by
   unfold Pl.u5;split
   ·rw[yJ];omega
   ·omega
  generalize hnk:zEt m zs ss r c.len signals K a=nx at *;generalize Pl.u5 (a::t)=q at *;have hnl:nx.jQ.length<=100000000000:=by have:=zvx hm hf.vG s2;omega
  have hN2:=zVE hf s2 less (by omega);have hn2:=zUO hm s2 less;have hI2:=zUC hf hwk (zVe nx less) hn2 s3;have w1:=zOJ hF r (by omega) c (zUv K less) (by have:=zvx hm hf.vG hNok;omega) (a::t) hin (by omega) signals;have w2:=zOJ hF r (by omega) c nx hnl q htin htl signals;have w3:=zOJ hF r (by omega) c (zUv nx less) (by have:=zvx hm hf.vG hn2;omega) q htin htl signals;generalize zOk m zs ss r c (zUv K less) (a::t) signals=z1 at *;generalize zOk m zs ss r c nx q signals=z2 at *;generalize zOk m zs ss r c (zUv nx less) q signals=z3 at *;obtain⟨z11,z12,z13⟩:=z1;obtain⟨z21,z22,z23⟩:=z2;obtain⟨z31,z32,z33⟩:=z3;simp only at hNI s3 hI2;subst hNI s3 hI2;generalize zUv K less=nk at *;generalize zUv nx less=nk2 at *;have hAe:Pl.actF (a::t) 0=a:=by
   have e0:(max 0 (min 0 (t.length:Int))).toNat=0:=by omega
   simp[Pl.actF,e0]
  rw[hAe]at hA;generalize zbf (zhp (zlg (zfV m zs ss r c.len K (zaN m r K.ego a) signals)))=sw at *;generalize ep:a::t=p at *;simp only[zf,zG,Pl.kT,zJ4,zJY,zay]at hM hR hK hC hO hP hV hN hS hA hTl hN2 w1 w2 w3;rw[zUa zUf rfl];simp (maxSteps:=1000000) [zUe,zf,zG,Pl.kT,c1,c1',c2,c2',ha,hM,hR,hK,hC,hO,hP,hV,hmd,hmu,hmh,hN,hS,hA,hTl,hN2,w1,w2,w3,zg,zH]
theorem zU2:∀xs,zot [zmN,zmN,.st [zmN,zmN,zmN,zmN],.slice zFC,.st [zmN,zmN,zmN,zmN],.slice zmN,zmN,zmN,.bool] xs->∃M',R L Cs zUg xs []=some (.w (.c (.bool true)),M'):=by
 intro xs h;simp only[zot]at h;obtain⟨c1,_,rfl,h1,c2,_,rfl,h2,c3,_,rfl,h3,c4,_,rfl,h4,c5,_,rfl,h5,c6,_,rfl,h6,c7,_,rfl,h7,c8,_,rfl,h8,c9,_,rfl,h9,rfl⟩:=h;simp only[zfo,znD]at h1 h2 h3 h4 h5 h6 h7 h8 h9;obtain⟨n,rfl,_⟩:=h1;obtain⟨rt,rfl,_⟩:=h2;obtain⟨_,_,rfl,⟨x0,rfl,_⟩,_,_,rfl,⟨x1,rfl,_⟩,_,_,rfl,⟨x2,rfl,_⟩,_,_,rfl,⟨x3,rfl,_⟩,rfl⟩:=h3;obtain⟨rows,rfl,_,Au⟩:=h4;obtain⟨l,rfl,hl⟩:=zE2 (rows:=rows) (fun r hr=>by simp only[zfo,znD];exact Au r hr);obtain⟨_,_,rfl,⟨a0,rfl,_⟩,_,_,rfl,⟨a1,rfl,_⟩,_,_,rfl,⟨a2,rfl,_⟩,_,_,rfl,⟨a3,rfl,_⟩,rfl⟩:=h5;obtain⟨uO,rfl,_,yy⟩:=h6;obtain⟨q,rfl,_⟩:=zxB (rows:=uO) (fun r hr=>by simp only[zfo];exact yy r hr);obtain⟨up,rfl,_⟩:=h7;obtain⟨hold,rfl,_⟩:=h8;obtain⟨s,rfl⟩:=h9;exact⟨[],zUZ n rt x0 x1 x2 x3 a0 a1 a2 a3 up hold l hl q s⟩
theorem zq2(a:Int):R L [] zlc [W a] []=some (.w (Bo false),[]):=by
 rw[zUa zle rfl];simp[zfU]
theorem zn3(a:Int):R L [] zi5 [W a] []=some (.w (Bo false),[]):=by
 rw[zUa zi9 rfl];simp[ze6]
theorem zuB(a b:Int):R L [] zi6 [W a,W b] []=some (.w (W (zgQ a b)),[]):=by
 have h1:=zq2 a;have h2:=zq2 b;rw[zUa zja rfl];unfold zgQ;by_cases h:a<b
 ·simp[zb3,h1,h2,h]
 ·by_cases h':b<a
  ·simp[zb3,h1,h2,h,h']
  ·simp[zb3,h1,h2,h,h']
theorem zmv(a b:Int):R L [] zhQ [W a,W b] []=some (.w (W (zgQ a b)),[]):=by
 have h1:=zn3 a;have h2:=zn3 b;rw[zUa zhS rfl];unfold zgQ;by_cases h:a<b
 ·simp[zbq,h1,h2,h]
 ·by_cases h':b<a
  ·simp[zbq,h1,h2,h,h']
  ·simp[zbq,h1,h2,h,h']
theorem zxz(b:Bool):R L [] zhB [Bo b] []=some (.w (W (if b then 1 else 0)),[]):=by
 rw[zUa zp4 rfl];cases b<;>simp[zhF]
def orI(a b c d:Int):Int:=if a=0 then(if b=0 then(if c=0 then d else c) else b) else a
abbrev orE(a b c d:Int)(i:Int):Env:=[(7,.w (W 4)),(6,.w (.c (.jc [[I a],[I b],[I c],[I d]]))),(3,.w (W 0)),(8,.w (W i))]
theorem or0(a b c d:Int):R L [] zob [.c (.jc [[I a],[I b],[I c],[I d]])] []=some (.w (W (orI a b c d)),[]):=by
 have w1:IntKind.i64.wrap 1=1:=rfl;have w2:IntKind.i64.wrap 2=2:=rfl;have w3:IntKind.i64.wrap 3=3:=rfl;have w4:IntKind.i64.wrap 4=4:=rfl;have h4:Y L [] zab (some [7,6,3,8]) 0 (orE a b c d 4) []=some (.exit 0,[(9,.w (Bo false)),(3,.w (W 0)),(6,.w (.c (.jc [[I a],[I b],[I c],[I d]]))),(7,.w (W 4)),(8,.w (W 4))],[]):=by
  rw[zj zab.eq_1];simp
 have h3:Y L [] zab (some [7,6,3,8]) 0 (orE a b c d 3) []=if d=0 then Y L [] zab (some [7,6,3,8]) 0 (orE a b c d 4) [] else some (.ret,[(2,.w (W d))],[]):=by
  rw[zj zab.eq_1];by_cases h:d=0
  ·simp[h,w4]
  ·have h':(d !=0)=true:=by simp[h]
   simp[h,h']
 have h2:Y L [] zab (some [7,6,3,8]) 0 (orE a b c d 2) []=if c=0 then Y L [] zab (some [7,6,3,8]) 0 (orE a b c d 3) [] else some (.ret,[(2,.w (W c))],[]):=by
  rw[zj zab.eq_1];by_cases h:c=0
  ·simp[h,w3]
  ·have h':(c !=0)=true:=by simp[h]
   simp[h,h']
 have h1:Y L [] zab (some [7,6,3,8]) 0 (orE a b c d 1) []=if b=0 then Y L [] zab (some [7,6,3,8]) 0 (orE a b c d 2) [] else some (.ret,[(2,.w (W b))],[]):=by
  rw[zj zab.eq_1];by_cases h:b=0
  ·simp[h,w2]
  ·have h':(b !=0)=true:=by simp[h]
   simp[h,h']
 have h0:Y L [] zab (some [7,6,3,8]) 0 (orE a b c d 0) []=if a=0 then Y L [] zab (some [7,6,3,8]) 0 (orE a b c d 1) [] else some (.ret,[(2,.w (W a))],[]):=by
  rw[zj zab.eq_1];by_cases h:a=0
  ·simp[h,w1]
  ·have h':(a !=0)=true:=by simp[h]
   simp[h,h']
 rw[h4]at h3;rw[h3]at h2;rw[h2]at h1;rw[h1]at h0;rw[zUa zow rfl];unfold orI;by_cases c1:a=0<;>by_cases c2:b=0<;>by_cases c3:c=0<;>by_cases c4:d=0<;>simp only[c1,c2,c3,c4,if_true,if_false]at h0 ⊢<;>simp[zfw,h0]
def zoG(b:Bool):Int:=if b then 1 else 0
def zu6(a b:Swp):Int:=orI (zgQ a.lane b.lane) (zgQ a.lo b.lo) (zgQ a.hi b.hi) (zoG a.cap-zoG b.cap)
theorem less0(a b:Swp):R L [] zar [.a (swC a),.a (swC b)] []=some (.w (W (zu6 a b)),[]):=by
 have h1:=zuB a.lane b.lane;have h2:=zmv a.lo b.lo;have h3:=zmv a.hi b.hi;have h4:R L [] zhB [Bo a.cap] []=some (.w (W (zoG a.cap)),[]):=zxz a.cap;have h5:R L [] zhB [Bo b.cap] []=some (.w (W (zoG b.cap)),[]):=zxz b.cap;have h6:=or0 (zgQ a.lane b.lane) (zgQ a.lo b.lo) (zgQ a.hi b.hi) (zoG a.cap-zoG b.cap);have w:IntKind.i64.wrap (zoG a.cap-zoG b.cap)=zoG a.cap-zoG b.cap:=by
  cases a.cap<;>cases b.cap<;>rfl
 unfold zu6;generalize zgQ a.lane b.lane=x1 at *;generalize zgQ a.lo b.lo=x2 at *;generalize zgQ a.hi b.hi=x3 at *;generalize zoG a.cap=o1 at *;generalize zoG b.cap=o2 at *;rw[zUa zsv rfl];simp[zjq,swC,h1,h2,h3,h4,h5,h6,w,zg,zX]
theorem zz5(a b:Swp):(zu6 a b<0)<->ltS a b=true:=by
 rw[zz2];unfold zu6 orI zgQ zoG;by_cases h1:a.lane<b.lane
 ·simp[h1]
 ·by_cases h2:b.lane<a.lane
  ·have:¬a.lane=b.lane:=by omega
   simp[h1,h2,this]
  ·have e1:a.lane=b.lane:=by omega
   by_cases h3:a.lo<b.lo
   ·simp[e1,h3]
   ·by_cases h4:b.lo<a.lo
    ·have:¬a.lo=b.lo:=by omega
     simp[e1,h3,h4,this]
    ·have e2:a.lo=b.lo:=by omega
     by_cases h5:a.hi<b.hi
     ·simp[e1,e2,h5]
     ·by_cases h6:b.hi<a.hi
      ·have:¬a.hi=b.hi:=by omega
       simp[e1,e2,h5,h6,this]
      ·have e3:a.hi=b.hi:=by omega
       cases a.cap<;>cases b.cap<;>simp[e1,e2,e3]
end Go.TrRun
namespace Go.Eng
open Go
theorem zsf [zb0]{P:Program}{cf:za4}(hcf:FnS P cf){f:FuncId}(hf:f<zb0.base){args:List WV}{vs:Array Value}{w:World}{σ:zP}{j:Inj}{M':Mem}{c:Int}(h:cf f args []=some (.w (.c (.int .i64 c)),M'))
  (hag:zM σ w) (hvs:zac σ j args vs.toList) (hm:MR (fun b=>w.heap.size<=b) σ j [] w) :
  Calls P f vs w fun e w'=>e=.returned (.int .i64 c)/\∃q os',w'=Go.Sort.grow (w.drewN q) os':=by
 obtain⟨_,_,_,_,hc⟩:=(hcf f args [] _ _ h (fun id hid=>by simp at hid)).1 hf;refine Calls.v7 (hc (fun b=>w.heap.size<=b) σ j w vs (fun _ h=>h) hag hm hvs) ?_;rintro e w' ⟨v,σ',j',rfl,hr,_,_,hst⟩;have hr:VC σ' j' (.int .i64 c) v:=hr;cases hr;refine⟨rfl,w'.drawn-w.drawn,w'.heap.extract w.heap.size w'.heap.size,?_⟩;have h1:=hst.side.os;have h2:=hst.side.output;have h3:=hst.side.tape;have h4:=hst.side.drawn;have h5:=hst.frame;have h6:=hst.size;cases w' with |mk heap tape drawn os output =>
 simp only at h1 h2 h3 h4 h5 h6;subst h1;subst h2;subst h3;unfold Go.Sort.grow World.drewN;simp only[World.mk.injEq,and_true,true_and];refine⟨?_,by omega⟩;apply Array.ext_getElem?;intro i;by_cases hi:i<w.heap.size
 ·rw[kr hi];exact h5 i hi (by omega)
 ·rw[yb (by omega),k7];by_cases hi2:i<heap.size
  ·rw[if_pos (by omega)]
   congr 1;omega
  ·rw[if_neg (by omega)];exact kR (by omega)
end Go.Eng
namespace Go.TrRun
open Go Go.Eng
theorem zxp(σ:zP)(j:Inj)(x:List Int):WVR σ j (.a (swC (zik x))) (.agg (ziq 4 7 x).toArray):=by
 refine⟨_,rfl,?_⟩;have e:(ziq 4 7 x).toArray.toList=[.int .i64 (x.getD 0 0),.int .i64 (x.getD 1 0),.int .i64 (x.getD 2 0),.bool (x.getD 3 0 !=0)]:=rfl;rw[e];refine⟨rfl,fun n c v hc hv=>?_⟩
 match n with
 |0=>cases hc;cases hv;exact .int _ _ _
 |1=>cases hc;cases hv;exact .int _ _ _
 |2=>cases hc;cases hv;exact .int _ _ _
 |3=>cases hc;cases hv;exact .bool _ _
 |n+4=>cases hc
def zAw(x y:List Int):Int:=zu6 (zik x) (zik y)
theorem zBC:(fun x y=>decide (zAw x y<0))=ltZ 4 7:=by
 funext x y;have h:=zz5 (zik x) (zik y);have e:ltS (zik x) (zik y)=ltZ 4 7 x y:=by
  have k1:∀z:List Int,zji (zik z)=zsY 4 7 z:=fun z=>by
   simp[zji,zik,zsY,List.range,List.range.loop,zgk]
  simp only[ltS,ltZ,k1,if_true]
 rw[e]at h;unfold zAw;cases hz:ltZ 4 7 x y with
 |true=>exact decide_eq_true (h.2 hz)
 |false =>
  refine decide_eq_false fun h'=>?_
  rw[h.1 h']at hz;cases hz
theorem zwK{P:Program}(uL:P.follows .mixedOrders=true)(hL:(L.map fun p=>zcF P an true p.1)=L.map fun p=>some p.2)(hV:zql P L=true)(hf:zar<P.funcs.size)(x y:List Int)(W:World) :
  Calls P zar #[.agg (ziq 4 7 x).toArray,.agg (ziq 4 7 y).toArray] W fun e w'=>e=.returned (.int .i64 (zAw x y))/\∃q os',w'=Go.Sort.grow (W.drewN q) os':=by
 letI:=zww P fun f=>L.lookup f
 obtain⟨n,hn⟩:=zah.1 (less0 (zik x) (zik y));exact zsf (zsT uL hL hV (Cs:=[]) rfl (fun c hc=>by cases hc) n) (f:=zar) hf hn (zml (W:=W) fun g row hr=>by cases hr) (.cons (zxp _ _ x) (.cons (zxp _ _ y) .nil)) MR.nil
end Go.TrRun
