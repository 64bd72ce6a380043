/- This text proves what functions of this seat's program answer, run by the evaluator; no condition. -/
import Derived.Test.YtjmaghejnagjeaaGreatVTx3
import Derived.WalkSmall
set_option maxHeartbeats 8000000
set_option linter.unusedVariables false
set_option linter.unusedSimpArgs false
set_option linter.unusedSectionVars false
/- Plain laws of cars, ramps, stops and profiles: no program in sight. -/
namespace Go.PlanLaw
structure Car where
 len:Int
 uJ:Int
 qc:Int
 uv:Int
 yX:Int
def Car.ok(c:Car):Prop:=300<=c.len/\c.len<=20000/\1<=c.uJ/\c.uJ<=30/\20<=c.qc/\c.qc<=90/\5<=c.uv/\c.uv<=120/\0<=c.yX/\c.yX<=5
instance(c:Car):Decidable c.ok:=by unfold Car.ok;infer_instance
def zgH(c:Car)(x:Int):Int:=max (-c.qc) (min x c.uJ)
def zFX(c:Car)(last w:Int):Int:=max (zgH c last-c.uv) (min (zgH c w) (zgH c last+c.uv))
def doV(v x:Int):Int:=min (max (v+max (-2000) (min x 2000)) 0) 2000
theorem zG1(v x:Int):0<=doV v x/\doV v x<=2000:=by unfold doV;omega
theorem zG2{c:Car}(h:c.ok)(x:Int):-c.qc<=zgH c x/\zgH c x<=c.uJ:=by
 obtain⟨h1,h2,h3,h4,h5,h6,h7,h8,h9,h10⟩:=h;unfold zgH;omega
theorem zG3{c:Car}(h:c.ok){x:Int}(h1:-c.qc<=x)(h2:x<=c.uJ):zgH c x=x:=by unfold zgH;omega
def zGI(c:Car):Nat->Bool->Int->Int->Option (List Int)
 |0,_,_,_=>none
 |m+1,f,last,v=>if f=true\/0<v\/0<last then(zGI c m false (zFX c last (-c.qc)) (doV v (zFX c last (-c.qc)))).map (zFX c last (-c.qc) :: ·) else some []
theorem zF7(c:Car)(m:Nat)(f:Bool)(last v:Int):zGI c (m+1) f last v=if(f=true\/0<v\/0<last) then(zGI c m false (zFX c last (-c.qc)) (doV v (zFX c last (-c.qc)))).map (zFX c last (-c.qc) :: ·) else some []:=rfl
theorem zG8(v x:Int)(hv:0<=v/\v<=2000)(hx:-100<=x/\x<=100):doV v x=max 0 (min 2000 (v+x)):=by unfold doV;omega
theorem zGx{c:Car}(h:c.ok)(last:Int):zFX c last (-c.qc)=max (zgH c last-c.uv) (-c.qc):=by
 obtain⟨h1,h2,h3,h4,h5,h6,h7,h8,h9,h10⟩:=h;unfold zFX zgH;omega
theorem zGM{c:Car}{last:Int}(h:c.ok)(h1:-c.qc<=last)(h2:last<=c.uJ):zFX c last (-c.qc)=max (last-c.uv) (-c.qc):=by
 rw[zGx h last,zG3 h h1 h2]
theorem ends2{c:Car}(h:c.ok):∀(m:Nat) (last v:Int),-c.qc<=last->last<=-20->0<=v->v<=2000->v<=20*m->∃l,zGI c (m+1) false last v=some l/\l.length<=m
 |0,last,v,h1,h2,h3,h4,h5=>⟨[],by
   rw[zF7,if_neg (by simp;omega)],by simp⟩
 |m+1,last,v,h1,h2,h3,h4,h5=>by
  have hcar:=h;obtain⟨q1,q2,q3,q4,q5,q6,q7,q8,q9,q10⟩:=hcar;rw[zF7];split
  ·have hr:=zGM h h1 (by omega:last<=c.uJ);have hd:=zG8 v (zFX c last (-c.qc)) ⟨h3,h4⟩ (by omega);obtain⟨l,hl,hn⟩:=ends2 h m (zFX c last (-c.qc)) (doV v (zFX c last (-c.qc))) (by omega) (by omega) (by omega) (by omega) (by omega);exact⟨_::l,by rw[hl];rfl,by simp;omega⟩
  ·exact⟨[],rfl,by simp⟩
theorem ends1{c:Car}(h:c.ok):∀(t:Nat) (last v:Int),-c.qc<=last->last<=c.uJ->last<=5*t-20->0<=v->v<=2000->∃l,zGI c (101+t) false last v=some l/\l.length<=100+t
 |0,last,v,h1,h2,h3,h4,h5=>ends2 h 100 last v h1 (by omega) h4 h5 (by omega)
 |t+1,last,v,h1,h2,h3,h4,h5=>by
  have hcar:=h;obtain⟨q1,q2,q3,q4,q5,q6,q7,q8,q9,q10⟩:=hcar;rw[show 101+(t+1)=(101+t)+1 by omega,zF7];split
  ·have hr:=zGM h h1 h2;have hd:=zG1 v (zFX c last (-c.qc));obtain⟨l,hl,hn⟩:=ends1 h t (zFX c last (-c.qc)) (doV v (zFX c last (-c.qc))) (by omega) (by omega) (by omega) hd.1 hd.2;exact⟨_::l,by rw[hl];rfl,by simp;omega⟩
  ·exact⟨[],rfl,by simp⟩
theorem ends{c:Car}(h:c.ok)(last v:Int)(h4:0<=v)(h5:v<=2000):∃l,zGI c 111 true last v=some l/\0<l.length/\l.length<=110:=by
 have hcar:=h;obtain⟨q1,q2,q3,q4,q5,q6,q7,q8,q9,q10⟩:=hcar;have hr:=zGx h last;have hcl:=zG2 h last;have hd:=zG1 v (zFX c last (-c.qc));obtain⟨l,hl,hn⟩:=ends1 h 9 (zFX c last (-c.qc)) (doV v (zFX c last (-c.qc))) (by omega) (by omega) (by omega) hd.1 hd.2;refine⟨_::l,by rw[show 111=(101+9)+1 from rfl,zF7,if_pos (.inl rfl),hl];rfl,by simp,by simp;omega⟩
def chain(c:Car):Int->List Int->Prop
 |_,[]=>True
 |a,x::xs=>(-c.qc<=x/\x<=c.uJ)/\(-c.uv<=x-a/\x-a<=c.uv)/\chain c x xs
def zG0:Int->List Int->Int
 |a,[]=>a
 |_,x::xs=>zG0 x xs
def zHd:Int->List Int->Int
 |v,[]=>v
 |v,x::xs=>zHd (doV v x) xs
structure Drv where
 last:Int
 v:Int
 l:List Int
def Drv.from(c:Car)(a:Int)(s:Drv):Prop:=chain c a s.l/\s.last=zG0 a s.l/\0<=s.v/\s.v<=2000
def zLD(c:Car)(x:Int):Bool:=!(decide (-c.qc<=x)&&decide (x<=c.uJ))
def zIY(c:Car):Int->List Int->Bool
 |_,[]=>false
 |l,x::xs=>!(decide (-c.uv<=x-l)&&decide (x-l<=c.uv))||zIY c x xs
def qI(c:Car)(l:List Int):Int :=
 if ¬c.ok then 2 else if l.length=0 then 6 else if 200<l.length then 5
 else if 0<l.getLastD 0 then 2 else if l.any (zLD c) then 2 else if zIY c (l.headD 0) l then 11 else 0
end Go.PlanLaw
set_option maxRecDepth 10000
namespace Go.TrRun.Pl
open Go Go.Eng Go.PlanLaw
def kl(c:Car):List Cl:=[I c.len,I c.uJ,I c.qc,I c.uv,I c.yX]
theorem zF6(x a b:Int):R L Cs zGF [W x,W a,W b] []=some (.w (Bo (decide (a<=x)&&decide (x<=b))),[]):=by
 rw[z4 zGH rfl];by_cases h:a<=x<;>simp[zF3,h]
theorem zGS{c:Car}(h:c.ok):R L Cs zGe [.a (kl c)] []=some (.w (W 0),[]):=by
 obtain⟨h1,h2,h3,h4,h5,h6,h7,h8,h9,h10⟩:=h;rw[z4 zGf rfl];simp[zFN,kl,zF6,h1,h2,h3,h4,h5,h6,h7,h8,h9,h10]
theorem zGG{c:Car}(h:c.ok):R L Cs zFU [.a (kl c)] []=some (.w (W 0),[]):=by
 obtain⟨h1,h2,h3,h4,h5,h6,h7,h8,h9,h10⟩:=h;rw[z4 zFV rfl];simp[zFH,kl,qV.2 h1,qV.2 h2,qV.2 h3,qV.2 h4,qV.2 h5,qV.2 h6,qV.2 h7,qV.2 h8,qV.2 h9,qV.2 h10]
abbrev P0:WV:=.c (.ptr 0 0 0 0)
def Drv.run(s:Drv)(l:List Int):Drv:=⟨zG0 s.last l,zHd s.v l,s.l++l⟩
theorem zOs{l:List Int}{i:Nat}(h:i<l.length):(zu l)[i]?=some [I l[i]]:=by simp[zu,h]
abbrev zKk(c:Car):Blk:={ box:=true,esz:=5,rows:=[kl c],gen:=0,fz:=false,ver:=0 }
abbrev fnB:WV:=.c (.fn zLp [] [.ptr 0 0 0 0])
theorem zOO{c:Car}(hc:c.ok)(x:Int):R L Cs zLp [W x,P0] [some (zKk c)]=some (.w (Bo (zLD c x)),[some (zKk c)]):=by
 obtain⟨h1,h2,h3,h4,h5,h6,h7,h8,h9,h10⟩:=hc;have hw:=kq (-c.qc);rw[z4 zMQ rfl];simp[zGB,kl,hw,zF6,zLD]
theorem zO5{c:Car}(hc:c.ok)(l:List Int)(hl:l.length<=1000):∀(r:List Int) (i:Nat),l.drop i=r->i<=l.length ->
  (r.any (zLD c)=false->∃E',Y L Cs zFZ (some [7,1,0,8]) 1 [(7,.w (W l.length)),(1,.w fnB),(0,.w (.c (.jb (zu l)))),(8,.w (W i))] [some (zKk c)]=some (.exit 0,E',[some (zKk c)])) /\
  (r.any (zLD c)=true->∃k:Nat,Y L Cs zFZ (some [7,1,0,8]) 1 [(7,.w (W l.length)),(1,.w fnB),(0,.w (.c (.jb (zu l)))),(8,.w (W i))] [some (zKk c)]=some (.ret,[(4,.w (W k))],[some (zKk c)])):=by
 intro r;induction r with
 |nil =>
  intro i hd hi;obtain rfl:=z5 hd hi;refine⟨fun _=>⟨_,zhJ (r:=(.exit 0,[(9,.w (Bo false)),(0,.w (.c (.jb (zu l)))),(1,.w fnB),(7,.w (W l.length)),(8,.w (W l.length))],[some (zKk c)])) ?_ (by simp)⟩,fun h=>by simp at h⟩;simp[zFZ]
 |cons x r ih =>
  intro i hd hi;obtain⟨hil,hx,hd'⟩:=zL hd;obtain⟨ih1,ih2⟩:=ih (i+1) hd' hil;have hch:=zOO hc x;have hw:=zB (i:=i) (by omega);have hg:=zOs hil;rw[hx]at hg;by_cases hb:zLD c x=true
  ·refine⟨fun h=>by simp[hb]at h,fun _=>⟨i,zhJ ?_ (by simp)⟩⟩;rw[hb]at hch;simp[zKk,kl]at hch;simp[zFZ,hil,hx,hch,zKk,kl]
  ·have hb:zLD c x=false:=by simpa using hb
   rw[hb]at hch;simp[zKk,kl]at hch;have uE:Y L Cs zFZ (some [7,1,0,8]) 1 [(7,.w (W l.length)),(1,.w fnB),(0,.w (.c (.jb (zu l)))),(8,.w (W i))] [some (zKk c)] =
     Y L Cs zFZ (some [7,1,0,8]) 1 [(7,.w (W l.length)),(1,.w fnB),(0,.w (.c (.jb (zu l)))),(8,.w (W (i+1:Nat)))] [some (zKk c)]:=by
    rw[zrL];simp[zFZ,hil,hx,hch,zKk,kl,hw]
   rw[uE];simp only[uL,hb,k7];exact⟨ih1,ih2⟩
theorem zvV{c:Car}(hc:c.ok)(l:List Int)(hl:l.length<=1000):∃k:Int,R L Cs zK9 [.c (.jb (zu l)),fnB] [some (zKk c)]=some (.w (W k),[some (zKk c)])/\(decide (0<=k)=l.any (zLD c)):=by
 obtain⟨h1,h2⟩:=zO5 hc l hl l 0 rfl (jt _);cases hb:l.any (zLD c)with
 |false =>
  obtain⟨E',hE⟩:=h1 hb;refine⟨-1,?_,by decide⟩;rw[z4 zKx rfl];simp at hE;simp[zF2,hE]
 |true =>
  obtain⟨k,hE⟩:=h2 hb;refine⟨k,?_,by simp⟩;rw[z4 zKx rfl];simp at hE;simp[zF2,hE]
theorem zMN{c:Car}(hc:c.ok)(l:List Int)(hl:l.length<=1000):R L Cs zKQ [.c (.jb (zu l)),fnB] [some (zKk c)]=some (.w (Bo (l.any (zLD c))),[some (zKk c)]):=by
 obtain⟨k,h1,h2⟩:=zvV hc l hl;rw[z4 zKT rfl];simp[zKk,kl]at h1;simp[zF0,h1,h2,zKk,kl]
abbrev zKp(l:List Int):Blk:={ box:=true,esz:=1,rows:=[[.jb (zu l)]],gen:=0,fz:=false,ver:=0 }
theorem zw9{c:Car}(hc:c.ok)(l:List Int)(hl:l.length<=1000)(hr:∀x∈l,-1000<=x/\x<=1000):∀(r:List Int) (i:Nat) (a:Int),-1000<=a/\a<=1000->l.drop i=r->i<=l.length ->
  (Go.PlanLaw.zIY c a r=false->∃E',Y L Cs zGw (some [7,44,43,2,45]) 2 [(7,.w (W a)),(44,.w (W l.length)),(43,.w (.c (.jb (zu l)))),(2,.w P0),(45,.w (W i))] [some (zKk c),some (zKp l)]=some (.exit 1,E',[some (zKk c),some (zKp l)])) /\
  (Go.PlanLaw.zIY c a r=true->Y L Cs zGw (some [7,44,43,2,45]) 2 [(7,.w (W a)),(44,.w (W l.length)),(43,.w (.c (.jb (zu l)))),(2,.w P0),(45,.w (W i))] [some (zKk c),some (zKp l)]=some (.ret,[(4,.w (W 11))],[some (zKk c),some (zKp l)])):=by
 intro r;have hcc:=hc;obtain⟨q1,q2,q3,q4,q5,q6,q7,q8,q9,q10⟩:=hcc;have hwr:=kq (-c.uv);induction r with
 |nil =>
  intro i a ha hd hi;obtain rfl:=z5 hd hi;refine⟨fun _=>⟨_,zhJ (r:=(.exit 1,[(46,.w (Bo false)),(7,.w (W a)),(2,.w P0),(43,.w (.c (.jb (zu l)))),(44,.w (W l.length)),(45,.w (W l.length))],[some (zKk c),some (zKp l)])) ?_ (by simp)⟩,fun h=>by simp[Go.PlanLaw.zIY]at h⟩;simp[zGw]
 |cons x r ih =>
  intro i a ha hd hi;obtain⟨hil,hx,hd'⟩:=zL hd;have hxr:=hr x (by rw[<-hx];exact ji hil);obtain⟨ih1,ih2⟩:=ih (i+1) x hxr hd' hil;have hw:=zB (i:=i) (by omega);have hws:=kq (x-a);have hwi:=zF6 (x-a) (-c.uv) c.uv;by_cases hb:(decide (-c.uv<=x-a)&&decide (x-a<=c.uv))=true
  ·rw[hb]at hwi;have uE:Y L Cs zGw (some [7,44,43,2,45]) 2 [(7,.w (W a)),(44,.w (W l.length)),(43,.w (.c (.jb (zu l)))),(2,.w P0),(45,.w (W i))] [some (zKk c),some (zKp l)] =
     Y L Cs zGw (some [7,44,43,2,45]) 2 [(7,.w (W x)),(44,.w (W l.length)),(43,.w (.c (.jb (zu l)))),(2,.w P0),(45,.w (W (i+1:Nat)))] [some (zKk c),some (zKp l)]:=by
    rw[zrL];simp[zGw,hil,hx,zKk,kl,hw,hws,hwr,hwi]
   rw[uE];simp only[Go.PlanLaw.zIY,hb,Bool.not_true,k7];exact⟨ih1,ih2⟩
  ·have hb:(decide (-c.uv<=x-a)&&decide (x-a<=c.uv))=false:=by simpa using hb
   rw[hb]at hwi;refine⟨fun h=>(by simp only[Go.PlanLaw.zIY,hb,y4,Bool.true_or]at h;cases h),fun _=>zhJ ?_ (by simp)⟩;simp[zGw,hil,hx,zKk,kl,hw,hws,hwr,hwi]
theorem zPK{c:Car}(hc:c.ok)(l:List Int)(hl:l.length<=1000):R L Cs zLZ [.a (kl c),.a [.jb (zu l)]] []=some (.w (W (qI c l)),[]):=by
 have hck:=zGS hc;have hcf:=zMN hc l hl;simp[zKk,kl]at hck hcf;rw[z4 zL3 rfl];cases l with
 |nil=>simp[zGK,kl,hck,qI,hc]
 |cons x r =>
 simp only[zaP]at hcf;have hne:¬((r.length:Int)+1=0):=by omega
 by_cases h200:200<r.length+1
 ·have yF:(200:Int)<(r.length:Int)+1:=by omega
  simp[zGK,kl,hck,qI,hc,hne,h200,yF]
 have yF:¬(200:Int)<(r.length:Int)+1:=by omega
 have qW:∀h,([I x]::zu r)[r.length]'h=[I ((x::r).getLastD 0)]:=by
  intro h;have e:[I x]::zu r=zu (x::r):=rfl;simp only[e,zBd];simp[yn,yp]
 have hw:IntKind.i64.wrap (r.length:Int)=r.length:=zTd _ (by omega) (by omega);simp only[uW]at qW;have hlt:(r.length:Int)<(r.length:Int)+1:=by omega
 have hF:qI c (x::r)=if 0<r.getLastD x then 2 else if(x::r).any (zLD c)=true then 2 else if Go.PlanLaw.zIY c x (x::r)=true then 11 else 0:=by
  unfold qI;rw[if_neg (by simp[hc]),if_neg (by simp),if_neg (by simpa using h200),uW,List.headD_cons]
 rw[hF];generalize r.getLastD x=z at qW;by_cases hp:0<z
 ·simp[zGK,kl,hck,hne,yF,hlt,qW,hw,hp]
 have hlen:((r.length:Int)+1)=((x::r).length:Nat):=by simp
 by_cases hb:(x::r).any (zLD c)=true
 ·rw[hb]at hcf;simp only[uL]at hb;simp[zGK,kl,hck,hne,yF,hlt,qW,hw,hp,hcf,hb]
 ·have hb:(x::r).any (zLD c)=false:=by simpa using hb
  have hr:∀y∈(x::r),-1000<=y/\y<=1000:=by
   intro y hy;have h1:=yx.1 hb y hy;obtain⟨q1,q2,q3,q4,q5,q6,q7,q8,q9,q10⟩:=hc;simp[zLD]at h1;omega
  obtain⟨h1,h2⟩:=zw9 hc (x::r) hl hr (x::r) 0 x (hr x (jo ..)) rfl (jt _);rw[hb]at hcf;cases hs:Go.PlanLaw.zIY c x (x::r)with
  |false =>
   obtain⟨E',h1⟩:=h1 hs;simp[zKk,kl,zKp]at h1;simp[zGK,kl,hck,hne,yF,hlt,qW,hw,hp,hcf,hb,hs,h1]
   |true =>
   have h2:=h2 hs;simp[zKk,kl,zKp]at h2;simp[zGK,kl,hck,hne,yF,hlt,qW,hw,hp,hcf,hb,hs,h2]
 end Go.TrRun.Pl
namespace Go.TrRun.Pl
open Go Go.Eng Go.PlanLaw
theorem CM:R L Cs zF9 [] []=some (.w (Bo true),[]):=zah.2 ⟨200,by kernel_rfl⟩
abbrev Pt(k:Nat):WV:=.c (.ptr k 0 0 0)
def Ar(c:Car):Int:=if c.ok then 0 else 2
theorem yY(c:Car):R L Cs zGe [.a (kl c)] []=some (.w (W (Ar c)),[]):=by
 by_cases h:c.ok
 ·rw[Ar,if_pos h];exact zGS h
 rw[Ar,if_neg h,z4 zGf rfl];have e:¬(((decide (300<=c.len)&&decide (c.len<=20000))=true)/\((decide (1<=c.uJ)&&decide (c.uJ<=30))=true)/\((decide (20<=c.qc)&&decide (c.qc<=90))=true)/\((decide (5<=c.uv)&&decide (c.uv<=120))=true)/\((decide (0<=c.yX)&&decide (c.yX<=5))=true)):=by
  intro e;simp only[jk,decide_eq_true_eq]at e;exact h (by simp only[Car.ok];omega)
 have w1:=zF6 c.len 300 20000;have w2:=zF6 c.uJ 1 30;have w3:=zF6 c.qc 20 90;have w4:=zF6 c.uv 5 120;have w5:=zF6 c.yX 0 5;generalize (decide (300<=c.len)&&decide (c.len<=20000))=b1 at *;generalize (decide (1<=c.uJ)&&decide (c.uJ<=30))=b2 at *;generalize (decide (20<=c.qc)&&decide (c.qc<=90))=b3 at *;generalize (decide (5<=c.uv)&&decide (c.uv<=120))=b4 at *;generalize (decide (0<=c.yX)&&decide (c.yX<=5))=b5 at *;cases b1 with
 |false=>simp[zFN,kl,w1]
 |true=>cases b2 with
  |false=>simp[zFN,kl,w1,w2]
  |true=>cases b3 with
   |false=>simp[zFN,kl,w1,w2,w3]
   |true=>cases b4 with
    |false=>simp[zFN,kl,w1,w2,w3,w4]
    |true=>cases b5 with
     |false=>simp[zFN,kl,w1,w2,w3,w4,w5]
     |true=>simp at e
theorem zRh(c:Car):R L Cs zFU [.a (kl c)] []=some (.w (W (Ar c)),[]):=by
 by_cases h:c.ok
 ·rw[Ar,if_pos h];exact zGG h
 rw[Ar,if_neg h,z4 zFV rfl];by_cases h1:c.len<300
 ·simp[zFH,kl,h1]
 by_cases h2:20000<c.len
 ·simp[zFH,kl,h1,h2]
 by_cases h3:c.uJ<1
 ·simp[zFH,kl,h1,h2,h3]
 by_cases h4:30<c.uJ
 ·simp[zFH,kl,h1,h2,h3,h4]
 by_cases h5:c.qc<20
 ·simp[zFH,kl,h1,h2,h3,h4,h5]
 by_cases h6:90<c.qc
 ·simp[zFH,kl,h1,h2,h3,h4,h5,h6]
 by_cases h7:c.uv<5
 ·simp[zFH,kl,h1,h2,h3,h4,h5,h6,h7]
 by_cases h8:120<c.uv
 ·simp[zFH,kl,h1,h2,h3,h4,h5,h6,h7,h8]
 by_cases h9:c.yX<0
 ·simp[zFH,kl,h1,h2,h3,h4,h5,h6,h7,h8,h9]
 by_cases h10:5<c.yX
 ·simp[zFH,kl,h1,h2,h3,h4,h5,h6,h7,h8,h9,h10]
 exact absurd (by simp only[Car.ok];omega) h
theorem BB(c:Car)(l:List Int)(hl:l.length<=1000):R L Cs zLZ [.a (kl c),.a [.jb (zu l)]] []=some (.w (W (qI c l)),[]):=by
 by_cases h:c.ok
 ·exact zPK h l hl
 have h1:=yY c;rw[Ar,if_neg h]at h1;simp only[kl]at h1;rw[qI,if_pos h,z4 zL3 rfl];simp[zGK,kl,h1]
end Go.TrRun.Pl
namespace Go.TrRun
open Go Go.Eng
abbrev zK8:=Go.PlanLaw.Car
def zKW(m:zD)(r:List Int)(c:zK8)(k:zci):Bool:=decide (zdA m r=0)&&decide (zaK m (r.headD 0)=1)&&decide (Pl.Ar c=0)&&decide (zdf m k=0)
theorem zPi{m:zD}{zs:List Zon}{ss:List Sgn}(hF:zKj m zs ss)(r:List Int)(hl:r.length<=1000)(c:zK8)(k:zci)(hk:k.jU.length<=100000000000) :
  R L Cs zNB [.a (zf m),.c (.jb (zu r)),.a (Pl.kl c),.a (zG k)] []=some (.w (Bo (zKW m r c k)),[]):=by
 have h:=hF.full.qA;have h1:=zQC h hF.fit.1;have h2:=zos m h.small h.chk r hl;have h3:=Pl.yY c;have h4:=zuu h k hk;unfold zKW;by_cases hr:zdA m r=0
 ·obtain⟨hon,hne,hl8⟩:=zg1 h hr;obtain⟨x0,r',rfl⟩:∃x r',r=x::r':=by cases r with|nil=>exact absurd rfl hne|cons x r'=>exact⟨x,r',rfl⟩
  have hx0:=hon x0 (jo ..);obtain⟨n,rfl⟩:=jw hx0.1;have hn:n<m.jd.length:=by omega
  have hni:(n:Int)<m.jd.length:=by omega
  have ek:zaK m n=m.jd[n].kind:=by simp[zaK,hn]
  have e0:((n:Int)::r').headD 0=n:=rfl;rw[hr]at h2;rw[e0,ek];generalize hcv:Pl.Ar c=cv at *;generalize hkv:zdf m k=kv at *;have w1:IntKind.i64.wrap 1=1:=rfl;have w0:IntKind.i64.wrap 0=0:=rfl;simp only[zf,zG,Pl.kl,zaP]at h1 h2 h3 h4;rw[z4 zMf rfl];rw[show decide (zdA m ((n:Int)::r')=0)=true from by simp[hr],uM];by_cases c1:m.jd[n].kind=1
  ·have b1:(m.jd[n].kind==1)=true:=by simp[c1]
   by_cases c2:cv=0
   ·have b2:(cv==0)=true:=by simp[c2]
    by_cases c3:kv=0
    ·have b3:(kv==0)=true:=by simp[c3]
     simp (maxSteps:=1000000) [zIW,zf,zG,Pl.kl,zo,h1,h2,h3,h4,hn,hni,c1,b1,c2,b2,c3,b3,zg,zH]
    ·have b3:(kv==0)=false:=by simp[c3]
     simp (maxSteps:=1000000) [zIW,zf,zG,Pl.kl,zo,h1,h2,h3,h4,hn,hni,c1,b1,c2,b2,c3,b3,zg,zH]
   ·have b2:(cv==0)=false:=by simp[c2]
    simp (maxSteps:=1000000) [zIW,zf,zG,Pl.kl,zo,h1,h2,h3,h4,hn,hni,c1,b1,c2,b2,zg,zH]
  ·have b1:(m.jd[n].kind==1)=false:=by simp[c1]
   simp (maxSteps:=1000000) [zIW,zf,zG,Pl.kl,zo,h1,h2,h3,h4,hn,hni,c1,b1,zg,zH]
 ·have hb:(zdA m r==0)=false:=by simp[hr]
  simp only[zf]at h1 h2;rw[z4 zMf rfl];generalize zdA m r=rv at *;simp[zIW,zf,zG,Pl.kl,h1,h2,hr,hb,zg,zH]
def zPn(zs:List Zon)(p:Pss):Prop:=(0<=p.kx/\p.kx<zs.length)/\0<=p.part/\p.part<(zMh zs p.kx).length
theorem zOf(st:Int)(z:Nat)(x:Int):∀(l:List Prt) (k:Nat) (p:Pss),p∈zLB st z x k l->p.kx=z/\(k:Int)<=p.part/\p.part<k+l.length
 |[],k,p,h=>by cases h
 |q::l,k,p,h=>by
  have ih:=zOf st z x l (k+1) p;unfold zLB at h;split at h
  ·rcases jB.1 h with rfl|h'
   ·simp only[jl];exact⟨trivial,by omega,by omega⟩
   ·have:=ih h';simp only[jl];omega
  ·have:=ih h;simp only[jl];omega
theorem zOe(st x:Int)(zs:List Zon):∀(l:List Zon) (z:Nat) (p:Pss),zs.drop z=l->p∈zLA st x z l->zPn zs p
 |[],z,p,_,h=>by cases h
 |q::l,z,p,hd,h=>by
  obtain⟨hz,hq,hd'⟩:=zL hd;unfold zLA at h;rcases jF.1 h with h'|h'
  ·have:=zOf st z x q.parts 0 p h';have e:zMh zs p.kx=q.parts:=by rw[this.1];simp[zMh,hz,hq]
   exact⟨by omega,by omega,by rw[e];omega⟩
  ·exact zOe st x zs l (z+1) p hd' h'
theorem zNh(m:zD)(zs:List Zon):∀(r:List Int) (a:Int) (p:Pss),p∈zKh m zs a r->zPn zs p
 |[],a,p,h=>by cases h
 |x::r,a,p,h=>by
  unfold zKh at h;rcases jF.1 h with h'|h'
  ·exact zOe a x zs zs 0 p rfl h'
  ·exact zNh m zs r _ p h'
def zLV(z:Int):List Pss->Pss×Pss×Bool->Pss×Pss×Bool
 |[],v=>v
 |p::t,v=>zLV z t (if p.kx=z then(if v.2.2 then v.1 else p,p,true) else v)
def zNx(ps:List Pss)(z:Int):Pss×Pss×Bool:=zLV z ps (zKw,zKw,false)
theorem zPq(z:Int):∀(t:List Pss) (v:Vis) (w:Pss×Pss×Bool),(∀p∈t,0<=p.part)->v.kx=z->(w.2.2=true->0<=v.entry/\v.entry=w.1.part)->(w.2.2=false->v.entry=-1)->v.first=w.1->v.last=w.2.1 ->
  (t.foldl (zJ5 z) v).kx=z/\((zLV z t w).2.2=true->0<=(t.foldl (zJ5 z) v).entry/\(t.foldl (zJ5 z) v).entry=(zLV z t w).1.part)/\((zLV z t w).2.2=false->(t.foldl (zJ5 z) v).entry=-1)/\(t.foldl (zJ5 z) v).first=(zLV z t w).1/\(t.foldl (zJ5 z) v).last=(zLV z t w).2.1:=by
 intro t;induction t with
 |nil=>intro v w _ h1 h2 h3 h4 h5;exact⟨h1,h2,h3,h4,h5⟩
 |cons p t ih =>
  intro v w hp h1 h2 h3 h4 h5;rw[jJ];unfold zLV;have hp0:=hp p (jo ..);have hpt:∀q∈t,0<=q.part:=fun q hq=>hp q (jr _ hq)
  by_cases c:p.kx=z
  ·rw[if_pos c];cases hw:w.2.2 with
   |true =>
    obtain⟨g1,g2⟩:=h2 hw;have e:zJ5 z v p=⟨v.kx,v.entry,v.first,p⟩:=by simp only[zJ5,c,if_true,show ¬v.entry<0 by omega,if_false]
    rw[e];exact ih _ _ hpt h1 (fun _=>⟨g1,g2⟩) (fun q=>by cases q) h4 rfl
   |false =>
    have g:=h3 hw;have e:zJ5 z v p=⟨v.kx,p.part,p,p⟩:=by simp only[zJ5,c,if_true,show v.entry<0 by omega]
    rw[e];exact ih _ _ hpt h1 (fun _=>⟨hp0,rfl⟩) (fun q=>by cases q) rfl rfl
  ·rw[if_neg c];have e:zJ5 z v p=v:=by simp only[zJ5,c,if_false]
   rw[e];exact ih v w hpt h1 h2 h3 h4 h5
theorem zOR(ps:List Pss)(hp:∀p∈ps,0<=p.part)(z:Int):(zKn ps z).kx=z/\((zNx ps z).2.2=true->0<=(zKn ps z).entry/\(zKn ps z).entry=(zNx ps z).1.part)/\((zNx ps z).2.2=false->(zKn ps z).entry=-1)/\(zKn ps z).first=(zNx ps z).1/\(zKn ps z).last=(zNx ps z).2.1 :=
 zPq z ps ⟨z,-1,zKw,zKw⟩ (zKw,zKw,false) hp rfl (fun q=>by cases q) (fun _=>rfl) rfl rfl
theorem zPt(z:Int):∀(t:List Pss) (w:Pss×Pss×Bool),(zLV z t w).2.2=true->w.2.2=false->∃p∈t,p.kx=z/\(zLV z t w).1=p:=by
 have uS:∀(t:List Pss) (w:Pss×Pss×Bool),w.2.2=true->(zLV z t w).1=w.1:=by
  intro t;induction t with
  |nil=>intro w _;rfl
  |cons p t ih =>
   intro w hw;unfold zLV;by_cases c:p.kx=z
   ·rw[if_pos c,ih _ rfl,hw];rfl
   ·rw[if_neg c,ih _ hw]
 intro t;induction t with
 |nil=>intro w h1 h2;rw[show zLV z [] w=w from rfl,h2]at h1;cases h1
 |cons p t ih =>
  intro w h1 h2;unfold zLV at h1 ⊢;by_cases c:p.kx=z
  ·rw[if_pos c];refine⟨p,jo ..,c,?_⟩;rw[uS _ _ rfl,h2];rfl
  ·rw[if_neg c]at h1 ⊢;obtain⟨q,h3,h4⟩:=ih w h1 h2;exact⟨q,jr _ h3,h4⟩
theorem zNn(ps:List Pss):∀(n z:Nat) (v:Vis),v∈zKE ps z n<->∃y:Nat,z<=y/\y<z+n/\0<=(zKn ps y).entry/\v=zKn ps y
 |0,z,v=>by simp[zKE];intro y h1 h2;omega
 |n+1,z,v=>by
  have ih:=zNn ps n (z+1) v;unfold zKE;by_cases c:0<=(zKn ps z).entry
  ·rw[if_pos c,jB,ih];constructor
   ·rintro(rfl |⟨y,h1,h2,h3,h4⟩)
    ·exact⟨z,jm _,by omega,c,rfl⟩
    ·exact⟨y,by omega,by omega,h3,h4⟩
   ·rintro⟨y,h1,h2,h3,h4⟩;by_cases e:y=z
    ·subst e;exact .inl h4
    ·exact .inr ⟨y,by omega,by omega,h3,h4⟩
  ·rw[if_neg c,ih];constructor
   ·rintro⟨y,h1,h2,h3,h4⟩;exact⟨y,by omega,by omega,h3,h4⟩
   ·rintro⟨y,h1,h2,h3,h4⟩;by_cases e:y=z
    ·subst e;exact absurd h3 c
    ·exact⟨y,by omega,by omega,h3,h4⟩
theorem zNo(ps:List Pss):∀(n z:Nat),(zKE ps z n).length<=n
 |0,z=>by simp[zKE]
 |n+1,z=>by
  have:=zNo ps n (z+1);unfold zKE;split<;>simp<;>omega
theorem zPr{m:zD}{zs:List Zon}{ss:List Sgn}(hF:zKj m zs ss)(r:List Int):∀v∈zKE (zKh m zs 0 r) 0 zs.length,zKN zs v:=by
 intro v hv;obtain⟨y,_,h2,h3,rfl⟩:=(zNn _ _ _ _).1 hv;have hp:∀p∈zKh m zs 0 r,0<=p.part:=fun p hp=>(zNh m zs r 0 p hp).2.1
 obtain⟨k1,k2,k3,k4,k5⟩:=zOR (zKh m zs 0 r) hp y;have hb:(zNx (zKh m zs 0 r) y).2.2=true:=by
  cases hq:(zNx (zKh m zs 0 r) y).2.2 with
  |true=>rfl
  |false=>have:=k3 hq;omega
 obtain⟨p,hpm,hpz,hpe⟩:=zPt y _ _ hb rfl;have hok:=zNh m zs r 0 p hpm;have he:=(k2 hb).2;rw[show(zNx (zKh m zs 0 r) y).1=p from hpe]at he;have hyl:y<zs.length:=by omega
 refine⟨by rw[k1];omega,?_,?_⟩
 ·rw[k1];have:=hF.full.zd.Bm zs[y] (ji hyl);simpa [zMh,hyl]using this
 ·rw[k1,he];have:=hok.2;rw[hpz]at this;exact this
abbrev pvV(m:zD)(zs:List Zon)(r:List Int):List Vis:=zKE (zKh m zs 0 r) 0 zs.length
def zNw(m:zD)(zs:List Zon)(ss:List Sgn)(r:List Int)(len:Int)(k:zci)(jv:List Int)(signals:Bool):Bool×Int×Int :=
 zKX (zLH len (pvV m zs r) jv (zKr m zs ss r len (zKh m zs 0 r) (pvV m zs r) signals jv 0 k)) (fbF m r jv k.tick k.ego)
theorem zL8{m:zD}{zs:List Zon}{ss:List Sgn}(hF:zKj m zs ss){r:List Int}(hr:zdA m r=0)(len:Int)(hlen:0<=len/\len<=20000)(signals:Bool)(jv:List Int)(hin:∀a∈jv,zk0 a)(hal:jv.length<=500)(u:Nat)(k:zci)(WAS NW:List Cl)(SW:Cl)(hk:KJ m k)(ht:0<=k.tick/\k.tick<=1099511627776)(hW:zMo WAS)(hSW:zKq NW SW)(AZ:jv≠[]) :
  ∃u' BA NW' SW',zMo BA/\zKq NW' SW'/\u'≠u/\R L Cs zKv [J0,.a (zG k),.a [.jb (zu jv)],Bo signals] (zJ3 m r len (zKh m zs 0 r) (pvV m zs r) u WAS NW SW) =
   some (.w (.a (zJ4 (zNw m zs ss r len k jv signals))),zJ3 m r len (zKh m zs 0 r) (pvV m zs r) u' BA NW' SW'):=by
 have hvo:=zPr hF r;have hvl:(pvV m zs r).length<=zs.length:=zNo (zKh m zs 0 r) zs.length 0;have htwo:=hF.two;have hp:=hF.few r hr;by_cases h0:pvV m zs r=[]
 ·obtain⟨u',W',N',S',a,b,hu,h⟩:=zN3 hF hr len hlen (zKh m zs 0 r) (by omega) (pvV m zs r) h0 (by omega) hvo signals jv hin hal u k WAS NW SW hk ht hW hSW AZ;refine⟨u',W',N',S',a,b,hu,?_⟩;simp only[zJ3,if_pos h0];exact h
 ·obtain⟨u',W',N',S',a,b,hu,h⟩:=zN4 hF hr len hlen (zKh m zs 0 r) (by omega) (pvV m zs r) h0 (by omega) hvo signals jv hin hal u k WAS NW SW hk ht hW hSW AZ;refine⟨u',W',N',S',a,b,hu,?_⟩;simp only[zJ3,if_neg h0];exact h
def zOk(m:zD)(zs:List Zon)(ss:List Sgn)(r:List Int)(c:zK8)(k:zci)(jv:List Int)(signals:Bool):Bool×Int×Int :=
 if zKW m r c k=true/\Go.PlanLaw.qI c jv=0 then zNw m zs ss r c.len k jv signals else(false,0,1)
theorem zM9{c:zK8}{l:List Int}(h:Go.PlanLaw.qI c l=0):c.ok/\l≠[]/\l.length<=200:=by
 unfold Go.PlanLaw.qI at h;split at h
 ·cases h
 ·rename_i h1;split at h
  ·cases h
  ·rename_i h2;split at h
   ·cases h
   ·rename_i h3;exact⟨vt.1 h1,fun e=>h2 (by rw[e];rfl),by omega⟩
theorem zNz{m:zD}{r:List Int}{c:zK8}{k:zci}(h:zKW m r c k=true):zdA m r=0/\zaK m (r.headD 0)=1/\c.ok/\zdf m k=0:=by
 unfold zKW at h;simp only[jk,decide_eq_true_eq]at h;refine⟨h.1.1.1,h.1.1.2,?_,h.2⟩;have:=h.1.2;unfold Pl.Ar at this;split at this
 ·assumption
 ·cases this
theorem zOJ{m:zD}{zs:List Zon}{ss:List Sgn}(hF:zKj m zs ss)(r:List Int)(hl:r.length<=1000)(c:zK8)(k:zci)(hk:k.jU.length<=100000000000)(jv:List Int)(hin:∀a∈jv,zk0 a)(hal:jv.length<=1000)(signals:Bool) :
  R L Cs zMY [.a (zf m),.c (.jb (zu r)),.a (Pl.kl c),.a (zG k),.a [.jb (zu jv)],Bo signals] []=some (.w (.a (zJ4 (zOk m zs ss r c k jv signals))),[]):=by
 have h1:=zPi hF r hl c k hk;have h2:=Pl.BB c jv hal;unfold zOk;simp only[zf,zG,Pl.kl]at h1 h2;by_cases d1:zKW m r c k=true
 ·rw[d1]at h1;by_cases d2:Go.PlanLaw.qI c jv=0
  ·rw[if_pos ⟨d1,d2⟩];rw[d2]at h2;obtain⟨hr,_,hc,hck⟩:=zNz d1;obtain⟨_,hne,hal2⟩:=zM9 d2;have hke:=zte hck;have hc1:=hc.1;have hc2:=hc.2.1;have hkj:=zPP hF.full.qA hck;obtain⟨u,h3⟩:=zMM hF hr c.len;obtain⟨u',W',N',S',oW,oS,hu,h4⟩:=zL8 hF hr c.len (by omega) signals jv hin (by omega) u k zox zox .jf hkj (by omega) (.inl rfl) (.inl ⟨rfl,rfl⟩) hne;generalize zNw m zs ss r c.len k jv signals=y at *;simp only[pvV]at h4;generalize zKE (zKh m zs 0 r) 0 zs.length=vs at *;generalize zKh m zs 0 r=ps at *;rw[z4 zLb rfl];by_cases h0:vs=[]
   ·simp only[zJ3,if_pos h0]at h3 h4;rcases oW with rfl |⟨kw,rfl⟩<;>rcases oS with⟨rfl,rfl⟩ |⟨k0,x,rfl,rfl⟩<;>simp only[zf,zG,jC,zh,zi,zox,zJ4,zJY,je,jc]at h3 h4<;>simp (maxSteps:=1000000) [zIR,zf,zG,Pl.kl,jC,zh,zi,zox,zJ4,zJY,h1,h2,h3,h4,hu,zg,zH,own]
   ·simp only[zJ3,if_neg h0]at h3 h4;rcases oW with rfl |⟨kw,rfl⟩<;>rcases oS with⟨rfl,rfl⟩ |⟨k0,x,rfl,rfl⟩<;>simp only[zf,zG,jC,zh,zi,zox,zJ4,zJY,own,zJZ,je,jc]at h3 h4<;>simp (maxSteps:=1000000) [zIR,zf,zG,Pl.kl,jC,zh,zi,zox,zJ4,zJY,h1,h2,h3,h4,hu,zg,zH,own]
  ·rw[if_neg (fun q=>d2 q.2)];have hb:(Go.PlanLaw.qI c jv !=0)=true:=by simp[d2]
   rw[z4 zLb rfl];generalize Go.PlanLaw.qI c jv=e at *;simp[zIR,zf,zG,Pl.kl,zJ4,zJY,h1,h2,d2,hb,zg,zH]
 ·have hb:zKW m r c k=false:=by simpa using d1
  rw[if_neg (fun q=>d1 q.1)];rw[hb]at h1;rw[z4 zLb rfl];simp[zIR,zf,zG,Pl.kl,zJ4,zJY,h1,zg,zH]
abbrev zQI(m:zD)(r:List Int)(ps:List Pss)(c:zK8):List Cl:=[I m.version,.jb (m.jd.map zo),.jb m.qB,.jb m.signals,.jb (m.ky.map zaL),.jb (zu r),.jb (zu (zW m 0 r)),I (zmd m 0 r),.jb (zKd ps),I c.len,I c.uJ,I c.qc,I c.uv,I c.yX]
abbrev roM(m:zD)(r:List Int)(ps:List Pss)(c:zK8):Mem:=[bx 14 (zQI m r ps c)]
def zRR(m:zD)(r:List Int)(lane:Int):Int×Bool:=match zgo r lane with
 |some i=>(kF m r i,true)
 |none=>(0,false)
theorem zR3(m:zD)(r:List Int)(hl:r.length<=8)(ps:List Pss)(c:zK8)(lane:Int) :
  R L Cs zQY [.a (zQI m r ps c),W lane] []=some (.t [W (zRR m r lane).1,Bo (zRR m r lane).2],[]):=by
 have hL:=zxf (L:=L) (Cs:=Cs) (b:=zJd) (live:=some [1,2,6]) (n0:=1) r (fun i=>[(1,.w (W lane)),(2,.w (Pt 0)),(6,.w (W i))]) (roM m r ps c) (fun y=>decide (y=lane)) (fun i=>(.ret,[(4,.w (W (kF m r i))),(5,.w (Bo true))],roM m r ps c)) (.exit 0,[(11,.w (Bo false)),(1,.w (W lane)),(2,.w (Pt 0)),(6,.w (W r.length))],roM m r ps c)
  (fun i hi hp=>by
   have hw:=zB (i:=i) (by omega);have hp:¬r[i]=lane:=by simpa using hp
   have hb:(r[i]==lane)=false:=by simpa using hp
   rw[zj zJd.eq_1];simp[roM,hi,hw,hp,hb])
  (fun i hi hp=>by
   have hp:r[i]=lane:=by simpa using hp
   have hsl:i<(zW m 0 r).length:=by rw[zcO];exact hi
   have hst:(zW m 0 r)[i]=kF m r i:=by simp[kF,hsl]
   rw[zj zJd.eq_1];simp[roM,hi,hp,hsl,hst])
  (by rw[zj zJd.eq_1];simp[roM])
 rw[z4 zQZ rfl];simp only[jg]at hL;unfold zRR zgo;cases hq:r.findIdx? (fun y=>decide (y=lane))with
 |none=>rw[hq]at hL;simp only[roM]at hL;simp[zJl,hL,zg]
 |some i=>rw[hq]at hL;simp only[roM]at hL;simp[zJl,hL,zg]
theorem zRU{m:zD}(h:zcp m)(r:List Int)(hl:r.length<=8)(hon:zj2 m r)(ps:List Pss)(c:zK8)(sw:List Swp)(hs:sw.length<=100000000000)(hok:∀s∈sw,zPI m s)(shi:Int) :
  R L Cs zQQ [.a (zQI m r ps c),.c (.jb (zbf sw)),W shi] []=some (.w (Bo (!sw.any (apP m r shi))),[]):=by
 have hly:ziO m r 0:=⟨h,hl,hon,by omega⟩;have hL:=zxf (L:=L) (Cs:=Cs) (b:=zI8) (live:=some [3,1,2,7]) (n0:=1) sw (fun i=>[(3,.w (Pt 0)),(1,.w (.c (.jb (zbf sw)))),(2,.w (W shi)),(7,.w (W i))]) (roM m r ps c) (apP m r shi) (fun i=>(.ret,[(6,.w (Bo false))],roM m r ps c)) (.exit 0,[(13,.w (Bo false)),(2,.w (W shi)),(1,.w (.c (.jb (zbf sw)))),(3,.w (Pt 0)),(7,.w (W sw.length))],roM m r ps c)
  (fun i hi hp=>by
   have hw:=zB (i:=i) (by omega);have hso:=hok sw[i] (ji hi);generalize hsi:sw[i]=s at *;have hx:=zR3 m r hl ps c s.lane;unfold apP at hp;unfold zRR at hx;rw[zj zI8.eq_1];cases hL:zgo r s.lane with
   |none =>
    rw[hL]at hx;simp only[zQI]at hx;simp[roM,swC,hi,hsi,hw,hx]
   |some j =>
    obtain⟨hjl,_⟩:=zfT hL;have hsb:=zmA hly hjl;have hlo:=hso.lo;have w2:=kq (kF m r j+s.lo);rw[hL]at hx hp;simp only[zQI]at hx;cases hc:s.cap with
    |true=>simp[roM,swC,hi,hsi,hw,hx,hc]
    |false =>
     have hp:¬kF m r j+s.lo<=shi:=by simpa [hc]using hp
     simp[roM,swC,hi,hsi,hw,hx,hc,w2,hp])
  (fun i hi hp=>by
   have hso:=hok sw[i] (ji hi);generalize hsi:sw[i]=s at *;have hx:=zR3 m r hl ps c s.lane;unfold apP at hp;unfold zRR at hx;rw[zj zI8.eq_1];cases hL:zgo r s.lane with
   |none=>rw[hL]at hp;cases hp
   |some j =>
    obtain⟨hjl,_⟩:=zfT hL;have hsb:=zmA hly hjl;have hlo:=hso.lo;have w2:=kq (kF m r j+s.lo);rw[hL]at hx hp;simp only[zQI]at hx;simp only[jk,kD,decide_eq_true_eq]at hp;simp[roM,swC,hi,hsi,hx,hp.1,w2,hp.2])
  (by rw[zj zI8.eq_1];simp[roM])
 rw[z4 zQU rfl];simp only[jg,roM]at hL;cases hq:sw.findIdx? (apP m r shi)with
 |none =>
  rw[hq]at hL;rw[kc]at hq;have:sw.any (apP m r shi)=false:=by simpa using hq
  simp[zJg,hL,this,zg]
 |some i =>
  rw[hq]at hL;obtain⟨h1,h2,_⟩:=jO.1 hq;have:sw.any (apP m r shi)=true:=kr.2 ⟨_,ji h1,h2⟩;simp[zJg,hL,this,zg]
abbrev rfM(m:zD)(r:List Int)(ps:List Pss)(c:zK8)(u v:Nat)(a b:Pss):Mem:=[bx 14 (zQI m r ps c),bx 4 [I 0,I 0,I 0,I 0],bx 4 [I 0,I 0,I 0,I 0],bxv u 4 (zKF a),bxv v 4 (zKF b)]
abbrev rfE(z:Int)(i:Nat)(is:Bool):Env:=[(10,.w (W i)),(5,.w (Pt 2)),(4,.w (Pt 1)),(1,.w (W z)),(8,.w (Pt 4)),(2,.w (Pt 0)),(7,.w (Pt 3)),(9,.w (Bo is))]
theorem zRu(m:zD)(r:List Int)(ps:List Pss)(hp:ps.length<=1000)(c:zK8)(z:Int):∀(t:List Pss) (i u v:Nat) (w:Pss×Pss×Bool),ps.drop i=t->i<=ps.length ->
  ∃u' v',Y L Cs zI5 (some [10,5,4,1,8,2,7,9]) 5 (rfE z i w.2.2) (rfM m r ps c u v w.1 w.2.1)=some (.exit 0,(15,.w (Bo false))::rfE z ps.length (zLV z t w).2.2,rfM m r ps c u' v' (zLV z t w).1 (zLV z t w).2.1):=by
 intro t;induction t with
 |nil =>
  intro i u v w hd hi;obtain rfl:=z5 hd hi;refine⟨u,v,?_⟩;rw[zj zI5.eq_1];simp[rfE,rfM,zLV]
 |cons p t ih =>
  intro i u v w hd hi;obtain⟨hil,hx,hd'⟩:=zL hd;have hw:=zB (i:=i) (by omega);obtain⟨w1,w2,w3⟩:=w;by_cases c1:p.kx=z
  ·cases w3 with
   |true =>
    obtain⟨u',v',h⟩:=ih (i+1) u (v+1) (w1,p,true) hd' hil;refine⟨u',v',?_⟩;have e:zLV z (p::t) (w1,w2,true)=zLV z t (w1,p,true):=by rw[zLV,if_pos c1];rfl
    rw[e,<-h,zj zI5.eq_1];clear h ih e;simp[rfE,rfM,zKF,hil,hx,hw,c1]
   |false =>
    obtain⟨u',v',h⟩:=ih (i+1) (u+1) (v+1) (p,p,true) hd' hil;refine⟨u',v',?_⟩;have e:zLV z (p::t) (w1,w2,false)=zLV z t (p,p,true):=by rw[zLV,if_pos c1];rfl
    rw[e,<-h,zj zI5.eq_1];clear h ih e;simp[rfE,rfM,zKF,hil,hx,hw,c1]
  ·have c2:(p.kx !=z)=true:=by simp[c1]
   obtain⟨u',v',h⟩:=ih (i+1) u v (w1,w2,w3) hd' hil;refine⟨u',v',?_⟩;have e:zLV z (p::t) (w1,w2,w3)=zLV z t (w1,w2,w3):=by rw[zLV,if_neg c1]
   rw[e,<-h,zj zI5.eq_1];clear h ih e;simp[rfE,rfM,zKF,hil,hx,hw,c1,c2]
theorem zRi(m:zD)(r:List Int)(ps:List Pss)(hp:ps.length<=1000)(c:zK8)(z:Int) :
  R L Cs zQO [.a (zQI m r ps c),W z] []=some (.t [.a (zKF (zNx ps z).1),.a (zKF (zNx ps z).2.1),Bo (zNx ps z).2.2],[]):=by
 obtain⟨u,v,h⟩:=zRu m r ps hp c z ps 0 0 0 (zKw,zKw,false) rfl (jt _);unfold zNx;generalize zLV z ps (zKw,zKw,false)=y at *;simp only[rfE,rfM,zKF,jg]at h;rw[z4 zQS rfl];simp[zJe,zKF,h,zg]
abbrev rcM(m:zD)(r:List Int)(ps:List Pss)(c:zK8)(q:Zon)(a b:Pss):Mem:=[bx 14 (zQI m r ps c),bxv 1 2 (zdP q),bxv 1 4 (zKF a),bxv 1 4 (zKF b)]
abbrev zRg(sw:List Swp)(i k:Nat):Env:=[(8,.w (Pt 2)),(1,.w (.c (.jb (zbf sw)))),(7,.w (Pt 1)),(11,.w (W i)),(12,.w (W k))]
abbrev rcE(sw:List Swp)(i:Nat):Env:=[(8,.w (Pt 2)),(1,.w (.c (.jb (zbf sw)))),(7,.w (Pt 1)),(11,.w (W i))]
theorem zRs(m:zD)(r:List Int)(ps:List Pss)(c:zK8)(sw:List Swp)(hs:sw.length<=100000000000)(q:Zon)(a b:Pss)(i:Nat)(hi:i<q.parts.length)(hne:¬(i:Int)=a.part):∀(t:List Swp) (k:Nat),sw.drop k=t->k<=sw.length ->
  (t.any (inS q.parts[i])=true->∃X Z,Y L Cs zI7 (some [8,1,7,11,12]) 4 (zRg sw i k) (rcM m r ps c q a b)=some (.ret,[(6,.w (Bo false))],rcM m r ps c q a b++[bxv 1 4 X,bxv 1 4 Z])) /\
  (t.any (inS q.parts[i])=false->Y L Cs zI7 (some [8,1,7,11,12]) 4 (zRg sw i k) (rcM m r ps c q a b)=some (.exit 2,[(44,.w (Bo false)),(11,.w (W i)),(7,.w (Pt 1)),(1,.w (.c (.jb (zbf sw)))),(8,.w (Pt 2)),(12,.w (W sw.length))],rcM m r ps c q a b)):=by
 intro t;have hnb:((i:Int) !=a.part)=true:=by simpa using hne
 induction t with
 |nil =>
  intro k hd hk;obtain rfl:=z5 hd hk;refine⟨fun q=>(by cases q),fun _=>?_⟩;rw[zj zI7.eq_1];simp
 |cons s t ih =>
  intro k hd hk;obtain⟨hkl,hx,hd'⟩:=zL hd;have hw:=zB (i:=k) (by omega);obtain⟨i1,i2⟩:=ih (k+1) hd' hkl;have hp:(zkl q.parts)[i]'(by simpa using hi)=zeB q.parts[i]:=by simp
  generalize hpp:q.parts[i]=p at *;rw[uL];cases hb:inS p s with
  |true =>
   simp only[inS,jk,decide_eq_true_eq,kD]at hb;obtain⟨⟨⟨b1,b2⟩,b3⟩,b4⟩:=hb;refine⟨fun _=>⟨swC s,zeB p,?_⟩,fun q=>by simp at q⟩;clear i1 i2 ih;rw[zj zI7.eq_1];simp[zRg,rcM,zdP,zKF,swC,zeB,hkl,hx,hi,hpp,hne,hnb,hw,b1,b2,b3,b4,zg,zH]
  |false =>
   rw[k7];have step:Y L Cs zI7 (some [8,1,7,11,12]) 4 (zRg sw i k) (rcM m r ps c q a b)=Y L Cs zI7 (some [8,1,7,11,12]) 4 (zRg sw i (k+1)) (rcM m r ps c q a b):=by
    clear i1 i2 ih;rw[zj zI7.eq_1];unfold inS at hb;by_cases b2:s.lane=p.lane
    ·cases b1:s.cap with
     |true=>simp[zRg,rcM,zdP,zKF,swC,zeB,hkl,hx,hi,hpp,hne,hnb,hw,b1,b2,zg,zH]
     |false =>
      by_cases b3:s.lo<=p.hi
      ·have b4:¬p.lo<=s.hi:=by simpa [b1,b2,b3]using hb
       simp[zRg,rcM,zdP,zKF,swC,zeB,hkl,hx,hi,hpp,hne,hnb,hw,b1,b2,b3,b4,zg,zH]
      ·simp[zRg,rcM,zdP,zKF,swC,zeB,hkl,hx,hi,hpp,hne,hnb,hw,b1,b2,b3,zg,zH]
    ·have b2':(s.lane==p.lane)=false:=by simpa using b2
     simp[zRg,rcM,zdP,zKF,swC,zeB,hkl,hx,hi,hpp,hne,hnb,hw,b2,b2',zg,zH]
   rw[step];exact⟨i1,i2⟩
theorem zRv(m:zD)(r:List Int)(ps:List Pss)(c:zK8)(sw:List Swp)(q:Zon)(a b:Pss)(i:Nat)(he:(i:Int)=a.part) :
  Y L Cs zI7 (some [8,1,7,11,12]) 4 (zRg sw i 0) (rcM m r ps c q a b)=some (.exit 2,[(44,.w (Bo false)),(11,.w (W i)),(7,.w (Pt 1)),(1,.w (.c (.jb (zbf sw)))),(8,.w (Pt 2)),(12,.w (W 0))],rcM m r ps c q a b):=by
 have hnb:((i:Int) !=a.part)=false:=by simpa using he
 rw[zj zI7.eq_1];cases sw with
 |nil=>simp[zRg,rcM,zdP,zKF]
 |cons s sw=>simp[zRg,rcM,zdP,zKF,he,hnb]
theorem zRr(m:zD)(r:List Int)(ps:List Pss)(c:zK8)(sw:List Swp)(hs:sw.length<=100000000000)(q:Zon)(hq:q.parts.length<=1000)(a b:Pss):∀(t:List Prt) (i:Nat),q.parts.drop i=t->i<=q.parts.length ->
  (zNK sw a.part i t=true->∃X Z,Y L Cs zI6 (some [8,1,7,11]) 4 (rcE sw i) (rcM m r ps c q a b)=some (.ret,[(6,.w (Bo false))],rcM m r ps c q a b++[bxv 1 4 X,bxv 1 4 Z])) /\
  (zNK sw a.part i t=false->Y L Cs zI6 (some [8,1,7,11]) 4 (rcE sw i) (rcM m r ps c q a b)=some (.exit 0,[(32,.w (Bo false)),(8,.w (Pt 2)),(1,.w (.c (.jb (zbf sw)))),(7,.w (Pt 1)),(11,.w (W q.parts.length))],rcM m r ps c q a b)):=by
 intro t;induction t with
 |nil =>
  intro i hd hi;obtain rfl:=z5 hd hi;refine⟨fun q=>(by cases q),fun _=>?_⟩;rw[zj zI6.eq_1];simp[rcM,zdP]
 |cons p t ih =>
  intro i hd hi;obtain⟨hil,hx,hd'⟩:=zL hd;have hw:=zB (i:=i) (by omega);obtain⟨i1,i2⟩:=ih (i+1) hd' hil;have hii:(i:Int)<q.parts.length:=by omega
  by_cases he:(i:Int)=a.part
  ·have hk:=zRv m r ps c sw q a b i he;have e:zNK sw a.part i (p::t)=zNK sw a.part (i+1) t:=by rw[zNK];simp[he]
   rw[e];have step:Y L Cs zI6 (some [8,1,7,11]) 4 (rcE sw i) (rcM m r ps c q a b)=Y L Cs zI6 (some [8,1,7,11]) 4 (rcE sw (i+1)) (rcM m r ps c q a b):=by
    clear i1 i2 ih;simp only[zRg,rcM,zdP,zKF,jg]at hk;rw[zj zI6.eq_1];simp[rcE,rcM,zdP,zKF,hil,hii,hk,hw]
   rw[step];exact⟨i1,i2⟩
  ·obtain⟨k1,k2⟩:=zRs m r ps c sw hs q a b i hil he sw 0 rfl (jt _);rw[hx]at k1 k2;cases hb:sw.any (inS p)with
   |true =>
    have e:zNK sw a.part i (p::t)=true:=by rw[zNK];simp[he,hb]
    rw[e];obtain⟨X,Z,hk⟩:=k1 hb;refine⟨fun _=>⟨X,Z,?_⟩,fun q=>by cases q⟩;clear i1 i2 ih k1 k2;simp only[zRg,rcM,zdP,zKF,jg,je,jc]at hk;rw[zj zI6.eq_1];simp[rcE,rcM,zdP,zKF,hil,hii,hk,hw]
   |false =>
    have e:zNK sw a.part i (p::t)=zNK sw a.part (i+1) t:=by rw[zNK];simp[hb]
    rw[e];have hk:=k2 hb;have step:Y L Cs zI6 (some [8,1,7,11]) 4 (rcE sw i) (rcM m r ps c q a b)=Y L Cs zI6 (some [8,1,7,11]) 4 (rcE sw (i+1)) (rcM m r ps c q a b):=by
     clear i1 i2 ih k1 k2;simp only[zRg,rcM,zdP,zKF,jg]at hk;rw[zj zI6.eq_1];simp[rcE,rcM,zdP,zKF,hil,hii,hk,hw]
    rw[step];exact⟨i1,i2⟩
theorem zRy{m:zD}{zs:List Zon}(hz:m.qB=zk8 zs)(hpf:∀z∈zs,z.parts.length<=6)(r:List Int)(ps:List Pss)(hp:ps.length<=1000)(c:zK8)(sw:List Swp)(hs:sw.length<=100000000000)(z:Int)(hzz:0<=z/\z<zs.length) :
  R L Cs zQP [.a (zQI m r ps c),.c (.jb (zbf sw)),W z] []=some (.w (Bo (!zNK sw (zNx ps z).1.part 0 (zMh zs z))),[]):=by
 obtain⟨j,rfl⟩:=jw hzz.1;have hzl:j<zs.length:=by omega
 have hzi:(j:Int)<zs.length:=hzz.2;have hzp:zMh zs j=zs[j].parts:=by simp[zMh,hzl]
 have h1:=zRi m r ps hp c j;obtain⟨k1,k2⟩:=zRr m r ps c sw hs zs[j] (by have:=hpf _ (ji hzl);omega) (zNx ps j).1 (zNx ps j).2.1 zs[j].parts 0 rfl (jt _);rw[hzp];generalize zNx ps j=y at *;simp only[zQI,zKF]at h1;rw[z4 zQT rfl];cases hb:zNK sw y.1.part 0 zs[j].parts with
 |true =>
  obtain⟨X,Z,hk⟩:=k1 hb;clear k1 k2;simp only[rcE,rcM,zQI,zdP,zKF,hz,jg,je,jc]at hk;simp only[hz]at h1;simp[zJf,zQI,zdP,zKF,hz,hzl,hzi,h1,hk,zg]
 |false =>
  have hk:=k2 hb;clear k1 k2;simp only[rcE,rcM,zQI,zdP,zKF,hz,jg,je,jc]at hk;simp only[hz]at h1;simp[zJf,zQI,zdP,zKF,hz,hzl,hzi,h1,hk,zg]
def znP(zs:List Zon)(ps:List Pss)(sw:List Swp)(high low:Int)(p:Pss):Bool:=decide (p.lo<=high)&&decide (low<=p.hi)&&zNK sw (zNx ps p.kx).1.part 0 (zMh zs p.kx)
theorem zRS{m:zD}{zs:List Zon}(hz:m.qB=zk8 zs)(hpf:∀z∈zs,z.parts.length<=6)(r:List Int)(ps:List Pss)(hp:ps.length<=1000)(hpo:∀p∈ps,zPn zs p)(c:zK8)(sw:List Swp)(hs:sw.length<=100000000000)(low high:Int) :
  R L Cs zQN [.a (zQI m r ps c),.c (.jb (zbf sw)),W low,W high] []=some (.w (Bo (!ps.any (znP zs ps sw high low))),[]):=by
 have hL:=zxf (L:=L) (Cs:=Cs) (b:=zI4) (live:=some [3,2,1,4,9]) (n0:=1) ps (fun i=>[(3,.w (W high)),(2,.w (W low)),(1,.w (.c (.jb (zbf sw)))),(4,.w (Pt 0)),(9,.w (W i))]) (roM m r ps c) (znP zs ps sw high low) (fun i=>(.ret,[(8,.w (Bo false))],roM m r ps c)) (.exit 0,[(14,.w (Bo false)),(4,.w (Pt 0)),(1,.w (.c (.jb (zbf sw)))),(2,.w (W low)),(3,.w (W high)),(9,.w (W ps.length))],roM m r ps c)
  (fun i hi hb=>by
   have hw:=zB (i:=i) (by omega);have ho:=hpo ps[i] (ji hi);have hC:=zRy hz hpf r ps hp c sw hs ps[i].kx ho.1;unfold znP at hb;generalize zNK sw (zNx ps ps[i].kx).1.part 0 (zMh zs ps[i].kx)=y at *;generalize hpi:ps[i]=p at *;simp only[zQI]at hC;rw[zj zI4.eq_1];by_cases c1:p.lo<=high
   ·by_cases c2:low<=p.hi
    ·have c3:y=false:=by simpa [c1,c2]using hb
     subst c3;simp[roM,zKF,hi,hpi,hw,c1,c2,hC]
    ·simp[roM,zKF,hi,hpi,hw,c1,c2]
   ·simp[roM,zKF,hi,hpi,hw,c1])
  (fun i hi hb=>by
   have ho:=hpo ps[i] (ji hi);have hC:=zRy hz hpf r ps hp c sw hs ps[i].kx ho.1;unfold znP at hb;generalize zNK sw (zNx ps ps[i].kx).1.part 0 (zMh zs ps[i].kx)=y at *;generalize hpi:ps[i]=p at *;simp only[jk,decide_eq_true_eq]at hb;obtain⟨⟨c1,c2⟩,c3⟩:=hb;subst c3;simp only[zQI]at hC;rw[zj zI4.eq_1];simp[roM,zKF,hi,hpi,c1,c2,hC])
  (by rw[zj zI4.eq_1];simp[roM])
 rw[z4 zQR rfl];simp only[jg,roM]at hL;cases hq:ps.findIdx? (znP zs ps sw high low)with
 |none =>
  rw[hq]at hL;rw[kc]at hq;have:ps.any (znP zs ps sw high low)=false:=by simpa using hq
  simp[zJc,hL,this,zg]
 |some i =>
  rw[hq]at hL;obtain⟨h1,h2,_⟩:=jO.1 hq;have:ps.any (znP zs ps sw high low)=true:=kr.2 ⟨_,ji h1,h2⟩;simp[zJc,hL,this,zg]
theorem zRq(n:Nat)(p:Nat->Bool)(h:(List.range n).findIdx? p=none):(List.range n).any p=false:=by
 rw[kc]at h;simpa using h
theorem zRn(n:Nat)(p:Nat->Bool){i:Nat}(h:(List.range n).findIdx? p=some i):(List.range n).any p=true:=by
 obtain⟨h1,h2,_⟩:=jO.1 h;exact kr.2 ⟨_,ji h1,h2⟩
def enP(ps:List Pss)(len shi slo:Int)(z:Nat):Bool:=(zNx ps z).2.2&&decide ((zNx ps z).1.lo<=shi)&&decide (slo-len<=(zNx ps z).2.1.hi)
theorem zR2{m:zD}{zs:List Zon}(hz:m.qB=zk8 zs)(hzn:zs.length<=100)(r:List Int)(ps:List Pss)(hp:ps.length<=1000)(c:zK8)(hc:0<=c.len/\c.len<=20000)(e:Ego)(he:znd e) :
  R L Cs zQW [.a (zQI m r ps c),.a (zch e)] []=some (.w (Bo (!(List.range zs.length).any (enP ps c.len e.shi e.slo)&&decide (e.vhi=0))),[]):=by
 have he1:=he.s;have w1:=kq (e.slo-c.len);have hL:=zxf (L:=L) (Cs:=Cs) (b:=zI9) (live:=some [3,2,5]) (n0:=2) (List.range zs.length) (fun i=>[(3,.w (Pt 1)),(2,.w (Pt 0)),(5,.w (W i))]) [bx 14 (zQI m r ps c),bx 4 (zch e)] (enP ps c.len e.shi e.slo) (fun i=>(.ret,[(4,.w (Bo false))],[bx 14 (zQI m r ps c),bx 4 (zch e),bxv 1 4 (zKF (zNx ps i).1),bxv 1 4 (zKF (zNx ps i).2.1)])) (.exit 0,[(14,.w (Bo false)),(2,.w (Pt 0)),(3,.w (Pt 1)),(5,.w (W zs.length))],[bx 14 (zQI m r ps c),bx 4 (zch e)])
  (fun i hi hb=>by
   rw[vk]at hi;have hw:=zB (i:=i) (by omega);have hF:=zRi m r ps hp c i;rw[uX]at hb;unfold enP at hb;generalize zNx ps i=y at *;obtain⟨a,b,is⟩:=y;simp only[zQI,zKF,hz]at hF;simp only at hb;rw[zj zI9.eq_1];cases is with
   |false=>simp[zQI,zKF,zch,hz,hi,hw,hF,zg,zH]
   |true =>
    by_cases c1:a.lo<=e.shi
    ·have c2:¬e.slo-c.len<=b.hi:=by simpa [c1]using hb
     simp[zQI,zKF,zch,hz,hi,hw,hF,c1,w1,c2,zg,zH]
    ·simp[zQI,zKF,zch,hz,hi,hw,hF,c1,zg,zH])
  (fun i hi hb=>by
   rw[vk]at hi;have hF:=zRi m r ps hp c i;rw[uX]at hb;unfold enP at hb;generalize zNx ps i=y at *;obtain⟨a,b,is⟩:=y;simp only[zQI,zKF,hz]at hF;simp only[jk,decide_eq_true_eq]at hb;obtain⟨⟨rfl,c1⟩,c2⟩:=hb;rw[zj zI9.eq_1];simp[zQI,zKF,zch,hz,hi,hF,c1,w1,c2,zg,zH])
  (by rw[zj zI9.eq_1];simp[hz])
 rw[z4 zQX rfl];simp only[jg,zch,zKF]at hL;cases hq:(List.range zs.length).findIdx? (enP ps c.len e.shi e.slo)with
 |none =>
  rw[hq]at hL;rw[zRq _ _ hq];by_cases h0:e.vhi=0
  ·obtain⟨e1,e2,e3,e4⟩:=e;simp only at h0 hL;subst h0;simp[zJj,hL,zch,zg]
  ·have hb:(e.vhi==0)=false:=by simp[h0]
   simp[zJj,hL,zch,h0,hb,zg]
 |some i =>
  rw[hq]at hL;rw[zRn _ _ hq];simp[zJj,hL,zch,zg]
theorem zR0{m:zD}(h:zcp m)(x:Int):R L Cs zD9 [.a (zf m),W x] []=some (.w (Bo (decide (0<=x)&&decide (x<m.jd.length))),[]):=by
 have hk:=h.Bk;rw[z4 zEa rfl];simp only[zf]at hk;by_cases c1:0<=x
 ·by_cases c2:x<m.jd.length
  ·simp[zDW,zf,hk,c1,c2]
  ·simp[zDW,zf,hk,c1,c2]
 ·simp[zDW,zf,hk,c1]
theorem zRT{m:zD}{zs:List Zon}{ss:List Sgn}(hf:zmq m zs ss)(j:Nat)(hj:j<ss.length)(x:Int)(hx:0<=x/\x<m.jd.length)(tick:Int)(ht:0<=tick) :
  R L Cs zRa [.a (zf m),W j,W x,W tick] []=some (.w (Bo (zfA ss[j] x tick)),[]):=by
 have h1:=zR0 hf.qA x;have h2:=zrO ss[j] x tick (hf.zd.ph _ (ji hj));have hs:=hf.zd.s;have hji:(j:Int)<ss.length:=by omega
 simp only[zf,hx.1,hx.2,decide_true,Bool.and_self]at h1;simp only[zeq]at h2;rw[hs]at h1;rw[z4 zRd rfl];simp[zJV,zf,zeq,hs,h1,h2,hj,hji,ht]
def grP(zs:List Zon)(ss:List Sgn)(ps:List Pss)(shi slo tick:Int)(z:Nat):Bool:=(zNx ps z).2.2&&decide (0<zPp zs z)&&decide ((zNx ps z).1.lo<=shi)&&decide (slo<(zNx ps z).1.lo) && !zfA (ss.getD (zPp zs z-1).toNat ztn) (zPX zs z (zNx ps z).1.part) tick
theorem zRI{m:zD}{zs:List Zon}{ss:List Sgn}(hf:zmq m zs ss)(r:List Int)(ps:List Pss)(hp:ps.length<=1000)(hpo:∀z,(zNx ps z).2.2=true->zPn zs (zNx ps z).1/\(zNx ps z).1.kx=z)(c:zK8)(slo shi tick:Int)(ht:0<=tick) :
  R L Cs zQL [.a (zQI m r ps c),W slo,W shi,W tick] []=some (.w (Bo (!(List.range zs.length).any (grP zs ss ps shi slo tick))),[]):=by
 have hz:=hf.zd.z;have hzn:=hf.zd.few;have main:∀(i:Nat) (hi:i<zs.length),Y L Cs zI3 (some [9,2,1,3,4]) 1 [(9,.w (W i)),(2,.w (W shi)),(1,.w (W slo)),(3,.w (W tick)),(4,.w (Pt 0))] (roM m r ps c)=if grP zs ss ps shi slo tick i=true then some (.ret,[(8,.w (Bo false))],roM m r ps c++[bxv 1 4 (zKF (zNx ps i).1),bxv 1 4 (zKF (zNx ps i).2.1)]) else Y L Cs zI3 (some [9,2,1,3,4]) 1 [(9,.w (W (i+1:Nat))),(2,.w (W shi)),(1,.w (W slo)),(3,.w (W tick)),(4,.w (Pt 0))] (roM m r ps c):=by
  intro i hi;have hw:=zB (i:=i) (by omega);have hii:(i:Int)<zs.length:=by omega
  have hF:=zRi m r ps hp c i;have hO:=hpo i;have hzp:zMh zs (i:Int)=zs[i].parts:=by simp[zMh,hi]
  have hzg:zPp zs (i:Int)=zs[i].qd:=by simp[zPp,hi]
  have hsig:=hf.zd.sig zs[i] (ji hi);have hsf:=hf.zd.BZ;unfold grP;rw[hzg];generalize zNx ps i=y at *;obtain⟨a,b,is⟩:=y;simp only[zQI,zKF,hz]at hF;simp only at hO;cases is with
  |false =>
   rw[if_neg (by simp),zj zI3.eq_1];simp[roM,zQI,zKF,hz,hi,hii,hw,hF,zg,zH]
  |true =>
   obtain⟨⟨o1,o2,o3⟩,o4⟩:=hO rfl;rw[o4,hzp]at o3;obtain⟨e,he⟩:=jw o2;have hel:e<zs[i].parts.length:=by omega
   have hei:(e:Int)<zs[i].parts.length:=by omega
   have hpl:zPX zs (i:Int) a.part=zs[i].parts[e].lane:=by unfold zPX;rw[hzp,he];simp[hel]
   rw[hpl];by_cases c1:zs[i].qd=0
   ·rw[if_neg (by simp[c1]),zj zI3.eq_1];simp[roM,zQI,zKF,zdP,hz,hi,hii,hw,hF,c1,zg,zH]
   ·have b1:(zs[i].qd==0)=false:=by simp[c1]
    have p1:0<zs[i].qd:=by omega
    by_cases c2:a.lo<=shi
    ·have b2:¬shi<a.lo:=by omega
     by_cases c3:slo<a.lo
     ·have b3:¬a.lo<=slo:=by omega
      obtain⟨j,hj⟩:∃j:Nat,zs[i].qd=j+1:=⟨(zs[i].qd-1).toNat,by omega⟩;have hjl:j<ss.length:=by omega
      have wj:IntKind.i64.wrap (zs[i].qd-1)=j:=by rw[hj];rw[zTd _ (by omega) (by omega)];omega
      have hgd:ss.getD (zs[i].qd-1).toNat ztn=ss[j]:=by
       rw[show(zs[i].qd-1).toNat=j by omega];simp[jp,hjl]
      have hG:=zRT hf j hjl zs[i].parts[e].lane (hf.pv _ (ji hi) _ (ji hel)).1 tick ht;rw[hgd];simp only[zf,hz]at hG;cases hg:zfA ss[j] zs[i].parts[e].lane tick with
      |true =>
       rw[hg]at hG;rw[if_neg (by simp),zj zI3.eq_1];simp[roM,zQI,zf,zKF,zdP,zeB,hz,hi,hii,hw,hF,c1,b1,c2,b2,c3,b3,he,hel,hei,wj,hG,zg,zH]
      |false =>
       rw[hg]at hG;rw[if_pos (by simp[p1,c2,c3]),zj zI3.eq_1];simp[roM,zQI,zf,zKF,zdP,zeB,hz,hi,hii,hw,hF,c1,b1,c2,b2,c3,b3,he,hel,hei,wj,hG,zg,zH]
     ·have b3:a.lo<=slo:=by omega
      rw[if_neg (by simp[c3]),zj zI3.eq_1];simp[roM,zQI,zKF,zdP,hz,hi,hii,hw,hF,c1,b1,c2,b2,c3,b3,zg,zH]
    ·have b2:shi<a.lo:=by omega
     rw[if_neg (by simp[c2]),zj zI3.eq_1];simp[roM,zQI,zKF,zdP,hz,hi,hii,hw,hF,c1,b1,c2,b2,zg,zH]
 have hL:=zxf (L:=L) (Cs:=Cs) (b:=zI3) (live:=some [9,2,1,3,4]) (n0:=1) (List.range zs.length) (fun i=>[(9,.w (W i)),(2,.w (W shi)),(1,.w (W slo)),(3,.w (W tick)),(4,.w (Pt 0))]) (roM m r ps c) (grP zs ss ps shi slo tick) (fun i=>(.ret,[(8,.w (Bo false))],roM m r ps c++[bxv 1 4 (zKF (zNx ps i).1),bxv 1 4 (zKF (zNx ps i).2.1)])) (.exit 0,[(18,.w (Bo false)),(9,.w (W zs.length)),(2,.w (W shi)),(1,.w (W slo)),(3,.w (W tick)),(4,.w (Pt 0))],roM m r ps c)
  (fun i hi hb=>by
   rw[vk]at hi;rw[uX]at hb;rw[main i hi,hb];simp)
  (fun i hi hb=>by
   rw[vk]at hi;rw[uX]at hb;rw[main i hi,hb];simp)
  (by rw[zj zI3.eq_1];simp[roM,hz])
 rw[z4 zQM rfl];simp only[jg,roM,zKF,je,jc]at hL;cases hq:(List.range zs.length).findIdx? (grP zs ss ps shi slo tick)with
 |none =>
  rw[hq]at hL;rw[zRq _ _ hq];simp[zJa,hL,zg]
 |some i =>
  rw[hq]at hL;rw[zRn _ _ hq];simp[zJa,hL,zg]
theorem zR5{m:zD}{zs:List Zon}{r:List Int}(z:Int)(h:(zNx (zKh m zs 0 r) z).2.2=true):zPn zs (zNx (zKh m zs 0 r) z).1/\(zNx (zKh m zs 0 r) z).1.kx=z:=by
 obtain⟨p,h1,h2,h3⟩:=zPt z _ _ h rfl;unfold zNx;rw[h3];exact⟨zNh m zs r 0 p h1,h2⟩
theorem zRt(z:Int):∀(t:List Pss) (w:Pss×Pss×Bool),(w.2.2=true\/∃p∈t,p.kx=z)->(zLV z t w).2.2=true
 |[],w,h=>by
  rcases h with h |⟨p,hp,_⟩
  ·exact h
  ·cases hp
 |q::t,w,h=>by
  unfold zLV;by_cases c:q.kx=z
  ·rw[if_pos c];exact zRt z t _ (.inl rfl)
  ·rw[if_neg c];refine zRt z t w ?_;rcases h with h |⟨p,hp,hz⟩
   ·exact .inl h
   ·rcases jB.1 hp with rfl|hp
    ·exact absurd hz c
    ·exact .inr ⟨p,hp,hz⟩
theorem zRk(m:zD)(zs:List Zon)(r:List Int)(y:Nat):0<=(zKn (zKh m zs 0 r) y).entry<->(zNx (zKh m zs 0 r) y).2.2=true:=by
 obtain⟨_,h2,h3,_⟩:=zOR (zKh m zs 0 r) (fun p hp=>(zNh m zs r 0 p hp).2.1) y;cases hb:(zNx (zKh m zs 0 r) y).2.2 with
 |true=>exact⟨fun _=>rfl,fun _=>(h2 hb).1⟩
 |false=>rw[h3 hb];exact⟨fun h=>absurd h (by decide),fun h=>by cases h⟩
theorem zRC(m:zD)(zs:List Zon)(r:List Int)(p:Vis->Bool)(q:Nat->Bool)(h:∀y:Nat,y<zs.length->q y=((zNx (zKh m zs 0 r) y).2.2&&p (zKn (zKh m zs 0 r) y))):(pvV m zs r).any p=(List.range zs.length).any q:=by
 rw[Bool.eq_iff_iff,kr,kr];constructor
 ·rintro⟨v,hv,hp⟩;obtain⟨y,_,hy,he,rfl⟩:=(zNn _ _ _ _).1 hv;refine⟨y,qJ.2 (by omega),?_⟩;rw[h y (by omega),hp,(zRk m zs r y).1 he];rfl
 ·rintro⟨y,hy,hq⟩;have hy:=qJ.1 hy;rw[h y hy,jk]at hq;exact⟨zKn (zKh m zs 0 r) y,(zNn _ _ _ _).2 ⟨y,by omega,by omega,(zRk m zs r y).2 hq.1,rfl⟩,hq.2⟩
theorem zRZ(m:zD)(zs:List Zon)(r:List Int)(len:Int)(e:Ego):(pvV m zs r).any (zOS len e)=(List.range zs.length).any (enP (zKh m zs 0 r) len e.shi e.slo):=by
 refine zRC m zs r _ _ fun y hy=>?_
 obtain⟨_,_,_,h4,h5⟩:=zOR (zKh m zs 0 r) (fun p hp=>(zNh m zs r 0 p hp).2.1) y;unfold enP zOS;rw[h4,h5,Bool.and_assoc]
theorem zRE(m:zD)(zs:List Zon)(ss:List Sgn)(r:List Int)(shi slo tick:Int):(pvV m zs r).any (zNj zs ss shi slo tick)=(List.range zs.length).any (grP zs ss (zKh m zs 0 r) shi slo tick):=by
 refine zRC m zs r _ _ fun y hy=>?_
 obtain⟨h1,h2,_,h4,h5⟩:=zOR (zKh m zs 0 r) (fun p hp=>(zNh m zs r 0 p hp).2.1) y;unfold grP zNj zP1 zP0;cases hb:(zNx (zKh m zs 0 r) y).2.2 with
 |false=>simp
 |true =>
  rw[h1,h4,(h2 hb).2];simp only[uM,Bool.and_assoc]
theorem zRJ(m:zD)(zs:List Zon)(r:List Int)(sw:List Swp)(high low:Int):(pvV m zs r).any (alP zs (zKh m zs 0 r) sw high low)=(zKh m zs 0 r).any (znP zs (zKh m zs 0 r) sw high low):=by
 rw[Bool.eq_iff_iff,kr,kr];constructor
 ·rintro⟨v,hv,hp⟩;obtain⟨y,_,hy,he,rfl⟩:=(zNn _ _ _ _).1 hv;obtain⟨h1,h2,_,h4,h5⟩:=zOR (zKh m zs 0 r) (fun p hp=>(zNh m zs r 0 p hp).2.1) y;unfold alP zNf at hp;rw[h1,jk,kr]at hp;obtain⟨⟨p,hp1,hp2⟩,hp3⟩:=hp;unfold zM4 at hp2;simp only[jk,decide_eq_true_eq]at hp2;refine⟨p,hp1,?_⟩;unfold znP;rw[hp2.1.1,<-(h2 ((zRk m zs r y).1 he)).2,hp3];simp[hp2]
 ·rintro⟨p,hp,hq⟩;obtain⟨o1,_,_⟩:=zNh m zs r 0 p hp;obtain⟨y,hy⟩:=jw o1.1;have hf:(zNx (zKh m zs 0 r) y).2.2=true:=zRt _ _ _ (.inr ⟨p,hp,hy⟩);obtain⟨h1,h2,_,h4,h5⟩:=zOR (zKh m zs 0 r) (fun p hp=>(zNh m zs r 0 p hp).2.1) y;refine⟨zKn (zKh m zs 0 r) y,(zNn _ _ _ _).2 ⟨y,by omega,by omega,(zRk m zs r y).2 hf,rfl⟩,?_⟩;unfold znP at hq;rw[hy,jk,jk,decide_eq_true_eq,decide_eq_true_eq]at hq;unfold alP zNf;rw[h1,(h2 hf).2,hq.2,Bool.and_true,kr];exact⟨p,hp,by simp[zM4,hy,hq.1]⟩
theorem zR1{m:zD}{zs:List Zon}{ss:List Sgn}(hF:zKj m zs ss){r:List Int}(hr:zdA m r=0)(c:zK8)(hc:0<=c.len/\c.len<=20000)(was now:zci)(hw:KJ m was)(ht:0<=was.tick)(hn:KJ m now)(hsh:now.ego.shi<=10000000000\/zmd m 0 r<now.ego.shi)(sw:List Swp)(hs:sw.length<=100000000000)(hok:∀s∈sw,zPI m s) :
  R L Cs zQV [.a (zQI m r (zKh m zs 0 r) c),.a (zG was),.a (zG now),.c (.jb (zbf sw))] []=some (.w (W (zMi m zs ss r c.len (zKh m zs 0 r) (pvV m zs r) was now sw)),[]):=by
 have hf:=hF.full;have h:=hf.qA;obtain⟨hon,hne,hl8⟩:=zg1 h hr;have hp:=hF.few r hr;have he:=hw.ego.s;have hen:=hn.ego;have hes:=hen.s;have hev:=hen.v;have hz:=hf.zd.z;have w1:=kq (was.ego.slo-c.len);have h3:=zRU h r hl8 hon (zKh m zs 0 r) c sw hs hok now.ego.shi;have h4:=zRS hz hf.zd.Bm r (zKh m zs 0 r) (by omega) (zNh m zs r 0) c sw hs (was.ego.slo-c.len) now.ego.shi;have h5:=zRI (ss:=ss) hf r (zKh m zs 0 r) (by omega) (fun z hz=>zR5 z hz) c was.ego.slo now.ego.shi was.tick ht;rw[<-zRJ]at h4;rw[<-zRE]at h5;unfold zMi;simp only[zKs,zMG,zMH,zMF];have hEb:=zFu h r hl8 hon;by_cases c1:zmd m 0 r<now.ego.shi
 ·have e:onW m r now=3:=by rw[onW,if_pos c1]
  rw[e,if_neg (by decide),z4 zQH rfl];simp[zJi,zG,c1,zg]
 ·have e:onW m r now=0:=by rw[onW,if_neg c1]
  have hsh:=hsh.resolve_right c1;have h2:=zRA h hF.ky r (by omega) hon now.ego.slo now.ego.shi now.tick (by omega) (by omega);rw[e,if_pos rfl];unfold zMt;rw[Int.max_comm]at h2;generalize max (zNU m now.ego.slo now.ego.shi now.tick 0 (-1) r) 0=q at *;simp only[zQI,zf]at h2 h3 h4 h5;by_cases c2:q<now.ego.vhi
  ·rw[if_pos c2,if_neg (by decide),z4 zQH rfl];simp[zJi,zG,c1,h2,c2,zg]
  ·rw[if_neg c2,if_pos rfl];rcases uN ((pvV m zs r).any (alP zs (zKh m zs 0 r) sw now.ego.shi (was.ego.slo-c.len)))with q4|q4<;>rcases uN ((pvV m zs r).any (zNj zs ss now.ego.shi was.ego.slo was.tick))with q5|q5<;>rw[q4]at h4<;>rw[q5]at h5<;>simp only[q4,q5]
   all_goals
    by_cases c0:now.ego.vhi=0
    ·have g0:¬0<now.ego.vhi:=by omega
     rw[if_pos c0,z4 zQH rfl];clear c0;simp (maxSteps:=1000000) [zJi,zG,c1,h2,c2,g0,h4,h5,w1,zg]
    ·have g0:0<now.ego.vhi:=by omega
     rw[if_neg c0];clear c0;rcases uN (sw.any (apP m r now.ego.shi))with q3|q3<;>rw[q3]at h3<;>simp only[q3]<;>rw[z4 zQH rfl]<;>simp (maxSteps:=1000000) [zJi,zG,c1,h2,c2,g0,h3,h4,h5,w1,zg]
def zRj(m:zD)(zs:List Zon)(ss:List Sgn)(r:List Int)(len:Int)(signals:Bool):List Int->Nat->zci->Option (Nat×Int)×zci
 |[],i,k=>(none,k)
 |a::t,i,k=>if zIY m r k.tick k.ego a then(some (0,1),k) else if zMi m zs ss r len (zKh m zs 0 r) (pvV m zs r) k (zEt m zs ss r len signals k a) (zKu m zs ss r len signals k a)=0 then zRj m zs ss r len signals t (i+1) (zEt m zs ss r len signals k a) else(some (i+1,zMi m zs ss r len (zKh m zs 0 r) (pvV m zs r) k (zEt m zs ss r len signals k a) (zKu m zs ss r len signals k a)),k)
abbrev rvM(m:zD)(r:List Int)(ps:List Pss)(c:zK8)(kv:Nat)(k:zci)(jv:List Int)(rv:Nat)(x:Bool×Int×Int):Mem:=[bx 5 (zf m),bx 5 (Pl.kl c),bxv kv 6 (zG k),bx 1 [.jb (zu jv)],bxv rv 3 (zJ4 x),bxv 1 3 [.bool false,I 0,I 1],bxv 1 14 (zQI m r ps c)]
abbrev rvE(r:List Int)(signals:Bool)(i:Nat):Env:=[(17,.w (W i)),(9,.w (Pt 2)),(16,.w (Pt 6)),(6,.w (Pt 0)),(5,.w (Bo signals)),(10,.w (Pt 3)),(8,.w (Pt 1)),(1,.w (.c (.jb (zu r)))),(13,.w (Pt 5)),(12,.w (Pt 4))]
theorem zRz{m:zD}(h:zcp m){r:List Int}(hr:zdA m r=0)(e:Ego)(a:Int):(zaN m r e a).shi<=e.shi+2000:=by
 obtain⟨hon,hne,hl8⟩:=zg1 h hr;obtain⟨x0,r',rfl⟩:∃x r',r=x::r':=by cases r with|nil=>exact absurd rfl hne|cons x r'=>exact⟨x,r',rfl⟩
 have:=zge h r' (hon x0 (jo ..)) a e.vhi;simp only[zaN];omega
theorem zRV{m:zD}{zs:List Zon}{ss:List Sgn}(hF:zKj m zs ss){r:List Int}(hr:zdA m r=0)(c:zK8)(hc:c.ok)(signals:Bool)(jv:List Int)(hin:∀a∈jv,zk0 a)(hal:jv.length<=1000):∀(t:List Int) (i kv:Nat) (k:zci),jv.drop i=t->i<=jv.length->zdf m k=0 ->
  ((zRj m zs ss r c.len signals t i k).1=none->znd (zRj m zs ss r c.len signals t i k).2.ego/\∃kv',Y L Cs zJm (some [17,9,16,6,5,10,8,1,13,12]) 7 (rvE r signals i) (rvM m r (zKh m zs 0 r) c kv k jv 0 (false,0,0))=some (.exit 0,(77,.w (Bo false))::rvE r signals jv.length,rvM m r (zKh m zs 0 r) c kv' (zRj m zs ss r c.len signals t i k).2 jv 0 (false,0,0))) /\
  (∀at' why,(zRj m zs ss r c.len signals t i k).1=some (at',why)->∃kv' k' T,Y L Cs zJm (some [17,9,16,6,5,10,8,1,13,12]) 7 (rvE r signals i) (rvM m r (zKh m zs 0 r) c kv k jv 0 (false,0,0))=some (.ret,[(12,.w (Pt 4))],rvM m r (zKh m zs 0 r) c kv' k' jv 1 (false,(at':Int),why)++T)):=by
 have hf:=hF.full;have h:=hf.qA;obtain⟨hon,hne,hl8⟩:=zg1 h hr;have hEb:=zFu h r hl8 hon;have hcl:300<=c.len/\c.len<=20000:=⟨hc.1,hc.2.1⟩;intro t;induction t with
 |nil =>
  intro i kv k hd hi hck;obtain rfl:=z5 hd hi;refine⟨fun _=>⟨(zte hck).1,kv,?_⟩,fun _ _ q=>(by cases q)⟩;rw[zj zJm.eq_1];simp[rvE,rvM,zRj]
 |cons a t ih =>
  intro i kv k hd hi hck;obtain⟨hil,hx,hd'⟩:=zL hd;have hw:=zB (i:=i) (by omega);have ha:zk0 a:=hin a (by rw[<-hx];exact ji hil);have hke:=zte hck;have hko:=zFp h hf.v5 hck;have hkj:=zPP h hck;have hS:=zy6 hf r (by omega) c.len k hko.len hko.ok a ha signals;have hG:=zDw hf hr c.len (by omega) k (zN7 h hf.v5 hkj) (by omega) hkj.ego hkj.vb a ha signals;have hd2:=zRz h hr k.ego a;have hEe:zm6 m r c.len k a=0<->¬zIY m r k.tick k.ego a:=by
   unfold zm6 zIY;rw[if_pos hck,if_pos hr];constructor
   ·intro q;split at q
    ·omega
    ·cases q
   ·intro q;rw[if_pos ⟨hcl,by omega,by omega⟩]
  have hE2:zIY m r k.tick k.ego a->zm6 m r c.len k a=2:=by
   intro q;unfold zIY at q;unfold zm6;rw[if_pos hck,if_pos hr,if_neg (by omega)]
  unfold zRj;by_cases hb:zIY m r k.tick k.ego a
  ·rw[if_pos hb];refine⟨fun q=>(by cases q),fun at' why q=>?_⟩;simp only[jh,jy]at q;obtain⟨rfl,rfl⟩:=q;clear ih hG;have e2:=hE2 hb;unfold zsH at hS;rw[if_neg (by omega),e2]at hS;unfold zIY at hb;refine⟨kv,k,[bxv 1 6 (zG ⟨0,[],⟨0,0,0,0⟩⟩)],?_⟩;simp only[zf,zG]at hS;rw[zj zJm.eq_1];by_cases g1:k.tick=1099511627776
   ·rw[g1]at hS;simp (maxSteps:=1000000) [rvE,rvM,zf,zG,Pl.kl,zJ4,zJY,hil,hx,g1,hS,zg,zH]
   ·have g1b:(k.tick==1099511627776)=false:=by simp[g1]
    have g2:1099511625776<k.ego.shi:=by omega
    simp (maxSteps:=1000000) [rvE,rvM,zf,zG,Pl.kl,zJ4,zJY,hil,hx,g1,g1b,g2,hS,zg,zH]
  ·rw[if_neg hb];have e0:=hEe.2 hb;have hnk:=zFh hf (zs:=zs) (ss:=ss) e0 signals;have hnj:=zPP h hnk;have hso:=zOa hf (zs:=zs) (ss:=ss) r c.len signals hkj a;have hsl:=zNq hf (zs:=zs) (ss:=ss) hr c.len signals hkj a;have hR:=zR1 hF hr c (by omega) k (zEt m zs ss r c.len signals k a) hkj (by omega) hnj (by by_cases q:zmd m 0 r<(zEt m zs ss r c.len signals k a).ego.shi;exact .inr q;exact .inl (by omega)) (zKu m zs ss r c.len signals k a) hsl hso;unfold zsH at hS;rw[if_pos e0]at hS;unfold zIY at hb;have ih':=ih (i+1) (kv+1) (zEt m zs ss r c.len signals k a) hd' hil hnk;clear ih;generalize zMi m zs ss r c.len (zKh m zs 0 r) (pvV m zs r) k (zEt m zs ss r c.len signals k a) (zKu m zs ss r c.len signals k a)=wy at *;generalize hkk:zEt m zs ss r c.len signals k a=K at *;unfold zEt at hkk;rw[hkk]at hS hG;generalize hss:zKu m zs ss r c.len signals k a=sw at *;unfold zKu at hss;rw[hss]at hS hG;clear hkk hss hso hsl hnj hnk hEe hE2;generalize zKh m zs 0 r=ps at *;simp only[zf,zG,zQI]at hS hG hR;by_cases c1:wy=0
   ·rw[if_pos c1];subst c1;have step:Y L Cs zJm (some [17,9,16,6,5,10,8,1,13,12]) 7 (rvE r signals i) (rvM m r ps c kv k jv 0 (false,0,0))=Y L Cs zJm (some [17,9,16,6,5,10,8,1,13,12]) 7 (rvE r signals (i+1)) (rvM m r ps c (kv+1) K jv 0 (false,0,0)):=by
     clear ih';rw[zj zJm.eq_1];have g1:¬k.tick=1099511627776:=by omega
     have g1b:(k.tick==1099511627776)=false:=by simp[g1]
     by_cases g2:1099511625776<k.ego.shi
     ·simp (maxSteps:=1000000) [rvE,rvM,zf,zG,Pl.kl,zJ4,zJY,hil,hx,hw,g1,g1b,g2,hS,hG,hR,zg,zH]
     ·simp (maxSteps:=1000000) [rvE,rvM,zf,zG,Pl.kl,zJ4,zJY,hil,hx,hw,g1,g1b,g2,hG,hR,zg,zH]
    rw[step];exact ih'
   ·rw[if_neg c1];refine⟨fun q=>(by cases q),fun at' why q=>?_⟩;simp only[jh,jy]at q;obtain⟨rfl,rfl⟩:=q;have cb:(wy==0)=false:=by simp[c1]
    clear ih';have g1:¬k.tick=1099511627776:=by omega
    have g1b:(k.tick==1099511627776)=false:=by simp[g1]
    by_cases g2:1099511625776<k.ego.shi
    ·refine⟨kv,k,[bxv 1 6 (zG K),bxv 1 6 (zG K)],?_⟩;rw[zj zJm.eq_1];simp (maxSteps:=1000000) [rvE,rvM,zf,zG,Pl.kl,zJ4,zJY,hil,hx,hw,g1,g1b,g2,hS,hG,hR,c1,cb,zg,zH]
    ·refine⟨kv,k,[bxv 1 6 (zG K)],?_⟩;rw[zj zJm.eq_1];simp (maxSteps:=1000000) [rvE,rvM,zf,zG,Pl.kl,zJ4,zJY,hil,hx,hw,g1,g1b,g2,hG,hR,c1,cb,zg,zH]
end Go.TrRun
namespace Go.TrRun.Pl
open Go Go.Eng Go.PlanLaw
theorem zRm{c:Car}(hc:c.ok)(l:List Int)(hl:l.length<=1000):∀(r:List Int) (i:Nat),l.drop i=r->i<=l.length ->
  (r.any (zLD c)=false->Y L Cs zJz (some [3,2,6]) 2 [(3,.w (Pt 1)),(2,.w (Pt 0)),(6,.w (W i))] [some (zKk c),some (zKp l)]=some (.exit 0,[(26,.w (Bo false)),(2,.w (Pt 0)),(3,.w (Pt 1)),(6,.w (W l.length))],[some (zKk c),some (zKp l)])) /\
  (r.any (zLD c)=true->Y L Cs zJz (some [3,2,6]) 2 [(3,.w (Pt 1)),(2,.w (Pt 0)),(6,.w (W i))] [some (zKk c),some (zKp l)]=some (.ret,[(4,.w (W 2))],[some (zKk c),some (zKp l)])):=by
 intro r;have hcc:=hc;obtain⟨q1,q2,q3,q4,q5,q6,q7,q8,q9,q10⟩:=hcc;have hwb:=kq (-c.qc);induction r with
 |nil =>
  intro i hd hi;obtain rfl:=z5 hd hi;refine⟨fun _=>zhJ ?_ (by simp),fun h=>by simp at h⟩;simp[zJz,zKp]
 |cons x r ih =>
  intro i hd hi;obtain⟨hil,hx,hd'⟩:=zL hd;obtain⟨ih1,ih2⟩:=ih (i+1) hd' hil;have hw:=zB (i:=i) (by omega);by_cases hb:zLD c x=true
  ·refine⟨fun h=>by simp[hb]at h,fun _=>zhJ ?_ (by simp)⟩;simp[zLD]at hb;by_cases h1:x < -c.qc
   ·simp[zJz,hil,hx,zKp,zKk,kl,hwb,h1]
   ·have h2:c.uJ<x:=by omega
    simp[zJz,hil,hx,zKp,zKk,kl,hwb,h1,h2]
  ·have hb':zLD c x=false:=by simpa using hb
   have h1:¬x < -c.qc:=by simp[zLD]at hb';omega
   have h2:¬c.uJ<x:=by simp[zLD]at hb';omega
   have uE:Y L Cs zJz (some [3,2,6]) 2 [(3,.w (Pt 1)),(2,.w (Pt 0)),(6,.w (W i))] [some (zKk c),some (zKp l)]=Y L Cs zJz (some [3,2,6]) 2 [(3,.w (Pt 1)),(2,.w (Pt 0)),(6,.w (W (i+1:Nat)))] [some (zKk c),some (zKp l)]:=by
    rw[zrL];simp[zJz,hil,hx,zKp,zKk,kl,hwb,h1,h2,hw]
   rw[uE];simp only[uL,hb',k7];exact⟨ih1,ih2⟩
theorem zRl{c:Car}(hc:c.ok)(l:List Int)(hl:l.length<=1000)(hr:∀x∈l,-1000<=x/\x<=1000):∀(r:List Int) (i:Nat) (a:Int),l.drop i=a::r->i<l.length ->
  (Go.PlanLaw.zIY c a r=false->Y L Cs zJy (some [3,2,7]) 2 [(3,.w (Pt 1)),(2,.w (Pt 0)),(7,.w (W (i+1:Nat)))] [some (zKk c),some (zKp l)]=some (.exit 2,[(61,.w (Bo false)),(2,.w (Pt 0)),(3,.w (Pt 1)),(7,.w (W l.length))],[some (zKk c),some (zKp l)])) /\
  (Go.PlanLaw.zIY c a r=true->Y L Cs zJy (some [3,2,7]) 2 [(3,.w (Pt 1)),(2,.w (Pt 0)),(7,.w (W (i+1:Nat)))] [some (zKk c),some (zKp l)]=some (.ret,[(4,.w (W 11))],[some (zKk c),some (zKp l)])):=by
 intro r;have hcc:=hc;obtain⟨q1,q2,q3,q4,q5,q6,q7,q8,q9,q10⟩:=hcc;induction r with
 |nil =>
  intro i a hd hi;obtain⟨hil,hx,hd'⟩:=zL hd;have hlen:=z5 hd' hil;rw[hlen];refine⟨fun _=>zhJ ?_ (by simp),fun h=>by simp[Go.PlanLaw.zIY]at h⟩;simp[zJy,zKp]
 |cons x r ih =>
  intro i a hd hi;obtain⟨hil,hx,hd'⟩:=zL hd;obtain⟨yQ,hx2,_⟩:=zL hd';obtain⟨ih1,ih2⟩:=ih (i+1) x hd' yQ;have hxr:=hr x (by rw[<-hx2];exact ji yQ);have har:=hr a (by rw[<-hx];exact ji hil);have hw:=zB (i:=i+1) (by omega);have hws:=kq (x-a);have hwn:=kq (-(x-a));have hwi:IntKind.i64.wrap (((i+1:Nat):Int)-1)=(i:Int):=by rw[zTd _ (by omega) (by omega)];omega
  have hlt:((i:Int)+1<l.length):=by omega
  have B8:IntKind.i64.wrap (i:Int)=(i:Int):=zTd _ (by omega) (by omega);have h0:(0:Int)<=(i:Int)+1:=by omega
  have ht:((i:Int)+1).toNat=i+1:=by omega
  have hw2:=kq ((i:Int)+1+1);by_cases hb:(decide (-c.uv<=x-a)&&decide (x-a<=c.uv))=true
  ·have hb2:=hb;simp only[jk,decide_eq_true_eq]at hb2;have h1:¬c.uv<x-a:=by omega
   have h2:¬c.uv < -(x-a):=by omega
   have uE:Y L Cs zJy (some [3,2,7]) 2 [(3,.w (Pt 1)),(2,.w (Pt 0)),(7,.w (W (i+1:Nat)))] [some (zKk c),some (zKp l)]=Y L Cs zJy (some [3,2,7]) 2 [(3,.w (Pt 1)),(2,.w (Pt 0)),(7,.w (W (i+1+1:Nat)))] [some (zKk c),some (zKp l)]:=by
    rw[zrL];simp[zJy,hil,yQ,hx,hx2,zKp,zKk,kl,hws,hwn,B8,h1,h2,hw2,hlt,h0,ht]
   rw[uE];simp only[Go.PlanLaw.zIY,hb,Bool.not_true,k7];exact⟨ih1,ih2⟩
  ·have hb':(decide (-c.uv<=x-a)&&decide (x-a<=c.uv))=false:=by simpa using hb
   refine⟨fun h=>(by simp only[Go.PlanLaw.zIY,hb',y4,Bool.true_or]at h;cases h),fun _=>zhJ ?_ (by simp)⟩;simp only[jk,decide_eq_true_eq]at hb;by_cases h1:c.uv<x-a
   ·simp[zJy,hil,yQ,hx,hx2,zKp,zKk,kl,hws,hwn,B8,h1,hw2,hlt,h0,ht]
   ·have h2:c.uv < -(x-a):=by omega
    simp[zJy,hil,yQ,hx,hx2,zKp,zKk,kl,hws,hwn,B8,h1,h2,hw2,hlt,h0,ht]
theorem yK(c:Car)(l:List Int)(hl:l.length<=1000):R L Cs zQ9 [.a (kl c),.a [.jb (zu l)]] []=some (.w (W (qI c l)),[]):=by
 have hck:=zRh c;simp only[kl]at hck;rw[z4 zRc rfl];by_cases hc:¬c.ok
 ·rw[Ar,if_neg hc]at hck;rw[qI,if_pos hc];simp[zJP,kl,hck]
 have hc:c.ok:=vt.1 hc;rw[Ar,if_pos hc]at hck;cases l with
 |nil=>simp[zJP,kl,hck,qI,hc]
 |cons x r =>
 have hne:((r.length:Int)+1==0)=false:=by simp;omega
 by_cases h200:200<r.length+1
 ·have yF:(200:Int)<(r.length:Int)+1:=by omega
  simp[zJP,kl,hck,qI,hc,hne,h200,yF]
 have yF:¬(200:Int)<(r.length:Int)+1:=by omega
 have qW:∀h,([I x]::zu r)[r.length]'h=[I ((x::r).getLastD 0)]:=by
  intro h;have e:[I x]::zu r=zu (x::r):=rfl;simp only[e,zBd];simp[yn,yp]
 simp only[uW]at qW;have hw:IntKind.i64.wrap (r.length:Int)=r.length:=zTd _ (by omega) (by omega);have hlt:(r.length:Int)<(r.length:Int)+1:=by omega
 have hF:qI c (x::r)=if 0<r.getLastD x then 2 else if(x::r).any (zLD c)=true then 2 else if Go.PlanLaw.zIY c x (x::r)=true then 11 else 0:=by
  unfold qI;rw[if_neg (by simp[hc]),if_neg (by simp),if_neg (by simpa using h200),uW,List.headD_cons]
 rw[hF];generalize r.getLastD x=z at qW;obtain⟨l1,l2⟩:=zRm hc (x::r) hl (x::r) 0 rfl (jt _);by_cases hb:(x::r).any (zLD c)=true
 ·have l2:=l2 hb;simp[zKk,kl,zKp]at l2;have h2:(if 0<z then(2:Int) else if(x::r).any (zLD c)=true then 2 else if Go.PlanLaw.zIY c x (x::r)=true then 11 else 0)=2:=by split<;>simp[hb]
  rw[h2];simp[zJP,kl,hck,hne,yF,l2]
 ·have hb:(x::r).any (zLD c)=false:=by simpa using hb
  have l1:=l1 hb;simp[zKk,kl,zKp]at l1;have hr:∀y∈(x::r),-1000<=y/\y<=1000:=by
   intro y hy;have h1:=yx.1 hb y hy;obtain⟨q1,q2,q3,q4,q5,q6,q7,q8,q9,q10⟩:=hc;simp[zLD]at h1;omega
  by_cases hz:0<z
  ·rw[if_pos hz];simp[zJP,kl,hck,hne,yF,l1,hw,hlt,qW,hz]
  ·rw[if_neg hz,if_neg (show ¬(x::r).any (zLD c)=true by rw[hb];simp)];obtain⟨k1,k2⟩:=zRl hc (x::r) hl hr r 0 x rfl (by simp);have hs:Go.PlanLaw.zIY c x (x::r)=Go.PlanLaw.zIY c x r:=by
    obtain⟨h1,h2,h3,h4,h5,h6,h7,h8,h9,h10⟩:=hc;have e1:decide (-c.uv<=x-x)=true:=decide_eq_true (by omega);have e2:decide (x-x<=c.uv)=true:=decide_eq_true (by omega);simp only[Go.PlanLaw.zIY,e1,e2,Bool.and_self,Bool.not_true,k7]
   rw[hs];cases hbs:Go.PlanLaw.zIY c x r with
   |false =>
    have k1:=k1 hbs;simp[zKk,kl,zKp]at k1;simp[zJP,kl,hck,hne,yF,l1,hw,hlt,qW,hz,k1]
   |true =>
    have k2:=k2 hbs;simp[zKk,kl,zKp]at k2;simp[zJP,kl,hck,hne,yF,l1,hw,hlt,qW,hz,k2]
end Go.TrRun.Pl
namespace Go.TrRun
open Go Go.Eng
abbrev zGv:=Go.PlanLaw.Car
abbrev kl(c:zGv):List Cl:=Pl.kl c
@[simp] theorem zHc(k:zci):(zG k).length=6:=rfl
theorem zG5(r:List Int)(k:zci)(jv:List Int):R L Cs zF8 [.c (.jb (zu r)),.a (zG k),.a [.jb (zu jv)]] []=some (.w (Bo (decide (r.length<=10)&&decide (k.jU.length<=12)&&decide (jv.length<=40))),[]):=by
 have e1:((r.length:Int)<=10)<->r.length<=10:=by omega
 have e2:((k.jU.length:Int)<=12)<->k.jU.length<=12:=by omega
 have e3:((jv.length:Int)<=40)<->jv.length<=40:=by omega
 rw[z4 zGc rfl];by_cases c1:r.length<=10<;>by_cases c2:k.jU.length<=12<;>by_cases c3:jv.length<=40<;>simp[zFS,zG,e1,e2,e3,c1,c2,c3]
abbrev zHe:Sh:=.st [zmN,zmN,zmN,zmN,zmN]
theorem zG9{cs:List Cl}(h:zfo zHe cs):∃c:zGv,cs=kl c:=by
 simp only[zfo,znD]at h;obtain⟨_,_,rfl,⟨a1,rfl,_⟩,_,_,rfl,⟨a2,rfl,_⟩,_,_,rfl,⟨a3,rfl,_⟩,_,_,rfl,⟨a4,rfl,_⟩,_,_,rfl,⟨a5,rfl,_⟩,rfl⟩:=h;exact⟨⟨a1,a2,a3,a4,a5⟩,rfl⟩
def zRB(m:zD)(zs:List Zon)(ss:List Sgn)(r:List Int)(c:zK8)(k:zci)(jv:List Int)(signals:Bool):Bool×Int×Int :=
 if zKW m r c k=true/\Go.PlanLaw.qI c jv=0 then zLH c.len (pvV m zs r) jv (zRj m zs ss r c.len signals jv 0 k) else(false,0,1)
theorem zRD(m:zD)(zs:List Zon)(r:List Int)(len:Int)(k:zci):zLQ len (pvV m zs r) k=(!(List.range zs.length).any (enP (zKh m zs 0 r) len k.ego.shi k.ego.slo)&&decide (k.ego.vhi=0)):=by
 unfold zLQ;rw[zRZ,Bool.and_comm]
theorem zRF{m:zD}{zs:List Zon}{ss:List Sgn}(hF:zKj m zs ss)(r:List Int)(hl:r.length<=1000)(c:zK8)(k:zci)(hk:k.jU.length<=100000000000)(hok:∀b∈k.jU,OKB b)(jv:List Int)(hin:∀a∈jv,zk0 a)(hal:jv.length<=1000)(signals:Bool) :
  R L Cs zQ1 [.a (zf m),.c (.jb (zu r)),.a (Pl.kl c),.a (zG k),.a [.jb (zu jv)],Bo signals] []=some (.w (.a (zJ4 (zRB m zs ss r c k jv signals))),[]):=by
 have hf:=hF.full;have h:=hf.qA;have h1:=zR6 h hF.fit.2;have h2:=zp0 m h.small h.Bk r hl;have h3:=Pl.yK c jv hal;have h4:=yK h k hk hok;unfold zRB zKW;by_cases hr:zdA m r=0
 ·obtain⟨hon,hne,hl8⟩:=zg1 h hr;rw[hr]at h2;obtain⟨x0,r',rfl⟩:∃x r',r=x::r':=by cases r with|nil=>exact absurd rfl hne|cons x r'=>exact⟨x,r',rfl⟩
  have hx0:=hon x0 (jo ..);obtain⟨n,rfl⟩:=jw hx0.1;have hn:n<m.jd.length:=by omega
  have hni:(n:Int)<m.jd.length:=hx0.2;have hkd:zaK m (((n:Int)::r').headD 0)=m.jd[n].kind:=by simp[zaK,hn]
  rw[hkd];by_cases c1:m.jd[n].kind=1
  ·by_cases c2:Go.PlanLaw.qI c jv=0
   ·obtain⟨hc,hne2,hal2⟩:=zM9 c2;have hcf:Pl.Ar c=0:=by rw[Pl.Ar,if_pos hc]
    rw[c2]at h3;by_cases c3:zdf m k=0
    ·rw[c3]at h4;rw[if_pos (by simp[hr,c1,hcf,c3,c2])];have hBg:=zvX h hl hon;have hP:=zRH hf hr (hF.srt _ hr) (hF.few _ hr);obtain⟨g1,g2⟩:=zRV hF hr c hc signals jv hin hal jv 0 0 k rfl (jt _) c3;have hE:=fun e he=>zR2 hf.zd.z (by have:=hF.two;omega) ((n:Int)::r') (zKh m zs 0 ((n:Int)::r')) (by have:=hF.few _ hr;omega) c (by have:=hc.1;have:=hc.2.1;omega) e he
     generalize hrl:zRj m zs ss ((n:Int)::r') c.len signals jv 0 k=y at *;obtain⟨o,k2⟩:=y;cases o with
     |none =>
      obtain⟨he2,kv,g⟩:=g1 rfl;have hE:=hE k2.ego he2;clear g1 g2;have e:zLH c.len (pvV m zs ((n:Int)::r')) jv (none,k2)=if zLQ c.len (pvV m zs ((n:Int)::r')) k2 then(true,0,0) else(false,(jv.length:Int),7):=rfl
      rw[e,zRD];generalize (!(List.range zs.length).any (enP (zKh m zs 0 ((n:Int)::r')) c.len k2.ego.shi k2.ego.slo)&&decide (k2.ego.vhi=0))=q at *;generalize zKh m zs 0 ((n:Int)::r')=ps at *;simp only[zf,zG,Pl.kl,zJ4,zJY,zQI,zch,rvE,rvM,zaP,jg]at h1 h2 h3 h4 hBg hP g hE;cases q<;>rw[z4 zQG rfl]<;>simp (maxSteps:=1000000) [zJJ,zf,zo,zG,Pl.kl,zJ4,zJY,zch,h1,h2,h3,h4,hn,hni,c1,hBg,hP,g,hE,zg,zH]
     |some aw =>
      obtain⟨at',why⟩:=aw;obtain⟨kv,k',T,g⟩:=g2 at' why rfl;clear g1 g2;have e:zLH c.len (pvV m zs ((n:Int)::r')) jv (some (at',why),k2)=(false,(at':Int),why):=rfl;rw[e];generalize zKh m zs 0 ((n:Int)::r')=ps at *;simp only[zf,zG,Pl.kl,zJ4,zJY,zQI,zch,rvE,rvM,zaP,jg,je,jc]at h1 h2 h3 h4 hBg hP g;rw[z4 zQG rfl];simp (maxSteps:=1000000) [zJJ,zf,zo,zG,Pl.kl,zJ4,zJY,h1,h2,h3,h4,hn,hni,c1,hBg,hP,g,zg,zH]
    ·have cb:(zdf m k !=0)=true:=by simp[c3]
     rw[if_neg (by simp[c3])];simp only[zf,zG,Pl.kl,zaP]at h1 h2 h3 h4;generalize zdf m k=e at *;rw[z4 zQG rfl];simp (maxSteps:=1000000) [zJJ,zf,zo,zG,Pl.kl,zJ4,zJY,h1,h2,h3,h4,hn,hni,c1,c3,cb,zg,zH]
   ·have cb:(Go.PlanLaw.qI c jv !=0)=true:=by simp[c2]
    rw[if_neg (fun q=>c2 q.2)];simp only[zf,zG,Pl.kl,zaP]at h1 h2 h3 h4;generalize Go.PlanLaw.qI c jv=e at *;rw[z4 zQG rfl];simp (maxSteps:=1000000) [zJJ,zf,zo,zG,Pl.kl,zJ4,zJY,h1,h2,h3,hn,hni,c1,c2,cb,zg,zH]
  ·have cb:(m.jd[n].kind !=1)=true:=by simp[c1]
   rw[if_neg (by simp[c1])];simp only[zf,zaP]at h1 h2;rw[z4 zQG rfl];simp (maxSteps:=1000000) [zJJ,zf,zo,zG,Pl.kl,zJ4,zJY,h1,h2,hn,hni,c1,cb,zg,zH]
 ·have hb:(zdA m r !=0)=true:=by simp[hr]
  rw[if_neg (by simp[hr])];simp only[zf]at h1 h2;generalize zdA m r=rv at *;rw[z4 zQG rfl];simp (maxSteps:=1000000) [zJJ,zf,zG,Pl.kl,zJ4,zJY,h1,h2,hr,hb,zg,zH]
theorem zRK(m:zD)(zs:List Zon)(ss:List Sgn)(r:List Int)(len:Int)(ps:List Pss)(vs:List Vis)(was now:zci)(sw:List Swp):zMi m zs ss r len ps vs was now sw≠7:=by
 unfold zMi onW zMt zMF zMG zMH;simp only[zKs]
 repeat' split
 all_goals first |omega |(intro q;omega)
theorem zRY{m:zD}{zs:List Zon}{ss:List Sgn}{r:List Int}(len:Int)(signals:Bool)(all:List Int):∀(t:List Int) (n:Nat) (k:zci),n+t.length=all.length ->
  zLH len (pvV m zs r) all (zRj m zs ss r len signals t n k)=zKX (zLH len (pvV m zs r) all (zKr m zs ss r len (zKh m zs 0 r) (pvV m zs r) signals t n k)) ((fbF m r t k.tick k.ego).map (· + n)):=by
 intro t;induction t with
 |nil=>intro n k hn;rfl
 |cons a t ih =>
  intro n k hn;have at_le:∀(t:List Int) (n:Nat) (k:zci),0<(zLH len (pvV m zs r) all (zKr m zs ss r len (zKh m zs 0 r) (pvV m zs r) signals t n k)).2.1->(zLH len (pvV m zs r) all (zKr m zs ss r len (zKh m zs 0 r) (pvV m zs r) signals t n k)).2.2≠7->(n:Int)<(zLH len (pvV m zs r) all (zKr m zs ss r len (zKh m zs 0 r) (pvV m zs r) signals t n k)).2.1:=by
   intro t;induction t with
   |nil =>
    intro n k h1 h2;rw[show zKr m zs ss r len (zKh m zs 0 r) (pvV m zs r) signals [] n k=(none,k) from rfl]at h1 h2;simp only[zLH]at h1 h2;by_cases hs:zLQ len (pvV m zs r) k=true
    ·rw[if_pos hs]at h1;exact absurd h1 (by decide)
    ·rw[if_neg hs]at h2;exact absurd rfl h2
   |cons b t ih2 =>
    intro n k h1 h2;unfold zKr at h1 h2 ⊢;split at h1
    ·rename_i hc;rw[if_pos hc]at h2;have:=ih2 (n+1) _ h1 h2;rw[if_pos hc];omega
    ·rename_i hc;rw[if_neg hc];simp only[zLH];omega
  by_cases hb:zIY m r k.tick k.ego a
  ·have e1:zRj m zs ss r len signals (a::t) n k=(some (0,1),k):=by rw[zRj,if_pos hb]
   have e2:fbF m r (a::t) k.tick k.ego=some 0:=by rw[fbF,if_pos hb]
   rw[e1,e2];have h:=at_le (a::t) n k;generalize zLH len (pvV m zs r) all (zKr m zs ss r len (zKh m zs 0 r) (pvV m zs r) signals (a::t) n k)=x at *;simp only[k8,j9,zKX];rw[if_neg]
   ·rfl
   ·rintro⟨q1,q2,q3⟩;have:=h q1 q3;omega
  ·rw[zRj,if_neg hb,zKr,fbF,if_neg hb];by_cases hw:zMi m zs ss r len (zKh m zs 0 r) (pvV m zs r) k (zEt m zs ss r len signals k a) (zKu m zs ss r len signals k a)=0
   ·have hon:=zNe hw;rw[if_pos hw,if_pos hw,if_neg (by show ¬zmd m 0 r<(zEt m zs ss r len signals k a).ego.shi;omega),ih (n+1) _ (by simp only[jl]at hn;omega),Option.map_map];have e:(fun x=>x+(n+1))=((fun x=>x+n)∘fun x=>x+1:Nat->Nat):=by funext x;simp only[Function.comp];omega
    rw[e];rfl
   ·rw[if_neg hw,if_neg hw];have h7:=zRK m zs ss r len (zKh m zs 0 r) (pvV m zs r) k (zEt m zs ss r len signals k a) (zKu m zs ss r len signals k a);simp only[zLH];by_cases Bg:zmd m 0 r<(zaN m r k.ego a).shi
    ·rw[if_pos Bg];rfl
    ·rw[if_neg Bg];cases fbF m r t (k.tick+1) (zaN m r k.ego a)with
     |none=>rfl
     |some b =>
      simp only[k8,zKX];rw[if_pos ⟨by omega,by omega,h7⟩]
theorem zR4(m:zD)(zs:List Zon)(ss:List Sgn)(r:List Int)(c:zK8)(k:zci)(jv:List Int)(signals:Bool):zRB m zs ss r c k jv signals=zOk m zs ss r c k jv signals:=by
 unfold zRB zOk zNw;rw[zRY c.len signals jv jv 0 k (by omega)];have:(fun x:Nat=>x+0)=id:=by funext x;rfl
 rw[this,Option.map_id];rfl
theorem zRo(n:Int)(r:List Int)(c:zGv)(k:zci)(hok:∀b∈k.jU,OKB b)(jv:List Int)(hin:∀a∈jv,zk0 a)(signals:Bool) :
  R L Cs zJb [W n,.c (.jb (zu r)),.a (kl c),.a (zG k),.a [.jb (zu jv)],Bo signals] []=some (.w (Bo true),[]):=by
 have haw:=Pl.CM;have hsh:=zG5 r k jv;obtain⟨m,zs,ss,hF,hM⟩:=zN6 n;rw[z4 zQJ rfl];by_cases c1:r.length<=10/\k.jU.length<=12/\jv.length<=40
 ·obtain⟨c1,c2,c3⟩:=c1;have e:(decide (r.length<=10)&&decide (k.jU.length<=12)&&decide (jv.length<=40))=true:=by simp[c1,c2,c3]
  rw[e]at hsh;have h2:=zOJ hF r (by omega) c k (by omega) jv hin (by omega) signals;have h3:=zRF hF r (by omega) c k (by omega) hok jv hin (by omega) signals;rw[zR4]at h3;generalize zOk m zs ss r c k jv signals=o at *;obtain⟨o1,o2,o3⟩:=o;simp only[zf,zG,kl,Pl.kl,zJ4,zJY]at hM hsh h2 h3;simp (maxSteps:=1000000) [zJh,zG,kl,Pl.kl,hsh,haw,hM,h2,h3,zg]
 ·have e:(decide (r.length<=10)&&decide (k.jU.length<=12)&&decide (jv.length<=40))=false:=by
   by_cases a1:r.length<=10
   ·by_cases a2:k.jU.length<=12
    ·by_cases a3:jv.length<=40
     ·exact absurd ⟨a1,a2,a3⟩ c1
     ·simp only[decide_eq_false a3,Bool.and_false]
    ·simp only[decide_eq_false a2,Bool.and_false,y5]
   ·simp only[decide_eq_false a1,y5]
  rw[e]at hsh;simp only[zG]at hsh;simp (maxSteps:=1000000) [zJh,zG,kl,Pl.kl,hsh,haw,zg]
theorem zRp:∀xs,zot [zmN,.slice zmN,zHe,zCg,.st [.slice zmN],.bool] xs->∃M',R L Cs zJb xs []=some (.w (.c (.bool true)),M'):=by
 intro xs h;simp only[zot]at h;obtain⟨c1,_,rfl,h1,c2,_,rfl,h2,c3,_,rfl,h3,c4,_,rfl,h4,c5,_,rfl,h5,c6,_,rfl,h6,rfl⟩:=h;obtain⟨c,rfl⟩:=zG9 h3;simp only[zfo,znD]at h1 h2 h5 h6;obtain⟨n,rfl,_⟩:=h1;obtain⟨rows,rfl,_,yT⟩:=h2;obtain⟨l,rfl,_⟩:=zxB (rows:=rows) (fun r hr=>by simp only[zfo];exact yT r hr);obtain⟨k,rfl,hk⟩:=zBG h4;obtain⟨_,_,rfl,⟨uD,rfl,_,yy⟩,rfl⟩:=h5;obtain⟨jv,rfl,hacts⟩:=zxB (rows:=uD) (fun r hr=>by simp only[zfo];exact yy r hr);obtain⟨b,rfl⟩:=h6;exact⟨[],zRo n l c k (fun b hb=>(hk.jU b hb).ok) jv hacts b⟩
theorem zq2(a:Int):R L [] zlc [W a] []=some (.w (Bo false),[]):=by
 rw[z4 zle rfl];simp[zfU]
theorem zn3(a:Int):R L [] zi5 [W a] []=some (.w (Bo false),[]):=by
 rw[z4 zi9 rfl];simp[ze6]
theorem zuB(a b:Int):R L [] zi6 [W a,W b] []=some (.w (W (zgQ a b)),[]):=by
 have h1:=zq2 a;have h2:=zq2 b;rw[z4 zja rfl];unfold zgQ;by_cases h:a<b
 ·simp[zb3,h1,h2,h]
 ·by_cases h':b<a
  ·simp[zb3,h1,h2,h,h']
  ·simp[zb3,h1,h2,h,h']
theorem zmv(a b:Int):R L [] zhQ [W a,W b] []=some (.w (W (zgQ a b)),[]):=by
 have h1:=zn3 a;have h2:=zn3 b;rw[z4 zhS rfl];unfold zgQ;by_cases h:a<b
 ·simp[zbq,h1,h2,h]
 ·by_cases h':b<a
  ·simp[zbq,h1,h2,h,h']
  ·simp[zbq,h1,h2,h,h']
theorem zxz(b:Bool):R L [] zhB [Bo b] []=some (.w (W (if b then 1 else 0)),[]):=by
 rw[z4 zp4 rfl];cases b<;>simp[zhF]
def orI(a b c d:Int):Int:=if a=0 then(if b=0 then(if c=0 then d else c) else b) else a
abbrev orE(a b c d:Int)(i:Int):Env:=[(7,.w (W 4)),(6,.w (.c (.jb [[I a],[I b],[I c],[I d]]))),(3,.w (W 0)),(8,.w (W i))]
theorem or0(a b c d:Int):R L [] zob [.c (.jb [[I a],[I b],[I c],[I d]])] []=some (.w (W (orI a b c d)),[]):=by
 have w1:IntKind.i64.wrap 1=1:=rfl;have w2:IntKind.i64.wrap 2=2:=rfl;have w3:IntKind.i64.wrap 3=3:=rfl;have w4:IntKind.i64.wrap 4=4:=rfl;have h4:Y L [] zab (some [7,6,3,8]) 0 (orE a b c d 4) []=some (.exit 0,[(9,.w (Bo false)),(3,.w (W 0)),(6,.w (.c (.jb [[I a],[I b],[I c],[I d]]))),(7,.w (W 4)),(8,.w (W 4))],[]):=by
  rw[zj zab.eq_1];simp
 have h3:Y L [] zab (some [7,6,3,8]) 0 (orE a b c d 3) []=if d=0 then Y L [] zab (some [7,6,3,8]) 0 (orE a b c d 4) [] else some (.ret,[(2,.w (W d))],[]):=by
  rw[zj zab.eq_1];by_cases h:d=0
  ·simp[h,w4]
  ·have h':(d !=0)=true:=by simp[h]
   simp[h,h']
 have h2:Y L [] zab (some [7,6,3,8]) 0 (orE a b c d 2) []=if c=0 then Y L [] zab (some [7,6,3,8]) 0 (orE a b c d 3) [] else some (.ret,[(2,.w (W c))],[]):=by
  rw[zj zab.eq_1];by_cases h:c=0
  ·simp[h,w3]
  ·have h':(c !=0)=true:=by simp[h]
   simp[h,h']
 have h1:Y L [] zab (some [7,6,3,8]) 0 (orE a b c d 1) []=if b=0 then Y L [] zab (some [7,6,3,8]) 0 (orE a b c d 2) [] else some (.ret,[(2,.w (W b))],[]):=by
  rw[zj zab.eq_1];by_cases h:b=0
  ·simp[h,w2]
  ·have h':(b !=0)=true:=by simp[h]
   simp[h,h']
 have h0:Y L [] zab (some [7,6,3,8]) 0 (orE a b c d 0) []=if a=0 then Y L [] zab (some [7,6,3,8]) 0 (orE a b c d 1) [] else some (.ret,[(2,.w (W a))],[]):=by
  rw[zj zab.eq_1];by_cases h:a=0
  ·simp[h,w1]
  ·have h':(a !=0)=true:=by simp[h]
   simp[h,h']
 rw[h4]at h3;rw[h3]at h2;rw[h2]at h1;rw[h1]at h0;rw[z4 zow rfl];unfold orI;by_cases c1:a=0<;>by_cases c2:b=0<;>by_cases c3:c=0<;>by_cases c4:d=0<;>simp only[c1,c2,c3,c4,if_true,if_false]at h0 ⊢<;>simp[zfw,h0]
def zoG(b:Bool):Int:=if b then 1 else 0
def zu6(a b:Swp):Int:=orI (zgQ a.lane b.lane) (zgQ a.lo b.lo) (zgQ a.hi b.hi) (zoG a.cap-zoG b.cap)
theorem less0(a b:Swp):R L [] zar [.a (swC a),.a (swC b)] []=some (.w (W (zu6 a b)),[]):=by
 have h1:=zuB a.lane b.lane;have h2:=zmv a.lo b.lo;have h3:=zmv a.hi b.hi;have h4:R L [] zhB [Bo a.cap] []=some (.w (W (zoG a.cap)),[]):=zxz a.cap;have h5:R L [] zhB [Bo b.cap] []=some (.w (W (zoG b.cap)),[]):=zxz b.cap;have h6:=or0 (zgQ a.lane b.lane) (zgQ a.lo b.lo) (zgQ a.hi b.hi) (zoG a.cap-zoG b.cap);have w:IntKind.i64.wrap (zoG a.cap-zoG b.cap)=zoG a.cap-zoG b.cap:=by
  cases a.cap<;>cases b.cap<;>rfl
 unfold zu6;generalize zgQ a.lane b.lane=x1 at *;generalize zgQ a.lo b.lo=x2 at *;generalize zgQ a.hi b.hi=x3 at *;generalize zoG a.cap=o1 at *;generalize zoG b.cap=o2 at *;rw[z4 zsv rfl];simp[zjq,swC,h1,h2,h3,h4,h5,h6,w,zg,zX]
theorem zz5(a b:Swp):(zu6 a b<0)<->ltS a b=true:=by
 rw[zz2];unfold zu6 orI zgQ zoG;by_cases h1:a.lane<b.lane
 ·simp[h1]
 ·by_cases h2:b.lane<a.lane
  ·have:¬a.lane=b.lane:=by omega
   simp[h1,h2,this]
  ·have e1:a.lane=b.lane:=by omega
   by_cases h3:a.lo<b.lo
   ·simp[e1,h3]
   ·by_cases h4:b.lo<a.lo
    ·have:¬a.lo=b.lo:=by omega
     simp[e1,h3,h4,this]
    ·have e2:a.lo=b.lo:=by omega
     by_cases h5:a.hi<b.hi
     ·simp[e1,e2,h5]
     ·by_cases h6:b.hi<a.hi
      ·have:¬a.hi=b.hi:=by omega
       simp[e1,e2,h5,h6,this]
      ·have e3:a.hi=b.hi:=by omega
       cases a.cap<;>cases b.cap<;>simp[e1,e2,e3]
end Go.TrRun
namespace Go.Eng
open Go
theorem zsf [zb0]{P:Program}{cf:za4}(hcf:FnS P cf){f:FuncId}(hf:f<zb0.base){args:List WV}{vs:Array Value}{w:World}{σ:zP}{j:Inj}{M':Mem}{c:Int}(h:cf f args []=some (.w (.c (.int .i64 c)),M'))
  (hag:zM σ w) (hvs:zac σ j args vs.toList) (hm:MR (fun b=>w.heap.size<=b) σ j [] w) :
  Calls P f vs w fun e w'=>e=.returned (.int .i64 c)/\∃q os',w'=Go.Sort.grow (w.drewN q) os':=by
 obtain⟨_,_,_,_,hc⟩:=(hcf f args [] _ _ h (fun id hid=>by simp at hid)).1 hf;refine Calls.vX (hc (fun b=>w.heap.size<=b) σ j w vs (fun _ h=>h) hag hm hvs) ?_;rintro e w' ⟨v,σ',j',rfl,hr,_,_,hst⟩;have hr:VC σ' j' (.int .i64 c) v:=hr;cases hr;refine⟨rfl,w'.drawn-w.drawn,w'.heap.extract w.heap.size w'.heap.size,?_⟩;have h1:=hst.side.os;have h2:=hst.side.output;have h3:=hst.side.tape;have h4:=hst.side.drawn;have h5:=hst.frame;have h6:=hst.size;cases w' with |mk heap tape drawn os output =>
 simp only at h1 h2 h3 h4 h5 h6;subst h1;subst h2;subst h3;unfold Go.Sort.grow World.drewN;simp only[World.mk.injEq,and_true,true_and];refine⟨?_,by omega⟩;apply Array.ext_getElem?;intro i;by_cases hi:i<w.heap.size
 ·rw[ki hi];exact h5 i hi (by omega)
 ·rw[v7 (by omega),kV];by_cases hi2:i<heap.size
  ·rw[if_pos (by omega)]
   congr 1;omega
  ·rw[if_neg (by omega)];exact kL (by omega)
end Go.Eng
namespace Go.TrRun
open Go Go.Eng
theorem zxp(σ:zP)(j:Inj)(x:List Int):WVR σ j (.a (swC (zik x))) (.agg (ziq 4 7 x).toArray):=by
 refine⟨_,rfl,?_⟩;have e:(ziq 4 7 x).toArray.toList=[.int .i64 (x.getD 0 0),.int .i64 (x.getD 1 0),.int .i64 (x.getD 2 0),.bool (x.getD 3 0 !=0)]:=rfl;rw[e];refine⟨rfl,fun n c v hc hv=>?_⟩
 match n with
 |0=>cases hc;cases hv;exact .int _ _ _
 |1=>cases hc;cases hv;exact .int _ _ _
 |2=>cases hc;cases hv;exact .int _ _ _
 |3=>cases hc;cases hv;exact .bool _ _
 |n+4=>cases hc
def zAw(x y:List Int):Int:=zu6 (zik x) (zik y)
theorem zBC:(fun x y=>decide (zAw x y<0))=ltZ 4 7:=by
 funext x y;have h:=zz5 (zik x) (zik y);have e:ltS (zik x) (zik y)=ltZ 4 7 x y:=by
  have k1:∀z:List Int,zji (zik z)=zsY 4 7 z:=fun z=>by
   simp[zji,zik,zsY,List.range,List.range.loop,zgk]
  simp only[ltS,ltZ,k1,if_true]
 rw[e]at h;unfold zAw;cases hz:ltZ 4 7 x y with
 |true=>exact decide_eq_true (h.2 hz)
 |false =>
  refine decide_eq_false fun h'=>?_
  rw[h.1 h']at hz;cases hz
theorem zwK{P:Program}(uz:P.follows .mixedOrders=true)(hL:(L.map fun p=>zcF P an true p.1)=L.map fun p=>some p.2)(hV:zql P L=true)(hf:zar<P.funcs.size)(x y:List Int)(W:World) :
  Calls P zar #[.agg (ziq 4 7 x).toArray,.agg (ziq 4 7 y).toArray] W fun e w'=>e=.returned (.int .i64 (zAw x y))/\∃q os',w'=Go.Sort.grow (W.drewN q) os':=by
 letI:=zww P fun f=>L.lookup f
 obtain⟨n,hn⟩:=zah.1 (less0 (zik x) (zik y));exact zsf (zsT uz hL hV (Cs:=[]) rfl (fun c hc=>by cases hc) n) (f:=zar) hf hn (zml (W:=W) fun g row hr=>by cases hr) (.cons (zxp _ _ x) (.cons (zxp _ _ y) .nil)) MR.nil
end Go.TrRun
