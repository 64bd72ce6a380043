/- This text proves what functions of this seat's program answer, run by the evaluator; no condition. -/
import Derived.Test.YtdndkdliiojpiaaGreatOTx2
import Derived.KernelRfl
set_option linter.defProp false
set_option maxHeartbeats 8000000
set_option linter.unusedVariables false
set_option linter.unusedSimpArgs false
set_option linter.unusedSectionVars false
set_option maxRecDepth 10000
namespace Go.TrRun
open Go Go.Eng
structure zZP where
 qd:Int
 seen:List Spn
 pts:List Pnt
def zX6(x:zZP):List Cl:=[I x.qd,.jb (zWx x.seen),.jb (zWs x.pts)]
abbrev zK:List Cl:=[I 0,.jc,I 0,I 0,I 0,I 0]
abbrev upM(m:zD)(v:Nat)(k:zci)(l:List zk)(x:zZP):Mem:=[bx 5 (zf m),bxv v 6 (zG ⟨k.tick,l,k.ego⟩),bx 3 (zX6 x),bx 6 zK]
abbrev upE(free seen:List Spn)(fs:List Fnd)(i:Nat):Env:=[(43,.w (W i)),(42,.w (W free.length)),(7,.w (.c (.jb (zWw fs)))),(8,.w (.c (.jb (zWx seen)))),(6,.w (Pt 3)),(41,.w (.c (.jb (zWx free)))),(4,.w (Pt 1))]
def z0E{m:zD}(h:zcp m)(hs:zmX m)(k:zci)(x:zZP)(free seen:List Spn)(hf:VS m free)(fs:List Fnd):∀(r:List Spn) (i v:Nat) (l:List zk),free.drop i=r->i<=free.length->(∀b∈l,VB m b)->l.Pairwise Apt ->
  ∃v',Y L Cs zWY (some [43,42,7,8,6,41,4]) 4 (upE free seen fs i) (upM m v k l x)=some (.exit 0,(44,.w (Bo false))::upE free seen fs free.length,upM m v' k (Ax r l) x):=by
 have hfl:=z0W h hs hf;intro r;induction r with
 |nil =>
  intro i v l hd hi hv ha;obtain rfl:=zUb hd hi;rw[ZfM zWY.eq_1];simp[Ax]
 |cons s r ih =>
  intro i v l hd hi hv ha;obtain⟨hil,hx,hd'⟩:=zL hd;have hw:=zB (i:=i) wA;obtain⟨v',h'⟩:=ih (i+1) (v+1) (zhn s.lane s.lo s.hi l) hd' hil (zxH l hv) (zEN _ _ _ l ha);refine⟨v',?_⟩;rw[Ax,<-h'];have hm:Mid s.lo/\Mid s.hi:=by
   have:=hf.1 (zWu s) (qI (by rw[<-hx];exact jf hil));have hl:=zcX h this.lane;have h1:=this.lo;have h2:=this.le;have h3:=this.hi;simp only[zWu]at h1 h2 h3 hl;exact⟨⟨wA,wA⟩,⟨wA,wA⟩⟩
  have hc:=zDp s.lane s.lo s.hi hm.1 hm.2 l (by have:=zYo h hs hv ha;omega);rw[ZfM zWY.eq_1];simp[upE,upM,zf,zX6,hil,hx,hw,zWX,zG,hc,zg,zH]
abbrev z0p(bl:List zk)(seen:List Spn)(fs:List Fnd)(i:Nat)(out:List zk):Env:=[(11,.w (.c (sl 4 6 (zI out)))),(56,.w (W i)),(55,.w (W bl.length)),(6,.w (Pt 3)),(4,.w (Pt 1)),(54,.w (.c (.jb (zI bl)))),(8,.w (.c (.jb (zWx seen)))),(7,.w (.c (.jb (zWw fs))))]
def z0D{m:zD}(k:zci)(v:Nat)(l:List zk)(x:zZP)(seen:List Spn)(hs:seen.length<=100000000000)(fs:List Fnd)(hfs:fs.length<=50000)(bl:List zk)(hb:∀b∈bl,b.vlo<=b.vhi)(hbl:bl.length<=200000000):∀(r:List zk) (i:Nat) (out:List zk),bl.drop i=r->i<=bl.length->out.length<=i ->
  Y L Cs zWI (some [11,56,55,6,4,54,8,7]) 5 (z0p bl seen fs i out) (upM m v k l x++[some (own 6 (zI out))]) =
    some (.exit 2,[(57,.w (Bo false)),(11,.w (.c (sl 4 6 (zI (out++r.flatMap (zX4 seen fs)))))),(56,.w (W bl.length)),(55,.w (W bl.length)),(6,.w (Pt 3)),(4,.w (Pt 1)),(54,.w (.c (.jb (zI bl)))),(8,.w (.c (.jb (zWx seen)))),(7,.w (.c (.jb (zWw fs))))],upM m v k l x++[some (own 6 (zI (out++r.flatMap (zX4 seen fs))))]):=by
 intro r;induction r with
 |nil =>
  intro i out hd hi ho;obtain rfl:=zUb hd hi;rw[ZfM zWI.eq_1];simp[z0p,upM,zf,zG,zX6]
 |cons b r ih =>
  intro i out hd hi ho;obtain⟨hil,hx,hd'⟩:=zL hd;have hw:=zB (i:=i) wA;have hC:=zZT seen hs 1 b;have hN:=z00 b (by rw[<-hx];exact hb _ (jf hil)) fs hfs;have kA:(out.length+1)*48<=140737488355328:=wA
  have htk:List.take i out=List.take i out:=rfl;have eU:zX4 seen fs b=if zXy seen b=true then(if(nrB b (fs.filter (zXe b))).vlo<=(nrB b (fs.filter (zXe b))).vhi then [nrB b (fs.filter (zXe b))] else []) else [b]:=rfl
  rw[kG,eU];clear eU;by_cases c:zXy seen b=true
  ·rw[if_pos c];rw[c]at hC;generalize nrB b (fs.filter (zXe b))=q at *;by_cases d:q.vlo<=q.vhi
   ·rw[if_pos d,show out++([q]++List.flatMap (zX4 seen fs) r)=(out++[q])++List.flatMap (zX4 seen fs) r by simp,<-ih (i+1) (out++[q]) hd' hil (by simp;omega)];clear ih;simp only[ze,d,decide_true]at hC hN;rw[ZfM zWI.eq_1];simp (maxSteps:=1000000) [z0p,upM,zf,zG,zX6,hil,hx,hw,ze,hC,hN,kA,zg,zH]
   ·rw[if_neg d,je,<-ih (i+1) out hd' hil wA];clear ih;simp only[ze,d,decide_false]at hC hN;rw[ZfM zWI.eq_1];simp (maxSteps:=1000000) [z0p,upM,zf,zG,zX6,hil,hx,hw,ze,hC,hN,kA,zg,zH]
  ·have c':zXy seen b=false:=by simpa using c
   rw[if_neg c,show out++([b]++List.flatMap (zX4 seen fs) r)=(out++[b])++List.flatMap (zX4 seen fs) r by simp,<-ih (i+1) (out++[b]) hd' hil (by simp;omega)];clear ih;rw[c']at hC;simp only[ze]at hC;rw[ZfM zWI.eq_1];simp (maxSteps:=1000000) [z0p,upM,zf,zG,zX6,hil,hx,hw,ze,hC,kA,zg,zH]
def zYP{m:zD}(h:zcp m)(hs:zmX m)(seen:List Spn)(pts:List Pnt){l:List zk}(hv:∀b∈l,VB m b)(ha:l.Pairwise Apt):(zXm m seen pts l).length<=200000000:=by
 grind [zZj,seen,zYo]
end Go.TrRun
/- Plain laws of cars, ramps, stops and profiles: no program in sight. -/
namespace Go.PlanLaw
structure Car where
 len:Int
 qN:Int
 qk:Int
 vX:Int
 uj:Int
def Car.ok(c:Car):Prop:=300<=c.len/\c.len<=20000/\1<=c.qN/\c.qN<=30/\20<=c.qk/\c.qk<=90/\5<=c.vX/\c.vX<=120/\0<=c.uj/\c.uj<=5
instance(c:Car):Decidable c.ok:=by unfold Car.ok;infer_instance
def zVH(c:Car)(x:Int):Int:=max (-c.qk) (min x c.qN)
def zFX(c:Car)(last w:Int):Int:=max (zVH c last-c.vX) (min (zVH c w) (zVH c last+c.vX))
def doV(v x:Int):Int:=min (max (v+max (-2000) (min x 2000)) 0) 2000
def zG1(v x:Int):0<=doV v x/\doV v x<=2000:=by grind [doV]
def zG2{c:Car}(h:c.ok)(x:Int):-c.qk<=zVH c x/\zVH c x<=c.qN:=by
 obtain⟨h1,h2,h3,h4,h5,h6,h7,h8,h9,h10⟩:=h
 grind [zVH]
theorem zG3{c:Car}(h:c.ok){x:Int}(h1:-c.qk<=x)(h2:x<=c.qN):zVH c x=x:=by grind [zVH]
def zGI(c:Car):Nat->Bool->Int->Int->Option (List Int)
 |0,_,_,_=>none
 |m+1,f,last,v=>if f=true\/0<v\/0<last then(zGI c m false (zFX c last (-c.qk)) (doV v (zFX c last (-c.qk)))).map (zFX c last (-c.qk) :: ·) else some []
def zF7(c:Car)(m:Nat)(f:Bool)(last v:Int):zGI c (m+1) f last v=if(f=true\/0<v\/0<last) then(zGI c m false (zFX c last (-c.qk)) (doV v (zFX c last (-c.qk)))).map (zFX c last (-c.qk) :: ·) else some []:=rfl
def zG8(v x:Int)(hv:0<=v/\v<=2000)(hx:-100<=x/\x<=100):doV v x=max 0 (min 2000 (v+x)):=by grind [doV]
theorem zGx{c:Car}(h:c.ok)(last:Int):zFX c last (-c.qk)=max (zVH c last-c.vX) (-c.qk):=by
 grind [zFX,zVH]
def zGM{c:Car}{last:Int}(h:c.ok)(h1:-c.qk<=last)(h2:last<=c.qN):zFX c last (-c.qk)=max (last-c.vX) (-c.qk):=by
 grind [zGx,zG3]
def ends2{c:Car}(h:c.ok):∀(m:Nat) (last v:Int),-c.qk<=last->last<=-20->0<=v->v<=2000->v<=20*m->∃l,zGI c (m+1) false last v=some l/\l.length<=m
 |0,last,v,h1,h2,h3,h4,h5=>⟨[],by
   rw[zF7,if_neg (by grind)],wD⟩
 |m+1,last,v,h1,h2,h3,h4,h5=>by
  have hcar:=h;obtain⟨q1,q2,q3,q4,q5,q6,q7,q8,q9,q10⟩:=hcar;rw[zF7];split
  ·have hr:=zGM h h1 (by omega:last<=c.qN);have hd:=zG8 v (zFX c last (-c.qk)) ⟨h3,h4⟩ wA;obtain⟨l,hl,hn⟩:=ends2 h m (zFX c last (-c.qk)) (doV v (zFX c last (-c.qk))) wA wA wA wA wA
   grind
  grind
def ends1{c:Car}(h:c.ok):∀(t:Nat) (last v:Int),-c.qk<=last->last<=c.qN->last<=5*t-20->0<=v->v<=2000->∃l,zGI c (101+t) false last v=some l/\l.length<=100+t
 |0,last,v,h1,h2,h3,h4,h5=>ends2 h 100 last v h1 wA h4 h5 wA
 |t+1,last,v,h1,h2,h3,h4,h5=>by
  have hcar:=h;obtain⟨q1,q2,q3,q4,q5,q6,q7,q8,q9,q10⟩:=hcar;rw[show 101+(t+1)=(101+t)+1 by omega,zF7];split
  ·have hr:=zGM h h1 h2;have hd:=zG1 v (zFX c last (-c.qk));obtain⟨l,hl,hn⟩:=ends1 h t (zFX c last (-c.qk)) (doV v (zFX c last (-c.qk))) wA wA wA hd.1 hd.2
   grind
  grind
def ends{c:Car}(h:c.ok)(last v:Int)(h4:0<=v)(h5:v<=2000):∃l,zGI c 111 true last v=some l/\0<l.length/\l.length<=110:=by
 have hcar:=h;obtain⟨q1,q2,q3,q4,q5,q6,q7,q8,q9,q10⟩:=hcar;have hr:=zGx h last;have hcl:=zG2 h last;have hd:=zG1 v (zFX c last (-c.qk));obtain⟨l,hl,hn⟩:=ends1 h 9 (zFX c last (-c.qk)) (doV v (zFX c last (-c.qk))) wA wA wA hd.1 hd.2;refine⟨_::l,by rw[show 111=(101+9)+1 from rfl,zF7,if_pos (.inl rfl),hl];rfl,wD,by grind⟩
def stops(c:Car)(last v:Int):List Int:=(zGI c 111 true last v).getD []
def zMs{c:Car}(h:c.ok)(last v:Int)(h4:0<=v)(h5:v<=2000):zGI c 111 true last v=some (stops c last v)/\0<(stops c last v).length/\(stops c last v).length<=110:=by
 obtain⟨l,h1,h2,h3⟩:=ends h last v h4 h5
 simp_all [stops,uf,trivial]
def chain(c:Car):Int->List Int->Prop
 |_,[]=>True
 |a,x::xs=>(-c.qk<=x/\x<=c.qN)/\(-c.vX<=x-a/\x-a<=c.vX)/\chain c x xs
def zG0:Int->List Int->Int
 |a,[]=>a
 |_,x::xs=>zG0 x xs
def zHd:Int->List Int->Int
 |v,[]=>v
 |v,x::xs=>zHd (doV v x) xs
structure Drv where
 last:Int
 v:Int
 l:List Int
def Drv.vE(s:Drv)(a:Int):Drv:=⟨a,doV s.v a,s.l++[a]⟩
def Drv.uI(c:Car)(w:Int):Nat->Drv->Drv
 |0,s=>s
 |n+1,s=>Drv.uI c w n (s.vE (zFX c s.last w))
def Drv.queue:List Int->Drv->Drv
 |[],s=>s
 |x::xs,s=>Drv.queue xs (s.vE x)
def zJ2(c:Car)(q:List Int)(last v:Int)(up hold:Nat):List Int :=
 let s:=(((Drv.mk last v []).queue (q.take 5)) |>.uI c c.qN up) |>.uI c 0 hold
 s.l++stops c s.last s.v
def Drv.Ab{c:Car}{w:Int}:∀{n:Nat} {s:Drv},(Drv.uI c w n s).l.length=s.l.length+n
 |0,s=>rfl
 |n+1,s=>by rw[Drv.uI,Drv.Ab];grind [Drv.vE]
def Drv.Ba:∀{q:List Int} {s:Drv},(Drv.queue q s).l.length=s.l.length+q.length
 |[],s=>rfl
 |x::q,s=>by rw[Drv.queue,Drv.Ba];grind [Drv.vE]
def zLD(c:Car)(x:Int):Bool:=!(decide (-c.qk<=x)&&decide (x<=c.qN))
def zIY(c:Car):Int->List Int->Bool
 |_,[]=>false
 |l,x::xs=>!(decide (-c.vX<=x-l)&&decide (x-l<=c.vX))||zIY c x xs
def uK(c:Car)(l:List Int):Int :=
 if ¬c.ok then 2 else if l.length=0 then 6 else if 200<l.length then 5
 else if 0<l.getLastD 0 then 2 else if l.any (zLD c) then 2 else if zIY c (l.headD 0) l then 11 else 0
end Go.PlanLaw
namespace Go.TrRun.Pl
open Go Go.Eng Go.PlanLaw
def kS(c:Car):List Cl:=[I c.len,I c.qN,I c.qk,I c.vX,I c.uj]
def zF6(x a b:Int):R L Cs zGF [W x,W a,W b] []=some (.w (Bo (decide (a<=x)&&decide (x<=b))),[]):=by
 rw[zUa zGH rfl];by_cases h:a<=x<;>simp[zF3,h]
def Ap{c:Car}(h:c.ok):R L Cs zGe [.a (kS c)] []=some (.w (W 0),[]):=by
 obtain⟨h1,h2,h3,h4,h5,h6,h7,h8,h9,h10⟩:=h;rw[zUa zGf rfl];simp[zFN,kS,zF6,h1,h2,h3,h4,h5,h6,h7,h8,h9,h10]
def dB(c:Car)(last v:Int)(jR:Cl)(ver:Nat):Blk:={ box:=true,esz:=8,rows:=[kS c++[I last,I v,jR]],gen:=0,fz:=false,ver }
def zI0(k:Nat):List Int->Cl
 |[]=>.jc
 |x::l=>sl (k+1) 1 (zu (x::l))
def zI1:List Int->Mem
 |[]=>[]
 |x::l=>[some (own 1 (zu (x::l)))]
def kM(k:Nat)(c:Car)(s:Drv):Mem:=some (dB c s.last s.v (zI0 k s.l) (3*s.l.length))::zI1 s.l
abbrev st(c:Car)(s:Drv):Mem:=kM 0 c s
abbrev P0:WV:=.c (.ptr 0 0 0 0)
def zP6{c:Car}(h:c.ok)(last v x:Int)(jR:Cl)(ver:Nat)(M:Mem):R L Cs zLJ [P0,W x] (some (dB c last v jR ver)::M)=some (.w (W (zVH c x)),some (dB c last v jR ver)::M):=by
 obtain⟨h1,h2,h3,h4,h5,h6,h7,h8,h9,h10⟩:=h;have hw:=qB (-c.qk);rw[zUa zLP rfl];simp[zGq,dB,kS,hw,zVH]
def zP5{c:Car}(h:c.ok)(s:Drv)(w:Int):R L Cs zK1 [P0,W w] (st c s)=some (.w (W (zFX c s.last w)),st c s):=by
 have hk1:=zG2 h s.last;have hk2:=zG2 h w;have DD:=fun x jR ver M=>zP6 h s.last s.v x jR ver M
 obtain⟨h1,h2,h3,h4,h5,h6,h7,h8,h9,h10⟩:=h;have w1:=qB (zVH c s.last-c.vX);have w2:=qB (zVH c s.last+c.vX);simp only[dB,kS,jh,je]at DD;rw[zUa zLO rfl];obtain⟨last,v,l⟩:=s;cases l with
 |nil=>simp[kM,zI0,zI1,zGp,dB,kS,DD,w1,w2,zFX]
 |cons y l=>simp[kM,zI0,zI1,zGp,dB,kS,DD,w1,w2,zFX]
def zQF(c:Car)(s:Drv)(x:Int)(hv:0<=s.v/\s.v<=2000)(hn:s.l.length<=1000):R L Cs zLf [P0,W x] (st c s)=some (.t [],st c (s.vE x)):=by
 have w1:=qB (s.v+max (-2000) (min x 2000));obtain⟨last,v,l⟩:=s;simp only at hv hn w1;rw[zUa zMa rfl];cases l with
 |nil=>simp[kM,zI0,zI1,zGu,dB,kS,w1,Drv.vE,doV]
 |cons y l =>
  have hr:(l.length+1+1)*8<=140737488355328:=by simp at hn;omega
  simp[kM,zI0,zI1,zGu,dB,kS,w1,Drv.vE,doV,hr];omega
def zL6{α:Type}(p:List α)(x:α)(l:List α):(p++x::l)[p.length]?=some x:=wD
def zLz{α:Type}(p:List α)(x y:α)(l:List α):(p++x::y::l)[p.length+1]?=some y:=wD
def zL5{α:Type}(p:List α)(x z:α)(l:List α):(p++x::l).set p.length z=p++z::l:=wD
def zLy{α:Type}(p:List α)(x y z:α)(l:List α):(p++x::y::l).set (p.length+1) z=p++x::z::l:=wD
def zNy(k:Nat):List Int->FP
 |[]=>.wr [(k,0,whole)]
 |_::_=>.wr [(k,0,whole),(k+1,0,whole)]
def zMr(c:Car)(s:Drv)(x:Int)(hv:0<=s.v/\s.v<=2000)(hn:s.l.length<=1000)(p:Mem):zx (R L Cs) ⟨true⟩ (.c (.fn zLf [] [])) [.c (.ptr p.length 0 0 0),W x] (p++kM p.length c s)=some (.t [],p++kM p.length c (s.vE x),zNy p.length s.l):=by
 have hd:=zQF c s x hv hn;obtain⟨last,v,l⟩:=s;cases l with
 |nil =>
  simp[kM,zI0,zI1,dB,kS,Drv.vE]at hd;simp[kM,zI0,zI1,dB,kS,Drv.vE,hd,zL6,zLz,zL5,zLy,zNy]
 |cons y l =>
  have hne:¬3*(l.length+1+1)=3*(l.length+1):=wA
  simp[kM,zI0,zI1,dB,kS,Drv.vE]at hd;simp[kM,zI0,zI1,dB,kS,Drv.vE,hd,zL6,zLz,zL5,zLy,zNy,hne]
def zL7{c:Car}(h:c.ok)(s:Drv)(w:Int)(p:Mem):zx (R L Cs) ⟨true⟩ (.c (.fn zK1 [] [])) [.c (.ptr p.length 0 0 0),W w] (p++kM p.length c s)=some (.w (W (zFX c s.last w)),p++kM p.length c s,.no):=by
 have hd:=zP5 h s w;obtain⟨last,v,l⟩:=s;cases l with
 |nil =>
  simp[kM,zI0,zI1,dB,kS,Drv.vE]at hd;simp[kM,zI0,zI1,dB,kS,Drv.vE,hd,zL6,zLz,zL5,zLy,zNy]
 |cons y l =>
  simp[kM,zI0,zI1,dB,kS,Drv.vE]at hd;simp[kM,zI0,zI1,dB,kS,Drv.vE,hd,zL6,zLz,zL5,zLy,zNy]
def Drv.run(s:Drv)(l:List Int):Drv:=⟨zG0 s.last l,zHd s.v l,s.l++l⟩
def Drv.DL(s:Drv):Drv.run s []=s:=by simp[Drv.run,zG0,zHd]
def Drv.Dp(s:Drv)(x:Int)(l:List Int):Drv.run s (x::l)=Drv.run (s.vE x) l:=by simp[Drv.run,Drv.vE,zG0,zHd]
@[simp] def zV8(k:Nat)(c:Car)(s:Drv):(kM k c s)[0]?=some (some (dB c s.last s.v (zI0 k s.l) (3*s.l.length))):=rfl
@[simp] def Zha(c:Car)(s:Drv):(st c s)[0]?=some (some (dB c s.last s.v (zI0 0 s.l) (3*s.l.length))):=rfl
theorem zM7{n:Nat}{E:Env}{M:Mem}(h:M.length<=n):km n E M=M:=by simp_all
def zLr(p:Mem)(c:Car)(s:Drv)(n:Nat)(E:Env)(hp:p.length+1<=n):km n E (p++kM p.length c s)=p++kM p.length c s:=by
 obtain⟨last,v,l⟩:=s;cases l with
 |nil=>grind [zM7,kM,zI1]
 |cons y l =>
  by_cases h:p.length+2<=n
  ·grind [zM7,kM,zI1]
  ·have ht:(p++kM p.length c ⟨last,v,y::l⟩).take (p.length+1)=p++[some (dB c last v (zI0 p.length (y::l)) (3*(y::l).length))]:=List.take_length_add_append 1;have hm:zH (p.length+1) (p++[some (dB c last v (zI0 p.length (y::l)) (3*(y::l).length))])=false:=by
    simp[zH,dB,zI0,kS]
   grind [km]
def zM2{c:Car}(hc:c.ok)(n0:Nat)(hn0:1<=n0):∀(m:Nat) (s:Drv) (f:Bool) (l:List Int),zGI c m f s.last s.v=some l->s.l.length+l.length<=1000->0<=s.v/\s.v<=2000 ->
  ∃E',Y L Cs zGg (some [2,0]) n0 [(2,.w (Bo f)),(0,.w P0)] (st c s)=some (.exit 0,E',st c (Drv.run s l))
 |0,s,f,l,h,_,_=>by grind [zGI]
 |m+1,s,f,l,h,hl,hv=>by
  have hbr:=hc;obtain⟨h1,h2,h3,h4,h5,h6,h7,h8,h9,h10⟩:=hbr;have hw:=qB (-c.qk);rw[zF7]at h;split at h
  ·rename_i yJ;simp only[ja]at h;obtain⟨l',h',rfl⟩:=h;have hr:=zL7 hc s (-c.qk) [];have hd:=zMr c s (zFX c s.last (-c.qk)) hv wA [];obtain⟨E',hE⟩:=zM2 hc n0 hn0 m (s.vE (zFX c s.last (-c.qk))) false l' h' (by simp[Drv.vE]at hl ⊢;omega) (zG1 ..);refine⟨E',?_⟩;rw[Drv.Dp,<-hE];have hdr:=fun E=>zLr [] c (s.vE (zFX c s.last (-c.qk))) n0 E hn0
   refine zP2 (E':=[(2,.w (Bo false)),(0,.w P0)]) (M':=st c (s.vE (zFX c s.last (-c.qk)))) (s:=([(2,.w (Bo false)),(0,.w P0)],st c (s.vE (zFX c s.last (-c.qk))))) ?_ ?_
   ·simp only[je,jp]at hr hd;cases f with
    |true=>simp[zGg,hr,hd,hw,dB,kS,-zx]
    |false =>
     by_cases hv0:0<s.v
     ·simp[zGg,hr,hd,hw,dB,kS,hv0,-zx]
     ·have hl0:0<s.last:=by simpa [hv0]using yJ
      simp[zGg,hr,hd,hw,dB,kS,hv0,hl0,-zx]
   ·simp only[je,jp]at hdr;simp[hdr,-km]
  ·rename_i yJ;cases h;simp only[not_or]at yJ;obtain⟨q1,q2,q3⟩:=yJ;cases f with
   |true=>exact absurd rfl q1
   |false =>
    rw[Drv.DL];refine⟨_,zhJ (r:=(.exit 0,[(17,.w (Bo false)),(0,.w P0)],st c s)) ?_ wD⟩;simp[zGg,dB,kS,q2,q3]
def zOA(c:Car)(s s':Drv)(h:s.l=[]\/s'.l≠[]):finish (st c s).length (.t []) (st c s')=some (.t [],st c s'):=by
 obtain⟨last,v,l⟩:=s;obtain⟨CQ,v',l'⟩:=s';cases l with
 |nil=>cases l' with
  |nil=>exact zMe _ (st c ⟨CQ,v',[]⟩)
  |cons y l'=>simp[kM,zI1,zI0,dB,kS]
 |cons x l=>cases l' with
  |nil=>grind
  |cons y l'=>exact zMe _ (st c ⟨CQ,v',y::l'⟩)
def zP3{c:Car}(hc:c.ok)(s:Drv){l:List Int}(h:zGI c 111 true s.last s.v=some l)(hl:s.l.length+l.length<=1000)(hv:0<=s.v/\s.v<=2000):R L Cs zK0 [P0] (st c s)=some (.t [],st c (Drv.run s l)):=by
 obtain⟨E',hE⟩:=zM2 hc (st c s).length (by simp[kM]) 111 s true l h hl hv;have hdr:=fun E=>zLr [] c s (st c s).length E (by simp[kM])
 simp only[je,jp]at hdr;rw[zUa zLN rfl];simp[zGo,hdr,hE,-km,-finish];refine zOA c s _ ?_;cases hs:s.l with
 |nil=>grind
 |cons x t=>grind [Drv.run]
def zOD{c:Car}(hc:c.ok)(s:Drv){l:List Int}(h:zGI c 111 true s.last s.v=some l)(hl0:0<l.length)(hl:s.l.length+l.length<=1000)(hv:0<=s.v/\s.v<=2000)(p:Mem):zx (R L Cs) ⟨true⟩ (.c (.fn zK0 [] [])) [.c (.ptr p.length 0 0 0)] (p++kM p.length c s)=some (.t [],p++kM p.length c (Drv.run s l),zNy p.length s.l):=by
 have hd:=zP3 hc s h hl hv;cases l with
 |nil=>simp at hl0
 |cons z l =>
 obtain⟨last,v,a⟩:=s;cases a with
 |nil =>
  simp[kM,zI0,zI1,dB,kS,Drv.run]at hd;simp[kM,zI0,zI1,dB,kS,Drv.run,hd,zL6,zLz,zL5,zLy,zNy]
 |cons y a =>
  have hne:¬3*(a.length+(l.length+1)+1)=3*(a.length+1):=wA
  have hne2:¬a.length+(l.length+1)+1=a.length+1:=wA
  simp[kM,zI0,zI1,dB,kS,Drv.run]at hd;simp[kM,zI0,zI1,dB,kS,Drv.run,hd,zL6,zLz,zL5,zLy,zNy,hne,hne2]
def zOs{l:List Int}{i:Nat}(h:i<l.length):(zu l)[i]?=some [I l[i]]:=by simp[zu,h]
abbrev zKk(c:Car):Blk:={ box:=true,esz:=5,rows:=[kS c],gen:=0,fz:=false,ver:=0 }
abbrev fnB:WV:=.c (.fn zLp [] [.ptr 0 0 0 0])
def zOO{c:Car}(hc:c.ok)(x:Int):R L Cs zLp [W x,P0] [some (zKk c)]=some (.w (Bo (zLD c x)),[some (zKk c)]):=by
 obtain⟨h1,h2,h3,h4,h5,h6,h7,h8,h9,h10⟩:=hc;have hw:=qB (-c.qk);rw[zUa zMQ rfl];simp[zGB,kS,hw,zF6,zLD]
def zO5{c:Car}(hc:c.ok)(l:List Int)(hl:l.length<=1000):∀(r:List Int) (i:Nat),l.drop i=r->i<=l.length ->
  (r.any (zLD c)=false->∃E',Y L Cs zFZ (some [7,1,0,8]) 1 [(7,.w (W l.length)),(1,.w fnB),(0,.w (.c (.jb (zu l)))),(8,.w (W i))] [some (zKk c)]=some (.exit 0,E',[some (zKk c)])) /\
  (r.any (zLD c)=true->∃k:Nat,Y L Cs zFZ (some [7,1,0,8]) 1 [(7,.w (W l.length)),(1,.w fnB),(0,.w (.c (.jb (zu l)))),(8,.w (W i))] [some (zKk c)]=some (.ret,[(4,.w (W k))],[some (zKk c)])):=by
 intro r;induction r with
 |nil =>
  intro i hd hi;obtain rfl:=zUb hd hi;refine⟨fun _=>⟨_,zhJ (r:=(.exit 0,[(9,.w (Bo false)),(0,.w (.c (.jb (zu l)))),(1,.w fnB),(7,.w (W l.length)),(8,.w (W l.length))],[some (zKk c)])) ?_ wD⟩,fun h=>by simp at h⟩;simp[zFZ]
 |cons x r ih =>
  intro i hd hi;obtain⟨hil,hx,hd'⟩:=zL hd;obtain⟨ih1,ih2⟩:=ih (i+1) hd' hil;have hch:=zOO hc x;have hw:=zB (i:=i) wA;have hg:=zOs hil;rw[hx]at hg;by_cases hb:zLD c x=true
  ·refine⟨fun h=>by simp[hb]at h,fun _=>⟨i,zhJ ?_ wD⟩⟩;rw[hb]at hch;simp[zKk,kS]at hch;simp[zFZ,hil,hx,hch,zKk,kS]
  ·have hb:zLD c x=false:=by simpa using hb
   rw[hb]at hch;simp[zKk,kS]at hch;have yR:Y L Cs zFZ (some [7,1,0,8]) 1 [(7,.w (W l.length)),(1,.w fnB),(0,.w (.c (.jb (zu l)))),(8,.w (W i))] [some (zKk c)] =
     Y L Cs zFZ (some [7,1,0,8]) 1 [(7,.w (W l.length)),(1,.w fnB),(0,.w (.c (.jb (zu l)))),(8,.w (W (i+1:Nat)))] [some (zKk c)]:=by
    rw[zrL];simp[zFZ,hil,hx,hch,zKk,kS,hw]
   rw[yR];simp only[y8,hb,ux];exact⟨ih1,ih2⟩
def zvV{c:Car}(hc:c.ok)(l:List Int)(hl:l.length<=1000):∃k:Int,R L Cs zK9 [.c (.jb (zu l)),fnB] [some (zKk c)]=some (.w (W k),[some (zKk c)])/\(decide (0<=k)=l.any (zLD c)):=by
 obtain⟨h1,h2⟩:=zO5 hc l hl l 0 rfl (jr _);cases hb:l.any (zLD c)with
 |false =>
  obtain⟨E',hE⟩:=h1 hb;refine⟨-1,?_,wC⟩;rw[zUa zKx rfl];simp at hE;simp[zF2,hE]
 |true =>
  obtain⟨k,hE⟩:=h2 hb;refine⟨k,?_,wD⟩;rw[zUa zKx rfl];simp at hE;simp[zF2,hE]
def zMN{c:Car}(hc:c.ok)(l:List Int)(hl:l.length<=1000):R L Cs zKQ [.c (.jb (zu l)),fnB] [some (zKk c)]=some (.w (Bo (l.any (zLD c))),[some (zKk c)]):=by
 obtain⟨k,h1,h2⟩:=zvV hc l hl;rw[zUa zKT rfl];simp[zKk,kS]at h1;simp[zF0,h1,h2,zKk,kS]
abbrev zKp(l:List Int):Blk:={ box:=true,esz:=1,rows:=[[.jb (zu l)]],gen:=0,fz:=false,ver:=0 }
def zw9{c:Car}(hc:c.ok)(l:List Int)(hl:l.length<=1000)(hr:∀x∈l,-1000<=x/\x<=1000):∀(r:List Int) (i:Nat) (a:Int),-1000<=a/\a<=1000->l.drop i=r->i<=l.length ->
  (zIY c a r=false->∃E',Y L Cs zGw (some [7,44,43,2,45]) 2 [(7,.w (W a)),(44,.w (W l.length)),(43,.w (.c (.jb (zu l)))),(2,.w P0),(45,.w (W i))] [some (zKk c),some (zKp l)]=some (.exit 1,E',[some (zKk c),some (zKp l)])) /\
  (zIY c a r=true->Y L Cs zGw (some [7,44,43,2,45]) 2 [(7,.w (W a)),(44,.w (W l.length)),(43,.w (.c (.jb (zu l)))),(2,.w P0),(45,.w (W i))] [some (zKk c),some (zKp l)]=some (.ret,[(4,.w (W 11))],[some (zKk c),some (zKp l)])):=by
 intro r;have hcc:=hc;obtain⟨q1,q2,q3,q4,q5,q6,q7,q8,q9,q10⟩:=hcc;have hwr:=qB (-c.vX);induction r with
 |nil =>
  intro i a ha hd hi;obtain rfl:=zUb hd hi;refine⟨fun _=>⟨_,zhJ (r:=(.exit 1,[(46,.w (Bo false)),(7,.w (W a)),(2,.w P0),(43,.w (.c (.jb (zu l)))),(44,.w (W l.length)),(45,.w (W l.length))],[some (zKk c),some (zKp l)])) ?_ wD⟩,fun h=>by simp[zIY]at h⟩;simp[zGw]
 |cons x r ih =>
  intro i a ha hd hi;obtain⟨hil,hx,hd'⟩:=zL hd;have hxr:=hr x (by rw[<-hx];exact jf hil);obtain⟨ih1,ih2⟩:=ih (i+1) x hxr hd' hil;have hw:=zB (i:=i) wA;have hws:=qB (x-a);have hwi:=zF6 (x-a) (-c.vX) c.vX;by_cases hb:(decide (-c.vX<=x-a)&&decide (x-a<=c.vX))=true
  ·rw[hb]at hwi;have yR:Y L Cs zGw (some [7,44,43,2,45]) 2 [(7,.w (W a)),(44,.w (W l.length)),(43,.w (.c (.jb (zu l)))),(2,.w P0),(45,.w (W i))] [some (zKk c),some (zKp l)] =
     Y L Cs zGw (some [7,44,43,2,45]) 2 [(7,.w (W x)),(44,.w (W l.length)),(43,.w (.c (.jb (zu l)))),(2,.w P0),(45,.w (W (i+1:Nat)))] [some (zKk c),some (zKp l)]:=by
    rw[zrL];simp[zGw,hil,hx,zKk,kS,hw,hws,hwr,hwi]
   rw[yR];simp only[zIY,hb,Bool.not_true,ux];exact⟨ih1,ih2⟩
  ·have hb:(decide (-c.vX<=x-a)&&decide (x-a<=c.vX))=false:=by simpa using hb
   rw[hb]at hwi;refine⟨fun h=>(by simp only[zIY,hb,Bool.not_false,Bool.true_or]at h;cases h),fun _=>zhJ ?_ wD⟩;simp[zGw,hil,hx,zKk,kS,hw,hws,hwr,hwi]
def zPK{c:Car}(hc:c.ok)(l:List Int)(hl:l.length<=1000):R L Cs zLZ [.a (kS c),.a [.jb (zu l)]] []=some (.w (W (uK c l)),[]):=by
 have hck:=Ap hc;have hcf:=zMN hc l hl;simp[zKk,kS]at hck hcf;rw[zUa zL3 rfl];cases l with
 |nil=>simp_all [zGK,kS,uK]
 |cons x r =>
 simp only[zaP]at hcf;have hne:¬((r.length:Int)+1=0):=wA
 by_cases h200:200<r.length+1
 ·have BV:(200:Int)<(r.length:Int)+1:=wA
  simp[zGK,kS,hck,uK,hc,hne,h200,BV]
 have BV:¬(200:Int)<(r.length:Int)+1:=wA
 have yz:∀h,([I x]::zu r)[r.length]'h=[I ((x::r).getLastD 0)]:=by
  intro h;have e:[I x]::zu r=zu (x::r):=rfl;simp only[e,zBd];simp[List.getLastD_eq_getLast?,List.getLast?_eq_getElem?]
 have hw:IntKind.i64.wrap (r.length:Int)=r.length:=zTd _ wA wA;simp only[List.getLastD_cons]at yz;have hlt:(r.length:Int)<(r.length:Int)+1:=wA
 have hF:uK c (x::r)=if 0<r.getLastD x then 2 else if(x::r).any (zLD c)=true then 2 else if zIY c x (x::r)=true then 11 else 0:=by
  unfold uK;rw[if_neg (by simp[hc]),if_neg wD,if_neg (by simpa using h200),List.getLastD_cons,List.headD_cons]
 rw[hF];generalize r.getLastD x=z at yz;by_cases hp:0<z
 ·simp[zGK,kS,hck,hne,BV,hlt,yz,hw,hp]
 have hlen:((r.length:Int)+1)=((x::r).length:Nat):=wD
 by_cases hb:(x::r).any (zLD c)=true
 ·rw[hb]at hcf;simp only[y8]at hb;simp[zGK,kS,hck,hne,BV,hlt,yz,hw,hp,hcf,hb]
 ·have hb:(x::r).any (zLD c)=false:=by simpa using hb
  have hr:∀y∈(x::r),-1000<=y/\y<=1000:=by
   intro y hy;have h1:=List.any_eq_false.1 hb y hy;obtain⟨q1,q2,q3,q4,q5,q6,q7,q8,q9,q10⟩:=hc;simp[zLD]at h1;omega
  obtain⟨h1,h2⟩:=zw9 hc (x::r) hl hr (x::r) 0 x (hr x (js ..)) rfl (jr _);cases hs:zIY c x (x::r)with
  |false =>
   obtain⟨E',h1⟩:=h1 hs;simp[zKk,kS,zKp]at h1;simp[zGK,kS,hck,hne,BV,hlt,yz,hw,hp,hcf,hb,hs,h1]
   |true =>
   simp[zKk,kS,zKp]at h2;simp[zGK,kS,hck,hne,BV,hlt,yz,hw,hp,hcf,hb,hs,h2]
 end Go.TrRun.Pl
namespace Go.TrRun.Pl
open Go Go.Eng Go.PlanLaw
@[simp] def Zg4(k:Nat)(c:Car)(s:Drv)(A B:Option Blk):(A::B::kM k c s)[2]?=some (some (dB c s.last s.v (zI0 k s.l) (3*s.l.length))):=rfl
abbrev Pt(k:Nat):WV:=.c (.ptr k 0 0 0)
def zNR{c:Car}(q:List Int)(hq:q.length<=5)(A B:Blk)(up hold:Int):∀(r:List Int) (i:Nat) (s:Drv),q.drop i=r->i<=q.length->s.l.length<=i->0<=s.v/\s.v<=2000 ->
  Y L Cs zGt (some [29,28,6,5,12,4,27,13]) 3 [(29,.w (W i)),(28,.w (W q.length)),(6,.w (Pt 0)),(5,.w (W hold)),(12,.w (Pt 1)),(4,.w (W up)),(27,.w (.c (.jb (zu q)))),(13,.w (Pt 2))] (some A::some B::kM 2 c s) =
    some (.exit 0,[(30,.w (Bo false)),(29,.w (W q.length)),(28,.w (W q.length)),(6,.w (Pt 0)),(5,.w (W hold)),(12,.w (Pt 1)),(4,.w (W up)),(27,.w (.c (.jb (zu q)))),(13,.w (Pt 2))],some A::some B::kM 2 c (Drv.queue r s)):=by
 intro r;induction r with
 |nil =>
  intro i s hd hi hs hv;obtain rfl:=zUb hd hi;refine zhJ ?_ wD;simp[zGt,Drv.queue]
 |cons x r ih =>
  intro i s hd hi hs hv;obtain⟨hil,hx,hd'⟩:=zL hd;have yS:=ih (i+1) (s.vE x) hd' hil (by simp[Drv.vE];omega) (zG1 ..);have hw:=zB (i:=i) wA;have qE:=zMr c s x hv wA [some A,some B];have hdr:=fun E=>zLr [some A,some B] c (s.vE x) 3 E wD
  simp only[jh,je,jl,jp,Nat.reduceAdd]at qE hdr;rw[Drv.queue,<-yS,zrL];simp[zGt,hil,hx,qE,hw,hdr,-zx,-km]
def zNQ{c:Car}(hc:c.ok)(B:Blk)(hold:Int)(n:Nat)(hn:n<=20)(n0:Nat)(hn0:3<=n0):∀(m i:Nat) (s:Drv),i+m=n->s.l.length<=5+i->0<=s.v/\s.v<=2000 ->
  Y L Cs zGs (some [40,39,12,5,13,6]) n0 [(40,.w (W i)),(39,.w (W n)),(12,.w (Pt 1)),(5,.w (W hold)),(13,.w (Pt 2)),(6,.w (Pt 0))] (some (zKk c)::some B::kM 2 c s) =
    some (.exit 2,[(41,.w (Bo false)),(40,.w (W n)),(39,.w (W n)),(12,.w (Pt 1)),(5,.w (W hold)),(13,.w (Pt 2)),(6,.w (Pt 0))],some (zKk c)::some B::kM 2 c (Drv.uI c c.qN m s)):=by
 intro m;induction m with
 |zero =>
  intro i s hi hs hv;obtain rfl:i=n:=wA
  refine zhJ ?_ wD;simp[zGs,Drv.uI]
 |succ m ih =>
  intro i s hi hs hv;have hil:(i:Int)<n:=wA
  have yS:=ih (i+1) (s.vE (zFX c s.last c.qN)) wA (by simp[Drv.vE];omega) (zG1 ..);have hw:=zB (i:=i) wA;have BN:=zL7 hc s c.qN [some (zKk c),some B];have qE:=zMr c s (zFX c s.last c.qN) hv wA [some (zKk c),some B];have hdr:=fun E=>zLr [some (zKk c),some B] c (s.vE (zFX c s.last c.qN)) n0 E hn0
  simp only[jh,je,jl,jp,Nat.reduceAdd]at qE BN hdr;simp only[zKk,kS]at qE BN hdr yS ⊢;rw[Drv.uI,<-yS,zrL];simp[zGs,hil,qE,BN,hw,hdr,-zx,-km]
def zNP{c:Car}(hc:c.ok)(A B:Blk)(n:Nat)(hn:n<=20)(n0:Nat)(hn0:3<=n0):∀(m i:Nat) (s:Drv),i+m=n->s.l.length<=25+i->0<=s.v/\s.v<=2000 ->
  Y L Cs zGr (some [52,51,12,13]) n0 [(52,.w (W i)),(51,.w (W n)),(12,.w (Pt 1)),(13,.w (Pt 2))] (some A::some B::kM 2 c s) =
    some (.exit 4,[(53,.w (Bo false)),(52,.w (W n)),(51,.w (W n)),(12,.w (Pt 1)),(13,.w (Pt 2))],some A::some B::kM 2 c (Drv.uI c 0 m s)):=by
 intro m;induction m with
 |zero =>
  intro i s hi hs hv;obtain rfl:i=n:=wA
  refine zhJ ?_ wD;simp[zGr,Drv.uI]
 |succ m ih =>
  intro i s hi hs hv;have hil:(i:Int)<n:=wA
  have yS:=ih (i+1) (s.vE (zFX c s.last 0)) wA (by simp[Drv.vE];omega) (zG1 ..);have hw:=zB (i:=i) wA;have BN:=zL7 hc s 0 [some A,some B];have qE:=zMr c s (zFX c s.last 0) hv wA [some A,some B];have hdr:=fun E=>zLr [some A,some B] c (s.vE (zFX c s.last 0)) n0 E hn0
  simp only[jh,je,jl,jp,Nat.reduceAdd]at qE BN hdr;rw[Drv.uI,<-yS,zrL];simp[zGr,hil,qE,BN,hw,hdr,-zx,-km]
def zOn(k:Nat)(c:Car)(s:Drv)(h:s.l≠[]):kM k c s=[some (dB c s.last s.v (sl (k+1) 1 (zu s.l)) (3*s.l.length)),some (own 1 (zu s.l))]:=by
 obtain⟨last,v,l⟩:=s;cases l with
 |nil=>exact absurd rfl h
 |cons x l=>rfl
def zOI{c:Car}(hc:c.ok)(q:List Int)(hq:q.length<=5)(last v up hold:Int):R L Cs zMD [.a (kS c),.c (.jb (zu q)),W last,W v,W up,W hold] [] =
  some (.w (.a [.jb (zu (zJ2 c q last (max 0 (min v 2000)) (max 0 (min up 20)).toNat (max 0 (min hold 20)).toNat))]),[]):=by
 have hu:((max 0 (min up 20)).toNat:Int)=max 0 (min up 20):=wA
 have hh:((max 0 (min hold 20)).toNat:Int)=max 0 (min hold 20):=wA
 have hun:(max 0 (min up 20)).toNat<=20:=wA
 have hhn:(max 0 (min hold 20)).toNat<=20:=wA
 generalize (max 0 (min up 20)).toNat=nu at *;generalize (max 0 (min hold 20)).toNat=nh at *;have hv:0<=max 0 (min v 2000)/\max 0 (min v 2000)<=2000:=wA
 generalize hv':max 0 (min v 2000)=v' at *;have l1:=zNR (c:=c) q hq (zKk c) { box:=true,esz:=1,rows:=[[.jc]],gen:=0,fz:=false,ver:=0 } up hold q 0 ⟨last,v',[]⟩ rfl (jr _) wD hv;have n1:(Drv.queue q ⟨last,v',[]⟩).l.length=q.length:=by rw[Drv.Ba];simp
 have vv:∀(q:List Int) (s:Drv),0<=s.v/\s.v<=2000->0<=(Drv.queue q s).v/\(Drv.queue q s).v<=2000:=by
  intro q;induction q with
  |nil=>intro s h;exact h
  |cons x q ih=>intro s h;exact ih _ (zG1 ..)
 have vr:∀(n:Nat) (w:Int) (s:Drv),0<=s.v/\s.v<=2000->0<=(Drv.uI c w n s).v/\(Drv.uI c w n s).v<=2000:=by
  intro n w;induction n with
  |zero=>intro s h;exact h
  |succ n ih=>intro s h;exact ih _ (zG1 ..)
 have v1:=vv q ⟨last,v',[]⟩ hv;have l2:=zNQ hc { box:=true,esz:=1,rows:=[[.jc]],gen:=0,fz:=false,ver:=0 } hold nu hun ((kM 2 c (Drv.queue q ⟨last,v',[]⟩)).length+1+1) (by simp[kM]) nu 0 (Drv.queue q ⟨last,v',[]⟩) wA wA v1;have n2:=Drv.Ab (c:=c) (w:=c.qN) (n:=nu) (s:=Drv.queue q ⟨last,v',[]⟩);have v2:=vr nu c.qN _ v1;have hprof:zJ2 c q last v' nu nh=(Drv.uI c 0 nh (Drv.uI c c.qN nu (Drv.queue q ⟨last,v',[]⟩))).l++stops c (Drv.uI c 0 nh (Drv.uI c c.qN nu (Drv.queue q ⟨last,v',[]⟩))).last (Drv.uI c 0 nh (Drv.uI c c.qN nu (Drv.queue q ⟨last,v',[]⟩))).v:=by
  simp only[zJ2];rw[jx hq]
 generalize Drv.uI c c.qN nu (Drv.queue q ⟨last,v',[]⟩)=s2 at *;generalize Drv.queue q ⟨last,v',[]⟩=s1 at *;have l3:=zNP hc (zKk c) { box:=true,esz:=1,rows:=[[.jc]],gen:=0,fz:=false,ver:=0 } nh hhn ((kM 2 c s2).length+1+1) (by simp[kM]) nh 0 s2 wA wA v2;have n3:=Drv.Ab (c:=c) (w:=0) (n:=nh) (s:=s2);have v3:=vr nh 0 s2 v2;generalize Drv.uI c 0 nh s2=s3 at *;obtain⟨e1,e2,e3⟩:=zMs hc s3.last s3.v v3.1 v3.2;have hst:=zOD hc s3 e1 e2 wA v3 [some (zKk c),some { box:=true,esz:=1,rows:=[[.jc]],gen:=0,fz:=false,ver:=0 }];have hne:(Drv.run s3 (stops c s3.last s3.v)).l≠[]:=by
  intro h;have:=congrArg List.length h;simp[Drv.run]at this;rw[this.2]at e2;simp at e2
 have hl:(Drv.run s3 (stops c s3.last s3.v)).l=zJ2 c q last v' nu nh:=hprof.symm;rw[zOn _ c _ hne,hl]at hst;generalize zJ2 c q last v' nu nh=l at *;simp only[jh,je,jl,jp,Nat.reduceAdd]at hst;have h0:kM 2 c ⟨last,v',[]⟩=[some { box:=true,esz:=8,rows:=[[I c.len,I c.qN,I c.qk,I c.vX,I c.uj,I last,I v',.jc]],gen:=0,fz:=false,ver:=0 }]:=rfl;rw[h0]at l1;clear h0;simp only[zKk,kS,dB,jh,je,sl,own,zfq]at l1 l2 l3 hst;have CH:min (q.length:Int) 5=q.length:=wA
 have ve:(zu q).all (fun r=>r.length==1)=true:=by simp[zu]
 simp only[hu,hh,jg]at l1 l2 l3;rw[zUa zMP rfl];simp[zGz,kS,hv',l1,l2,l3,hst,CH,ve,znj,sliceB,zcy,zgN,zxn,-zx]
abbrev uA(ps:List (List Int)):List (List Cl):=ps.map fun p=>[.jb (zu p)]
def zM5:List Cl:=[I 6,I 4,I 6,I 0,I 3,I 4,I 3,I 0,I 1,I 4,I 1,I 0,I 0,I 4,I 0,I 0]
abbrev zME(c:Car)(ps:List (List Int)):Mem:=[some (zKk c),some { box:=false,esz:=1,rows:=[],gen:=0,fz:=false,ver:=0 },some { box:=true,esz:=16,rows:=[zM5],gen:=0,fz:=false,ver:=1 },some (own 1 (uA ps))]
abbrev zNE(q:List Int)(last v:Int)(i:Nat)(ps:List (List Int)):Env:=[(10,.w (.c (sl 3 1 (uA ps)))),(26,.w (W i)),(25,.w (.a zM5)),(4,.w (Pt 0)),(1,.w (.c (.jb (zu q)))),(2,.w (W last)),(3,.w (W v))]
def zOB{c:Car}(hc:c.ok)(q:List Int)(hq:q.length<=5)(last v up hold:Int)(ps:List (List Int))(hi:ps.length<8)(Be:Eng.cut zM5 (ps.length*2) 2=some [I up,I hold]) :
  Y L Cs zH0 (some [10,26,25,4,1,2,3]) 4 (zNE q last v ps.length ps) (zME c ps) =
  Y L Cs zH0 (some [10,26,25,4,1,2,3]) 4 (zNE q last v (ps.length+1) (ps++[zJ2 c q last (max 0 (min v 2000)) (max 0 (min up 20)).toNat (max 0 (min hold 20)).toNat])) (zME c (ps++[zJ2 c q last (max 0 (min v 2000)) (max 0 (min up 20)).toNat (max 0 (min hold 20)).toNat])):=by
 have h2:=zOI hc q hq last v up hold;simp only[kS]at h2;have hw:=zB (i:=ps.length) wA;have hi':(ps.length:Int)<8:=wA
 have hr:(ps.length+1)*24<=140737488355328:=wA
 have htake:(ps.map fun p=>([.jb (zu p)]:List Cl)).take ps.length=ps.map fun p=>[.jb (zu p)]:=jx wD
 have hbelow:zM5.all (Eng.below 4)=true:=wC
 simp only[Eng.cut]at Be
 conv=>lhs;rw[zrL]
 simp[zH0,hi',hw,h2,Be,zNE,zME,uA,zKk,kS,hr,htake,hbelow]
def yp(c:Car)(q:List Int)(last v:Int):List (List Int):=[zJ2 c q last v 6 4,zJ2 c q last v 6 0,zJ2 c q last v 3 4,zJ2 c q last v 3 0,zJ2 c q last v 1 4,zJ2 c q last v 1 0,zJ2 c q last v 0 4,zJ2 c q last v 0 0]
def zOC{c:Car}(hc:c.ok)(q:List Int)(hq:q.length<=5)(last v:Int):∃E',Y L Cs zH0 (some [10,26,25,4,1,2,3]) 4 (zNE q last v 0 []) (zME c [])=some (.exit 0,E',zME c (yp c q last (max 0 (min v 2000))))/\E'.get 10=some (.w (.c (sl 3 1 (uA (yp c q last (max 0 (min v 2000))))))):=by
 have s:=fun up hold ps hi Be=>zOB hc q hq last v up hold ps hi Be
 have s0:=s 6 4 [] wD rfl;simp only[jp]at s0;rw[s0];simp only[je,jJ];rw[show(max 0 (min (6:Int) 20)).toNat=6 from rfl,show(max 0 (min (4:Int) 20)).toNat=4 from rfl];have s1:=s 6 0 [zJ2 c q last (max 0 (min v 2000)) 6 4] wD rfl;simp only[jl,jp,jJ]at s1;rw[s1];simp only[jh,je,Nat.reduceAdd];rw[show(max 0 (min (6:Int) 20)).toNat=6 from rfl,show(max 0 (min (0:Int) 20)).toNat=0 from rfl];have s2:=s 3 4 [zJ2 c q last (max 0 (min v 2000)) 6 4,zJ2 c q last (max 0 (min v 2000)) 6 0] wD rfl;simp only[jl,jp,Nat.reduceAdd]at s2;rw[s2];simp only[jh,je,Nat.reduceAdd];rw[show(max 0 (min (3:Int) 20)).toNat=3 from rfl,show(max 0 (min (4:Int) 20)).toNat=4 from rfl];have s3:=s 3 0 [zJ2 c q last (max 0 (min v 2000)) 6 4,zJ2 c q last (max 0 (min v 2000)) 6 0,zJ2 c q last (max 0 (min v 2000)) 3 4] wD rfl;simp only[jl,jp,Nat.reduceAdd]at s3;rw[s3];simp only[jh,je,Nat.reduceAdd];rw[show(max 0 (min (3:Int) 20)).toNat=3 from rfl,show(max 0 (min (0:Int) 20)).toNat=0 from rfl];have s4:=s 1 4 [zJ2 c q last (max 0 (min v 2000)) 6 4,zJ2 c q last (max 0 (min v 2000)) 6 0,zJ2 c q last (max 0 (min v 2000)) 3 4,zJ2 c q last (max 0 (min v 2000)) 3 0] wD rfl;simp only[jl,jp,Nat.reduceAdd]at s4;rw[s4];simp only[jh,je,Nat.reduceAdd];rw[show(max 0 (min (1:Int) 20)).toNat=1 from rfl,show(max 0 (min (4:Int) 20)).toNat=4 from rfl];have s5:=s 1 0 [zJ2 c q last (max 0 (min v 2000)) 6 4,zJ2 c q last (max 0 (min v 2000)) 6 0,zJ2 c q last (max 0 (min v 2000)) 3 4,zJ2 c q last (max 0 (min v 2000)) 3 0,zJ2 c q last (max 0 (min v 2000)) 1 4] wD rfl;simp only[jl,jp,Nat.reduceAdd]at s5;rw[s5];simp only[jh,je,Nat.reduceAdd];rw[show(max 0 (min (1:Int) 20)).toNat=1 from rfl,show(max 0 (min (0:Int) 20)).toNat=0 from rfl];have s6:=s 0 4 [zJ2 c q last (max 0 (min v 2000)) 6 4,zJ2 c q last (max 0 (min v 2000)) 6 0,zJ2 c q last (max 0 (min v 2000)) 3 4,zJ2 c q last (max 0 (min v 2000)) 3 0,zJ2 c q last (max 0 (min v 2000)) 1 4,zJ2 c q last (max 0 (min v 2000)) 1 0] wD rfl;simp only[jl,jp,Nat.reduceAdd]at s6;rw[s6];simp only[jh,je,Nat.reduceAdd];rw[show(max 0 (min (0:Int) 20)).toNat=0 from rfl,show(max 0 (min (4:Int) 20)).toNat=4 from rfl];have s7:=s 0 0 [zJ2 c q last (max 0 (min v 2000)) 6 4,zJ2 c q last (max 0 (min v 2000)) 6 0,zJ2 c q last (max 0 (min v 2000)) 3 4,zJ2 c q last (max 0 (min v 2000)) 3 0,zJ2 c q last (max 0 (min v 2000)) 1 4,zJ2 c q last (max 0 (min v 2000)) 1 0,zJ2 c q last (max 0 (min v 2000)) 0 4] wD rfl;simp only[jl,jp,Nat.reduceAdd]at s7;rw[s7];simp only[jh,je,Nat.reduceAdd];rw[show(max 0 (min (0:Int) 20)).toNat=0 from rfl];refine⟨_,zhJ (r:=(.exit 0,[(27,.w (Bo false)),(10,.w (.c (sl 3 1 (uA (yp c q last (max 0 (min v 2000))))))),(26,.w (W 8)),(25,.w (.a zM5)),(4,.w (Pt 0)),(1,.w (.c (.jb (zu q)))),(2,.w (W last)),(3,.w (W v))],zME c (yp c q last (max 0 (min v 2000))))) ?_ wD,rfl⟩;simp[zH0,yp]
def Cb{c:Car}(hc:c.ok)(q:List Int)(hq:q.length<=5)(last v:Int):R L Cs zL0 [.a (kS c),.c (.jb (zu q)),W last,W v] [] =
  some (.w (.c (.jb (uA (yp c q last (max 0 (min v 2000)))))),[]):=by
 have h1:=Ap hc;obtain⟨E',hE,hg⟩:=zOC hc q hq last v;have hlen:(yp c q last (max 0 (min v 2000))).length=8:=rfl;generalize yp c q last (max 0 (min v 2000))=ps at *;simp only[kS,zNE,zME,zKk,zM5,sl,own,qs,jp,jg,kl,hlen]at h1 hE hg;have htk:List.take 8 (uA ps)=uA ps:=jx (by simp[uA,hlen]);rw[zUa zL4 rfl];simp[zIl,kS,h1,hE,hg,hlen,htk,zX,zg]
def CN(c:Car):Int:=if c.ok then 0 else 2
def AF(c:Car):R L Cs zGe [.a (kS c)] []=some (.w (W (CN c)),[]):=by
 by_cases h:c.ok
 ·rw[CN,if_pos h];exact Ap h
 rw[CN,if_neg h,zUa zGf rfl];have e:¬(((decide (300<=c.len)&&decide (c.len<=20000))=true)/\((decide (1<=c.qN)&&decide (c.qN<=30))=true)/\((decide (20<=c.qk)&&decide (c.qk<=90))=true)/\((decide (5<=c.vX)&&decide (c.vX<=120))=true)/\((decide (0<=c.uj)&&decide (c.uj<=5))=true)):=by
  intro e;simp only[jk,decide_eq_true_eq]at e;exact h (by simp only[Car.ok];omega)
 have w1:=zF6 c.len 300 20000;have w2:=zF6 c.qN 1 30;have w3:=zF6 c.qk 20 90;have w4:=zF6 c.vX 5 120;have w5:=zF6 c.uj 0 5;generalize (decide (300<=c.len)&&decide (c.len<=20000))=b1 at *;generalize (decide (1<=c.qN)&&decide (c.qN<=30))=b2 at *;generalize (decide (20<=c.qk)&&decide (c.qk<=90))=b3 at *;generalize (decide (5<=c.vX)&&decide (c.vX<=120))=b4 at *;generalize (decide (0<=c.uj)&&decide (c.uj<=5))=b5 at *;cases b1 with
 |false=>simp[zFN,kS,w1]
 |true=>cases b2 with
  |false=>simp[zFN,kS,w1,w2]
  |true=>cases b3 with
   |false=>simp[zFN,kS,w1,w2,w3]
   |true=>cases b4 with
    |false=>simp[zFN,kS,w1,w2,w3,w4]
    |true=>cases b5 with
     |false=>simp[zFN,kS,w1,w2,w3,w4,w5]
     |true=>simp at e
def Cv(c:Car)(l:List Int)(hl:l.length<=1000):R L Cs zLZ [.a (kS c),.a [.jb (zu l)]] []=some (.w (W (uK c l)),[]):=by
 by_cases h:c.ok
 ·exact zPK h l hl
 have h1:=AF c;rw[CN,if_neg h]at h1;simp only[kS]at h1;rw[uK,if_pos h,zUa zL3 rfl];simp[zGK,kS,h1]
def vh(l:List Int)(i:Int):Int:=if l.length=0 then 0 else(l[(max 0 (min i (l.length-1))).toNat]?).getD 0
def CY(l:List Int)(hl:l.length<=1000)(i:Int):R L Cs zGR [.a [.jb (zu l)],W i] []=some (.w (W (vh l i)),[]):=by
 rw[zUa zGT rfl];by_cases h:l.length=0
 ·have hn:l=[]:=jN h;subst hn;simp[zGa,vh]
 ·have h1:¬(l.length:Int)=0:=wA
  have hb:((l.length:Int)==0)=false:=by simpa using h1
  have hw:=qB ((l.length:Int)-1);have hm:min (max i 0) ((l.length:Int)-1)=max 0 (min i ((l.length:Int)-1)):=wA
  have hk:(max 0 (min i ((l.length:Int)-1))).toNat<l.length:=wA
  have hk0:0<=max 0 (min i ((l.length:Int)-1))/\max 0 (min i ((l.length:Int)-1))<l.length:=wA
  rw[vh,if_neg h];generalize max 0 (min i ((l.length:Int)-1))=m at *;simp[zGa,hb,hw,hm,hk,hk0]
def yy(l:List Int):List Int:=if 1<l.length then l.drop 1 else l
def zVy(l:List Int)(hl:l.length<=1000):R L Cs zUj [.c (.jb (zu l))] []=some (.w (.c (sl 0 1 (zu l))),[some (own 1 (zu l))]):=by
 have hr:l.length*8<=140737488355328:=wA
 have hL:List.lookup zUj Cs=some (1,8,false):=by kernel_rfl
 rw[zrP rfl];simp[uv,hL,zuh,hr]
def R_Tail(l:List Int)(hl:l.length<=1000):R L Cs zUW [.a [.jb (zu l)]] []=some (.w (.a [.jb (zu (yy l))]),[]):=by
 have hc:=zVy (yy l) (by unfold yy;split<;>first |omega |(simp;omega));rw[zUa zU0 rfl]
 match l,hl,hc with
 |[],hl,hc=>simp[yy]at hc;simp[zUk,yy,zX,zg,hc]
 |[x],hl,hc=>simp[yy]at hc;simp[zUk,yy,zX,zg,hc]
 |x::y::t,hl,hc =>
  have h1:(1:Int)<(t.length:Int)+1+1:=wA
  have h2:(1:Int)<=(t.length:Int)+1+1:=wA
  have h3:(0:Int)<=(t.length:Int)+1+1:=wA
  have h4:1+(t.length+1)<=t.length+1+1:=wA
  simp[yy]at hc;simp[zUk,yy,zX,zg,hc,h1,h2,h3,h4]
end Go.TrRun.Pl
namespace Go.TrRun
open Go Go.Eng
structure Mrk where
 st:Int
 lo:Int
 hi:Int
def ZjO(x:Mrk):List Cl:=[I x.st,I x.lo,I x.hi]
def zb(l:List Mrk):List (List Cl):=l.map ZjO
def ZlG(l:List zZP):List (List Cl):=l.map zX6
structure Hrd where
 jD:List Mrk
 jO:List Mrk
 jP:List zZP
structure Zou where
 born:Int
 key:Int
 hrd:Hrd
def Zly(e:Zou):List Cl:=[I e.born,I e.key,.jb (zb e.hrd.jD),.jb (zb e.hrd.jO),.jb (ZlG e.hrd.jP)]
@[simp] def Zk5:∀es:List Zou,List.flatMap (fun r=>List.flatMap zBH r) (List.map Zly es)=[]
  |[]=>rfl
  |e::es=>by
   rw[kR,kG,Zk5 es];simp[Zly]
@[simp] def Zk4(ρ:Nat->Option Nat):∀es:List Zou,zez ρ (List.map Zly es)=some (List.map Zly es)
  |[]=>rfl
  |e::es=>by
   rw[kR,zez,Zk4 ρ es];simp[Zly]
@[simp] def Zky(n:Nat):∀es:List Zou,((List.map Zly es).all fun r=>r.all (Eng.below n))=true
  |[]=>rfl
  |e::es=>by
   rw[kR,ud,Zky n es];simp[Zly]
structure StV where
 m:zD
 r:List Int
 car:Go.PlanLaw.Car
 e0:Ego
 t0:Int
 kH:Int
 uk:Int
 sig:Bool
structure NdV where
 now:Int
 first:Int
 last:Int
 mode:Int
 kW:List Int
 uu:Int
 told:List Int
 qy:zci
 looked:Int
structure RgV where
 s0:Int
 s1:Int
 s2:Int
 s3:Int
 s4:Int
 na:Nat
 ini:Bool
 jY:zci
abbrev ZlR(S:StV):List Cl:=[I S.m.version,.jb (S.m.jd.map zo),.jb S.m.qR,.jb S.m.signals,.jb (S.m.kT.map zaL),.jb (zu S.r),I S.car.len,I S.car.qN,I S.car.qk,I S.car.vX,I S.car.uj,I S.e0.slo,I S.e0.shi,I S.e0.vlo,I S.e0.vhi,I S.t0,I S.kH,I S.uk,.bool S.sig]
abbrev srcs(S:StV):List Bool:=zkj (List.replicate S.m.jd.length false) (zbK S.m 0 S.m.jd)
abbrev ndC(S:StV)(d:NdV):List Cl:=[I S.m.version,.jb (S.m.jd.map zo),.jb S.m.qR,.jb S.m.signals,.jb (S.m.kT.map zaL),.jb (zu S.r),I S.car.len,I S.car.qN,I S.car.qk,I S.car.vX,I S.car.uj,I S.e0.slo,I S.e0.shi,I S.e0.vlo,I S.e0.vhi,I S.t0,I S.kH,I S.uk,.bool S.sig,
 I S.m.version,.jb (S.m.jd.map zo),.jb S.m.qR,.jb S.m.signals,.jb (S.m.kT.map zaL),.jb (zu S.r),.jb (zu (zW S.m 0 S.r)),I (zmd S.m 0 S.r),I S.car.len,.jb (zu (S.m.jd.map zfn.len)),.jb (zgU (srcs S)),
 I d.now,I d.first,I d.last,I d.mode,.jb (zu d.kW),.ptr 1 0 0 0,.map 2 true,I d.uu,.jb (zu d.told),I d.qy.tick,.jb (zI d.qy.jZ),I d.qy.ego.slo,I d.qy.ego.shi,I d.qy.ego.vlo,I d.qy.ego.vhi,I d.looked]
abbrev rgC(id:Nat)(g:RgV):List Cl:=[I g.s0,I g.s1,I g.s2,I g.s3,I g.s4,if g.ini then .jc else .bsl id 0 0 0 1 g.na 5,I g.jY.tick,.jb (zI g.jY.jZ),I g.jY.ego.slo,I g.jY.ego.shi,I g.jY.ego.vlo,I g.jY.ego.vhi]
abbrev mpB(c:Int)(es:List Zou)(u:Nat):Option Blk:=some { box:=true,esz:=1,rows:=[I c]::es.map Zly,gen:=0,fz:=false,ver:=u }
abbrev ndM(S:StV)(d:NdV)(g:RgV)(c:Int)(es:List Zou)(v w u:Nat):Mem:=[bxv v 46 (ndC S d),bxv w 12 (rgC 1 g),mpB c es u]
variable(S:StV)(d:NdV)(g:RgV)(c:Int)(es:List Zou)(v w u:Nat)
def ZkQ:R L Cs Zh3 [Pt 0] (ndM S d g c es v w u)=some (.w (Bo false),ndM S d g c es v w u):=by
 rw[zUa Zjg rfl];simp[ZhE]
def ZnT:R L Cs Zmw [Pt 0] (ndM S d g c es v w u)=some (.w (W d.now),ndM S d g c es v w u):=by
 have h:=ZkQ S d g c es v w u;obtain⟨s0,s1,s2,s3,s4,n,ini,p⟩:=g;rw[zUa ZmA rfl];cases ini<;>simp[ndM,ndC,rgC,mpB,bxv]at h<;>simp[Zjn,h]
def Zmn:R L Cs ZlS [Pt 0] (ndM S d g c es v w u)=some (.w (W d.mode),ndM S d g c es v w u):=by
 have h:=ZkQ S d g c es v w u;obtain⟨s0,s1,s2,s3,s4,n,ini,p⟩:=g;rw[zUa Zms rfl];cases ini<;>simp[ndM,ndC,rgC,mpB,bxv]at h<;>simp[Zjb,h]
end Go.TrRun
namespace Go.TrRun
open Go Go.Eng
def wk0:IntKind.i64.wrap 0=0:=rfl
def wk1:IntKind.i64.wrap 1=1:=rfl
def wk2:IntKind.i64.wrap 2=2:=rfl
def wk3:IntKind.i64.wrap 3=3:=rfl
def wk4:IntKind.i64.wrap 4=4:=rfl
def wk5:IntKind.i64.wrap 5=5:=rfl
def RgV.jR(g:RgV):List Int:=[g.s0,g.s1,g.s2,g.s3,g.s4].take g.na
structure ZjQ(g:RgV):Prop where
 few:g.na<=5
 ini:g.ini=true->g.na=0
def ZhJ(g:RgV)(a:Int):RgV:=match g.na with
 |0=>{ g with s0:=a,na:=1,ini:=false }
 |1=>{ g with s1:=a,na:=2,ini:=false }
 |2=>{ g with s2:=a,na:=3,ini:=false }
 |3=>{ g with s3:=a,na:=4,ini:=false }
 |_=>{ g with s4:=a,na:=5,ini:=false }
def ZjF{g:RgV}(h:g.na<=4)(a:Int):(ZhJ g a).jR=g.jR++[a]/\(ZhJ g a).na=g.na+1/\(ZhJ g a).jY=g.jY/\ZjQ (ZhJ g a)/\(ZhJ g a).ini=false:=by
 obtain⟨s0,s1,s2,s3,s4,n,ini,p⟩:=g;simp only at h;rcases n with _|_|_|_|_|n
 ·exact⟨rfl,rfl,rfl,⟨kK rfl,fun h=>(by cases h)⟩,rfl⟩
 ·exact⟨rfl,rfl,rfl,⟨kK rfl,fun h=>(by cases h)⟩,rfl⟩
 ·exact⟨rfl,rfl,rfl,⟨kK rfl,fun h=>(by cases h)⟩,rfl⟩
 ·exact⟨rfl,rfl,rfl,⟨kK rfl,fun h=>(by cases h)⟩,rfl⟩
 ·exact⟨rfl,rfl,rfl,⟨kK rfl,fun h=>(by cases h)⟩,rfl⟩
 ·omega
def ZkC{g:RgV}(hg:ZjQ g)(h:g.na<=4)(a:Int)(w:Nat):R L Cs Zjj [Pt 0,W a] [bxv w 12 (rgC 0 g)]=some (.t [],[bxv (w+2) 12 (rgC 0 (ZhJ g a))]):=by
 obtain⟨s0,s1,s2,s3,s4,n,ini,p⟩:=g;obtain⟨h1,h2⟩:=hg;simp only at h h1 h2;rw[zUa Zjp rfl];cases ini with
 |true =>
  cases h2 rfl;simp[Zhe,ZhJ,wk1,wk2,wk3,wk4,wk5]
 |false =>
  rcases n with _|_|_|_|_|n
  ·simp[Zhe,ZhJ,wk1,wk2,wk3,wk4,wk5]
  ·simp[Zhe,ZhJ,wk1,wk2,wk3,wk4,wk5]
  ·simp[Zhe,ZhJ,wk1,wk2,wk3,wk4,wk5]
  ·simp[Zhe,ZhJ,wk1,wk2,wk3,wk4,wk5]
  ·simp[Zhe,ZhJ,wk1,wk2,wk3,wk4,wk5]
  ·omega
def ZhL(g:RgV):RgV:=match g.na with
 |1=>{ g with na:=0 }
 |2=>{ g with s0:=g.s1,na:=1 }
 |3=>{ g with s0:=g.s1,s1:=g.s2,na:=2 }
 |4=>{ g with s0:=g.s1,s1:=g.s2,s2:=g.s3,na:=3 }
 |_=>{ g with s0:=g.s1,s1:=g.s2,s2:=g.s3,s3:=g.s4,na:=4 }
def Zjr{g:RgV}(h:g.na<=5)(h0:0<g.na)(hi:g.ini=false):(ZhL g).jR=g.jR.tail/\(ZhL g).na+1=g.na/\(ZhL g).jY=g.jY/\ZjQ (ZhL g)/\(ZhL g).ini=false:=by
 obtain⟨s0,s1,s2,s3,s4,n,ini,p⟩:=g;simp only at h h0 hi;subst hi;rcases n with _|_|_|_|_|_|n
 ·omega
 ·exact⟨rfl,rfl,rfl,⟨kK rfl,fun h=>(by cases h)⟩,rfl⟩
 ·exact⟨rfl,rfl,rfl,⟨kK rfl,fun h=>(by cases h)⟩,rfl⟩
 ·exact⟨rfl,rfl,rfl,⟨kK rfl,fun h=>(by cases h)⟩,rfl⟩
 ·exact⟨rfl,rfl,rfl,⟨kK rfl,fun h=>(by cases h)⟩,rfl⟩
 ·exact⟨rfl,rfl,rfl,⟨kK rfl,fun h=>(by cases h)⟩,rfl⟩
 ·omega
def Zki{g:RgV}(h:g.na<=5)(h0:0<g.na)(hi:g.ini=false)(w:Nat):R L Cs Zi2 [Pt 0] [bxv w 12 (rgC 0 g)]=some (.t [],[bxv (w+2) 12 (rgC 0 (ZhL g))]):=by
 obtain⟨s0,s1,s2,s3,s4,n,ini,p⟩:=g;simp only at h h0 hi;subst hi;rw[zUa Zje rfl];rcases n with _|_|_|_|_|_|n
 ·omega
 ·simp[Zhi,ZhL,wk0,wk1,wk2,wk3,wk4,wk5]
 ·simp[Zhi,ZhL,wk0,wk1,wk2,wk3,wk4,wk5]
 ·simp[Zhi,ZhL,wk0,wk1,wk2,wk3,wk4,wk5]
 ·simp[Zhi,ZhL,wk0,wk1,wk2,wk3,wk4,wk5]
 ·simp[Zhi,ZhL,wk0,wk1,wk2,wk3,wk4,wk5]
 ·omega
structure Pss where
 qe:Int
 part:Int
 lo:Int
 hi:Int
 deriving DecidableEq
def zKF(p:Pss):List Cl:=[I p.qe,I p.part,I p.lo,I p.hi]
def zKd(l:List Pss):List (List Cl):=l.map zKF
@[simp] def zLE(l:List Pss):(zKd l).length=l.length:=by simp[zKd]
@[simp] def zNO:zKd []=[]:=rfl
@[simp] def zPO(x:Pss)(l:List Pss):zKd (x::l)=zKF x::zKd l:=rfl
@[simp] def zMu(l k:List Pss):zKd (l++k)=zKd l++zKd k:=by simp[zKd]
@[simp] def zPM(l:List Pss):(zKd l).take l.length=zKd l:=jx wD
@[simp] def zOV{l:List Pss}{i:Nat}(h:i<(zKd l).length):(zKd l)[i]=zKF (l[i]'(by simpa using h)):=by simp[zKd]
@[simp] def zNu(p:Pss):(zKF p).length=4:=rfl
@[simp] def zPN(l:List Pss):(∀x,x∈zKd l->x.length=4)<->True:=by simp[zKd]
def zI2(a b:Pss):Prop:=a.lo<b.lo\/(a.lo=b.lo/\a.qe<b.qe)
instance(a b:Pss):Decidable (zI2 a b):=by unfold zI2;infer_instance
def zN1(l:List Pss):Prop:=∀(i:Nat) (h:i+1<l.length),¬zI2 l[i+1] l[i]
def zLB(st:Int)(z:Nat)(x:Int):Nat->List Prt->List Pss
 |_,[]=>[]
 |k,p::r=>if p.lane=x then⟨z,k,st+p.lo,st+p.hi⟩::zLB st z x (k+1) r else zLB st z x (k+1) r
def zLA(st x:Int):Nat->List Zon->List Pss
 |_,[]=>[]
 |z,q::r=>zLB st z x 0 q.parts++zLA st x (z+1) r
def zKh(m:zD)(zs:List Zon):Int->List Int->List Pss
 |_,[]=>[]
 |a,x::r=>zLA a x 0 zs++zKh m zs (a+z8 m x) r
theorem zLR(st:Int)(z:Nat)(x:Int):∀(l:List Prt) (k:Nat),(zLB st z x k l).length<=l.length
 |[],k=>by simp[zLB]
 |p::l,k=>by
  have:=zLR st z x l (k+1);unfold zLB;split<;>simp<;>omega
def zM8(a b:Pss):Int:=if zgQ a.lo b.lo≠0 then zgQ a.lo b.lo else zgQ a.qe b.qe
def zO9(a b:Pss):zM8 a b<0<->zI2 a b:=by
 unfold zM8 zgQ zI2;by_cases h1:a.lo<b.lo
 ·simp[h1]
 ·by_cases h2:b.lo<a.lo
  ·have:¬a.lo=b.lo:=wA
   simp[h1,h2,this]
  ·have e:a.lo=b.lo:=wA
   by_cases h3:a.qe<b.qe
   ·simp[e,h3]
   ·by_cases h4:b.qe<a.qe
    ·simp[e,h3,h4]
    ·simp[e,h3,h4]
def zN5(a b:Pss):R L Cs zLe [.a (zKF a),.a (zKF b)] []=some (.w (W (zM8 a b)),[]):=by
 have h1:=zp1 a.lo b.lo;have h2:=zsr a.qe b.qe;have h3:=zA0 (zgQ a.lo b.lo) (zgQ a.qe b.qe);unfold zM8;generalize zgQ a.lo b.lo=c1 at *;generalize zgQ a.qe b.qe=c2 at *;generalize (if c1≠0 then c1 else c2)=r at *;simp only[zaP,zay]at h3;rw[zUa zL9 rfl];simp[zIu,zKF,h1,h2,h3,zg,zX]
abbrev Bp(v:Nat)(l:List Pss):Option Blk:=some { box:=false,esz:=4,rows:=zKd l,gen:=l.length,fz:=false,ver:=v }
abbrev pfn:WV:=.c (.fn zLe [] [])
def zNT(l:List Pss)(hs:zN1 l)(hl:l.length<=19)(i:Nat)(h0:0<i)(hi:i<l.length)(v:Nat):Y L Cs zTg (some [9,3,1,2,8,0]) 1 [(9,.w (W i)),(3,.w pfn),(1,.w (W 0)),(2,.w (W l.length)),(8,.w (W i)),(0,.w (.c (.slice 0 l.length 4 0 l.length none)))] [Bp v l] =
  some (.exit 2,[(34,.w (Bo false)),(9,.w (W i)),(3,.w pfn),(1,.w (W 0)),(2,.w (W l.length)),(8,.w (W i)),(0,.w (.c (.slice 0 l.length 4 0 l.length none)))],[Bp v l]):=by
 obtain⟨j,rfl⟩:∃j,i=j+1:=⟨i-1,wA⟩;have h2:j<l.length:=wA
 have hc:=zN5 l[j+1] l[j];have hn:¬zM8 l[j+1] l[j]<0:=fun h=>hs j hi ((zO9 _ _).1 h)
 have hw:IntKind.i64.wrap ((j:Int)+1-1)=(j:Int):=by rw[zTd _ wA wA];omega
 have hg:(0:Int)<(j:Int)+1:=wA
 have hwj:IntKind.i64.wrap (j:Int)=(j:Int):=zTd _ wA wA;have a4:(j:Int)<(l.length:Int):=wA
 have a1:(0:Int)<=(j:Int)+1:=wA
 have a2:(j:Int)+1<(l.length:Int):=wA
 have a3:((j:Int)+1).toNat=j+1:=wA
 generalize zM8 l[j+1] l[j]=c at *;simp only[zKF]at hc;rw[ZfM zTg.eq_1];simp[hg,hc,hn,hw,hwj,hi,h2,a1,a2,a3,a4,zKF]
def zNS(l:List Pss)(hs:zN1 l)(hl:l.length<=19)(v:Nat):∀(n i:Nat),i+n=l.length\/(n=0/\l.length<=i)->0<i->∃i',Y L Cs zTf (some [2,1,3,8,0]) 1 [(2,.w (W l.length)),(1,.w (W 0)),(3,.w pfn),(8,.w (W i)),(0,.w (.c (.slice 0 l.length 4 0 l.length none)))] [Bp v l] =
  some (.exit 0,[(14,.w (Bo false)),(3,.w pfn),(1,.w (W 0)),(2,.w (W l.length)),(8,.w (W i')),(0,.w (.c (.slice 0 l.length 4 0 l.length none)))],[Bp v l]):=by
 intro n;induction n with
 |zero =>
  intro i hi h0;have hc:¬(i:Int)<l.length:=wA
  have hc':¬i<l.length:=wA
  refine⟨i,?_⟩;rw[ZfM zTf.eq_1];simp[hc,hc']
 |succ n ih =>
  intro i hi h0;have hil:i<l.length:=wA
  have hc:(i:Int)<l.length:=wA
  have hw:=zB (i:=i) wA;have hin:=zNT l hs hl i h0 hil v;obtain⟨i',h⟩:=ih (i+1) wA wA;refine⟨i',?_⟩;rw[<-h,ZfM zTf.eq_1];simp[hc,hil,hw,hin]
def zOK(l:List Pss)(hs:zN1 l)(hl:l.length<=19)(v:Nat):R L Cs zKK [.c (.slice 0 l.length 4 0 l.length none),pfn] [Bp v l]=some (.t [],[Bp v l]):=by
 obtain⟨i',h⟩:=zNS l hs hl v (l.length-1) 1 wA wA;have h1:¬(20:Int)<=(l.length:Int):=wA
 have h2:¬(20:Int)<(l.length:Int):=wA
 have h3:¬20<=l.length:=wA
 have h4:¬20<l.length:=wA
 have hw:IntKind.i64.wrap 1=1:=rfl;simp only[kg]at h;have hI:R L Cs zKz [.c (.slice 0 l.length 4 0 l.length none),W 0,W l.length,pfn] [Bp v l]=some (.t [],[Bp v l]):=by
  rw[zUa zKA rfl];simp[zTh,hw,h]
 have hS:R L Cs zKP [.c (.slice 0 l.length 4 0 l.length none),W l.length,pfn] [Bp v l]=some (.t [],[Bp v l]):=by
  have e1:∀E M,Y L Cs zHj (some [7,8,1,0,2,6]) 1 [(7,.w (W 0)),(8,.w (W 20)),(1,.w (W l.length)),(0,E),(2,.w pfn),(6,.w (W 20))] M=some (.exit 0,[(13,.w (Bo false)),(7,.w (W 0)),(8,.w (W 20)),(1,.w (W l.length)),(0,E),(2,.w pfn),(6,.w (W 20))],M):=by
   intro E M;rw[ZfM zHj.eq_1];simp[h1,h3]
  have e2:∀E M,Y L Cs zHh (some [1,0,2,6]) 1 [(1,.w (W l.length)),(0,E),(2,.w pfn),(6,.w (W 20))] M=some (.exit 2,[(30,.w (Bo false)),(1,.w (W l.length)),(0,E),(2,.w pfn),(6,.w (W 20))],M):=by
   intro E M;rw[ZfM zHh.eq_1];simp[h2,h4]
  rw[zUa zKS rfl];simp[zHo,e1,e2,hI]
 rw[zUa zKL rfl];simp[zHn,hS]
abbrev paM(m:zD)(l:List Int)(o:List Pss):Mem:=[bx 5 (zf m),gb 4,bxv 1 8 (zlf m l (.jb (zu (zW m 0 l))) (zmd m 0 l)),some (own 4 (zKd o))]
abbrev paS(o:List Pss):WV:=.c (.slice 3 o.length 4 0 o.length none)
abbrev zO1(l:List Int)(zl:List (List Cl))(nz i z:Nat)(x:Int)(ps:List Prt)(k:Nat)(o:List Pss):Env:=[(6,.w (paS o)),(35,.w (W k)),(34,.w (W ps.length)),(25,.w (.c (.jb zl))),(19,.w (W i)),(18,.w (W l.length)),(17,.w (.c (.jb (zu l)))),(2,.w (Pt 0)),(26,.w (W nz)),(27,.w (W z)),(33,.w (.c (.jb (zkl ps)))),(8,.w (W x)),(9,.w (W z)),(5,.w (Pt 2)),(7,.w (W i))]
structure zOj(p:Prt):Prop where
 lo:0<=p.lo/\p.lo<=1000000
 hi:0<=p.hi/\p.hi<=1000000
def zO0(m:zD)(l:List Int)(i:Nat)(st:Int)(his:i<(zW m 0 l).length)(hst:(zW m 0 l)[i]=st)(hsb:0<=st/\st<=100000000)(x:Int)(q:Zon)(hq:q.parts.length<=6)(hpo:∀p∈q.parts,zOj p)(zl:List (List Cl))(nz z:Nat):∀(t:List Prt) (k:Nat) (o:List Pss),q.parts.drop k=t->k<=q.parts.length->o.length<=1000+k ->
  Y L Cs zIj (some [6,35,34,25,19,18,17,2,26,27,33,8,9,5,7]) 5 (zO1 l zl nz i z x q.parts k o) (paM m l o++[bxv 1 2 (zdP q)]) =
    some (.exit 4,(36,.w (Bo false))::zO1 l zl nz i z x q.parts q.parts.length (o++zLB st z x k t),paM m l (o++zLB st z x k t)++[bxv 1 2 (zdP q)]):=by
 intro t;induction t with
 |nil =>
  intro k o hd hk ho;obtain rfl:=zUb hd hk;rw[ZfM zIj.eq_1];simp[zLB]
 |cons p t ih =>
  intro k o hd hk ho;obtain⟨hkl,hp,hd'⟩:=zL hd;have hw:=zB (i:=k) wA;have hok:=hpo p (by rw[<-hp];exact jf hkl);have w1:IntKind.i64.wrap (st+p.lo)=st+p.lo:=zTd _ (by have:=hok.lo;omega) (by have:=hok.lo;omega);have w2:IntKind.i64.wrap (st+p.hi)=st+p.hi:=zTd _ (by have:=hok.hi;omega) (by have:=hok.hi;omega);have kA:(o.length+1)*32<=140737488355328:=wA
  unfold zLB;by_cases c:p.lane=x
  ·have cb:(p.lane==x)=true:=by simp[c]
   rw[if_pos c];have h:=ih (k+1) (o++[⟨z,k,st+p.lo,st+p.hi⟩]) hd' hkl (by simp;omega);have e1:o++⟨z,k,st+p.lo,st+p.hi⟩::zLB st z x (k+1) t=(o++[⟨z,k,st+p.lo,st+p.hi⟩])++zLB st z x (k+1) t:=wD
   rw[e1,<-h,ZfM zIj.eq_1];simp[zO1,paS,paM,own,zlf,zdP,zeB,zKF,hkl,hp,hw,his,hst,w1,w2,c,cb,kA,zg,zf,zH]
  ·have cb:(p.lane==x)=false:=by simp[c]
   rw[if_neg c];have h:=ih (k+1) o hd' hkl wA;rw[<-h,ZfM zIj.eq_1];clear h ih;simp[zO1,paS,paM,own,zlf,zdP,zeB,zKF,hkl,hp,hw,c,cb,zg,zf,zH]
abbrev zPZ(l:List Int)(zs:List Zon)(i z:Nat)(x:Int)(o:List Pss):Env:=[(6,.w (paS o)),(26,.w (W zs.length)),(2,.w (Pt 0)),(17,.w (.c (.jb (zu l)))),(18,.w (W l.length)),(19,.w (W i)),(25,.w (.c (.jb (zk8 zs)))),(27,.w (W z)),(8,.w (W x)),(5,.w (Pt 2)),(7,.w (W i))]
abbrev zQe(l:List Int)(zs:List Zon)(i:Nat)(x:Int)(o:List Pss):Env:=[(28,.w (Bo false)),(6,.w (paS o)),(25,.w (.c (.jb (zk8 zs)))),(19,.w (W i)),(18,.w (W l.length)),(17,.w (.c (.jb (zu l)))),(2,.w (Pt 0)),(26,.w (W zs.length)),(27,.w (W zs.length)),(8,.w (W x)),(5,.w (Pt 2)),(7,.w (W i))]
def zNv(st x:Int):∀(l:List Zon) (z:Nat),(∀q∈l,q.parts.length<=6)->(zLA st x z l).length<=6*l.length
 |[],z,_=>by simp[zLA]
 |q::l,z,h=>by
  have h1:=zNv st x l (z+1) fun y hy=>h y (jE _ hy)
  grind [zLR,List.mem_cons_self,zLA]
def zOZ(m:zD)(l:List Int)(i:Nat)(st:Int)(his:i<(zW m 0 l).length)(hst:(zW m 0 l)[i]=st)(hsb:0<=st/\st<=100000000)(x:Int)(zs:List Zon)(hz:zs.length<=12)(hq:∀q∈zs,q.parts.length<=6)(hpo:∀q∈zs,∀p∈q.parts,zOj p):∀(t:List Zon) (z:Nat) (o:List Pss),zs.drop z=t->z<=zs.length->o.length<=900+6*z ->
  Y L Cs zIi (some [6,26,2,17,18,19,25,27,8,5,7]) 4 (zPZ l zs i z x o) (paM m l o)=some (.exit 2,zQe l zs i x (o++zLA st x z t),paM m l (o++zLA st x z t)):=by
 intro t;induction t with
 |nil =>
  intro z o hd hk ho;obtain rfl:=zUb hd hk;rw[ZfM zIi.eq_1];simp[zLA]
 |cons q t ih =>
  intro z o hd hk ho;obtain⟨hkl,hp,hd'⟩:=zL hd;have hw:=zB (i:=z) wA;have hqm:q∈zs:=by rw[<-hp];exact jf hkl
  have hp6:=hq q hqm;have hpl:=zLR st z x q.parts 0;have h1:=zO0 m l i st his hst hsb x q hp6 (hpo q hqm) (zk8 zs) zs.length z q.parts 0 o rfl (jr _) wA;have h:=ih (z+1) (o++zLB st z x 0 q.parts) hd' hkl (by simp;omega);unfold zLA;rw[<-jM,<-h,ZfM zIi.eq_1];clear h ih;generalize zLB st z x 0 q.parts=pp at *;simp only[zO1,paS,paM,own,zlf,zdP,zf,zLE,zMu,jF,jg,jh,je]at h1;simp[zPZ,paS,paM,own,zlf,zdP,hkl,hp,hw,h1,zg,zf,zH]
abbrev zPY(l:List Int)(i:Nat)(o:List Pss):Env:=[(6,.w (paS o)),(18,.w (W l.length)),(17,.w (.c (.jb (zu l)))),(2,.w (Pt 0)),(19,.w (W i)),(5,.w (Pt 2))]
abbrev zQd(l:List Int)(o:List Pss):Env:=[(20,.w (Bo false)),(6,.w (paS o)),(2,.w (Pt 0)),(17,.w (.c (.jb (zu l)))),(18,.w (W l.length)),(19,.w (W l.length)),(5,.w (Pt 2))]
def zOY{m:zD}(h:zcp m)(l:List Int)(hl:l.length<=8)(hon:zj2 m l)(zs:List Zon)(hzz:m.qR=zk8 zs)(hz:zs.length<=12)(hq:∀q∈zs,q.parts.length<=6)(hpo:∀q∈zs,∀p∈q.parts,zOj p):∀(t:List Int) (i:Nat) (a:Int) (o:List Pss),l.drop i=t->i<=l.length->(zW m 0 l).drop i=zW m a t->0<=a->a<=i*1000000->o.length<=100*i ->
  Y L Cs zIh (some [6,18,17,2,19,5]) 4 (zPY l i o) (paM m l o)=some (.exit 0,zQd l (o++zKh m zs a t),paM m l (o++zKh m zs a t)):=by
 intro t;induction t with
 |nil =>
  intro i a o hd hk hs h0 h1 ho;obtain rfl:=zUb hd hk;rw[ZfM zIh.eq_1];simp[zKh]
 |cons x t ih =>
  intro i a o hd hk hs h0 h1 ho;obtain⟨hkl,hp,hd'⟩:=zL hd;have hw:=zB (i:=i) wA;have hx:=hon x (by rw[<-hp];exact jf hkl);have hle:=zcX h hx;have hsl:i<(zW m 0 l).length:=by rw[zcO];exact hkl
  have hsd:=jv hsl;rw[hs,zW]at hsd;simp only[As]at hsd;have hzl:=zNv a x zs 0 hq;have g:=zOZ m l i a hsl hsd.1.symm ⟨h0,wA⟩ x zs hz hq hpo zs 0 o rfl (jr _) wA;have hh:=ih (i+1) (a+z8 m x) (o++zLA a x 0 zs) hd' hkl hsd.2.symm wA wA (by simp;omega);unfold zKh;rw[<-jM,<-hh,ZfM zIh.eq_1];clear hh ih;generalize zLA a x 0 zs=pp at *;simp only[zPZ,zQe,paS,paM,own,zlf,zf,hzz,zLE,zMu,jF,jg]at g;simp[zPY,paS,paM,own,zlf,hkl,hp,hw,g,zg,zf,zH,hzz]
def zO7{m:zD}{zs:List Zon}{ss:List Sgn}(hf:zmq m zs ss):∀q∈zs,∀p∈q.parts,zOj p:=by
 intro q hq p hp;obtain⟨a0,a1,a2,a3,_⟩:=hf.pv q hq p hp;have:=zcX hf.qO a0;exact⟨wA,wA⟩
def zPm{m:zD}{zs:List Zon}{ss:List Sgn}(hf:zmq m zs ss){l:List Int}(hr:zdA m l=0)(hs:zN1 (zKh m zs 0 l))(hn:(zKh m zs 0 l).length<=19) :
  R L Cs zMC [.a (zf m),.c (.jb (zu l))] []=some (.w (.c (.jb (zKd (zKh m zs 0 l)))),[]):=by
 have h:=hf.qO;obtain⟨hon,hne,hl8⟩:=zg1 h hr;have hF:=zvR h hr;have g:=zOY h l hl8 hon zs hf.zd.z hf.zd.few hf.zd.pfew (zO7 hf) l 0 0 [] rfl (jr _) rfl (jQ _) wA wD;have hS:=zOK (zKh m zs 0 l) hs hn (zKh m zs 0 l).length;rw[je]at g;generalize zKh m zs 0 l=o at *;simp only[zPY,zQd,paS,paM,own,zlf,zf,zLE,zNO,jp,jg,Bp]at g hF hS;rw[zUa zMO rfl];simp[zIL,zf,hF,g,hS,zg,zX]
set_option maxRecDepth 100000
open Go Go.Eng
def isE:Option (AV×Mem)->Bool
 |some (.w (.c (.jb [])),[])=>true
 |_=>false
def zLU:∀{x:Option (AV×Mem)},isE x=true->x=some (.w (.c (.jb [])),[])
 |some (.w (.c (.jb [])),[]),_=>rfl
 |none,h=>by cases h
 |some (.u,_),h=>by cases h
 |some (.t _,_),h=>by cases h
 |some (.w (.a _),_),h=>by cases h
 |some (.w (.c (.jb (_::_))),_),h=>by cases h
 |some (.w (.c (.jb [])),_::_),h=>by cases h
 |some (.w (.c (.bool _)),_),h=>by cases h
 |some (.w (.c (.int _ _)),_),h=>by cases h
 |some (.w (.c (.str _)),_),h=>by cases h
 |some (.w (.c (.ptr ..)),_),h=>by cases h
 |some (.w (.c (.uQ ..)),_),h=>by cases h
 |some (.w (.c .kX),_),h=>by cases h
 |some (.w (.c (.slice ..)),_),h=>by cases h
 |some (.w (.c .jc),_),h=>by cases h
 |some (.w (.c (.fn ..)),_),h=>by cases h
 |some (.w (.c .qT),_),h=>by cases h
 |some (.w (.c (.iface ..)),_),h=>by cases h
 |some (.w (.c .qA),_),h=>by cases h
 |some (.w (.c (.yld ..)),_),h=>by cases h
noncomputable def zLW(m:zD):Bool:=isE (zaH L Cs 400 zMz [.a (zf m)] [])&&isE (zaH L Cs 400 zMB [.a (zf m)] [])&&isE (zaH L Cs 400 zMW [.a (zf m)] [])&&isE (zaH L Cs 400 zMA [.a (zf m)] [])
def zMm(m:zD):Bool:=true
def zQo(lim r o1 o2 o3 v:Int)(ws:List zCP):zLW (zq 0 lim r o1 o2 o3 v ws)=true:=by kernel_rfl
def zQk(lim r o1 o2 o3 v:Int)(ws:List zCP):zMm (zq 0 lim r o1 o2 o3 v ws)=true:=by kernel_rfl
def zQn(lim r o1 o2 o3 v:Int)(ws:List zCP):zLW (zq 3 lim r o1 o2 o3 v ws)=true:=by kernel_rfl
def zQj(lim r o1 o2 o3 v:Int)(ws:List zCP):zMm (zq 3 lim r o1 o2 o3 v ws)=true:=by kernel_rfl
def zQm(lim r o1 o2 o3 v:Int)(ws:List zCP):zLW (zq 4 lim r o1 o2 o3 v ws)=true:=by kernel_rfl
def zQi(lim r o1 o2 o3 v:Int)(ws:List zCP):zMm (zq 4 lim r o1 o2 o3 v ws)=true:=by kernel_rfl
def zQl(lim r o1 o2 o3 v:Int)(ws:List zCP):zLW (zq 5 lim r o1 o2 o3 v ws)=true:=by kernel_rfl
def zQh(lim r o1 o2 o3 v:Int)(ws:List zCP):zMm (zq 5 lim r o1 o2 o3 v ws)=true:=by kernel_rfl
def zPF(lim o1 o2 o3 v:Int)(ws:List zCP):zLW (zq 1 lim 0 o1 o2 o3 v ws)=true:=by kernel_rfl
def zPz(lim o1 o2 o3 v:Int)(ws:List zCP):zMm (zq 1 lim 0 o1 o2 o3 v ws)=true:=by kernel_rfl
def zPE(lim o1 o2 o3 v:Int)(ws:List zCP):zLW (zq 1 lim 1 o1 o2 o3 v ws)=true:=by kernel_rfl
def zPy(lim o1 o2 o3 v:Int)(ws:List zCP):zMm (zq 1 lim 1 o1 o2 o3 v ws)=true:=by kernel_rfl
def zPD(lim o1 o2 o3 v:Int)(ws:List zCP):zLW (zq 2 lim 0 o1 o2 o3 v ws)=true:=by kernel_rfl
def zPx(lim o1 o2 o3 v:Int)(ws:List zCP):zMm (zq 2 lim 0 o1 o2 o3 v ws)=true:=by kernel_rfl
def zPC(lim o1 o2 o3 v:Int)(ws:List zCP):zLW (zq 2 lim 1 o1 o2 o3 v ws)=true:=by kernel_rfl
def zPw(lim o1 o2 o3 v:Int)(ws:List zCP):zMm (zq 2 lim 1 o1 o2 o3 v ws)=true:=by kernel_rfl
def zPB(lim o1 o2 o3 v:Int)(ws:List zCP):zLW (zq 6 lim 0 o1 o2 o3 v ws)=true:=by kernel_rfl
def zPv(lim o1 o2 o3 v:Int)(ws:List zCP):zMm (zq 6 lim 0 o1 o2 o3 v ws)=true:=by kernel_rfl
def zPA(lim o1 o2 o3 v:Int)(ws:List zCP):zLW (zq 6 lim 1 o1 o2 o3 v ws)=true:=by kernel_rfl
def zPu(lim o1 o2 o3 v:Int)(ws:List zCP):zMm (zq 6 lim 1 o1 o2 o3 v ws)=true:=by kernel_rfl
def zQg(k:Nat)(hk:k<7)(lim r o1 o2 o3 v:Int)(ws:List zCP)(hr:r=0\/r=1):zLW (zq k lim r o1 o2 o3 v ws)=true/\zMm (zq k lim r o1 o2 o3 v ws)=true:=by
 match k,hk with
 |0,_=>exact⟨zQo ..,zQk ..⟩
 |1,_=>rcases hr with rfl |rfl;exact⟨zPF ..,zPz ..⟩;exact⟨zPE ..,zPy ..⟩
 |2,_=>rcases hr with rfl |rfl;exact⟨zPD ..,zPx ..⟩;exact⟨zPC ..,zPw ..⟩
 |3,_=>exact⟨zQn ..,zQj ..⟩
 |4,_=>exact⟨zQm ..,zQi ..⟩
 |5,_=>exact⟨zQl ..,zQh ..⟩
 |6,_=>rcases hr with rfl |rfl;exact⟨zPB ..,zPv ..⟩;exact⟨zPA ..,zPu ..⟩
def zQC{m:zD}(h:zcp m)(hf:zLW m=true):R L Cs zNA [.a (zf m)] []=some (.w (Bo true),[]):=by
 unfold zLW at hf;simp only[jk]at hf;obtain⟨⟨⟨a1,a2⟩,a3⟩,a4⟩:=hf;have h1:=zah.2 ⟨400,zLU a1⟩;have h2:=zah.2 ⟨400,zLU a2⟩;have h3:=zah.2 ⟨400,zLU a3⟩;have h4:=zah.2 ⟨400,zLU a4⟩;have h0:=h.chk;have w0:IntKind.i64.wrap 0=0:=rfl;simp only[zf]at h0 h1 h2 h3 h4;rw[zUa zNI rfl];simp[zIV,zf,h0,h1,h2,h3,h4,w0,zg]
structure zKj(m:zD)(zs:List Zon)(ss:List Sgn):Prop where
 full:zmq m zs ss
 pos:0<m.jd.length
 kT:m.kT.length<=1000
 two:zs.length<=2
 fit:zLW m=true/\zMm m=true
 srt:∀l,zdA m l=0->zN1 (zKh m zs 0 l)
 few:∀l,zdA m l=0->(zKh m zs 0 l).length<=19
set_option maxRecDepth 10000
open Go Go.Eng
def Za{m:zD}(h:zcp m)(l:List Spn)(hl:l.length<=100000):∀(r:List Spn) (i:Nat) (out:List zk),l.drop i=r->i<=l.length->out.length<=i ->
  Y L Cs zWS (some [5,13,12,11,2]) 3 [(5,.w (.c (sl 2 6 (zI out)))),(13,.w (W i)),(12,.w (W l.length)),(11,.w (.c (.jb (zWx l)))),(2,.w (Pt 0))] [bx 5 (zf m),gb 3,some (own 6 (zI out))] =
    some (.exit 0,[(14,.w (Bo false)),(5,.w (.c (sl 2 6 (zI (out++(r.filter (onF m)).map zWu))))),(13,.w (W l.length)),(12,.w (W l.length)),(11,.w (.c (.jb (zWx l)))),(2,.w (Pt 0))],[bx 5 (zf m),gb 3,some (own 6 (zI (out++(r.filter (onF m)).map zWu)))]):=by
 intro r;induction r with
 |nil =>
  intro i out hd hi ho;obtain rfl:=zUb hd hi;rw[ZfM zWS.eq_1];simp
 |cons s r ih =>
  intro i out hd hi ho;obtain⟨hil,hs,hd'⟩:=zL hd;have hw:=zB (i:=i) wA;have hon:=z1M h s;have kA:(out.length+1)*48<=140737488355328:=wA
  by_cases c:onF m s=true
  ·rw[vW c,kR,show out++zWu s::(r.filter (onF m)).map zWu=(out++[zWu s])++(r.filter (onF m)).map zWu by simp,<-ih (i+1) (out++[zWu s]) hd' hil (by simp;omega),ZfM zWS.eq_1];clear ih;rw[c]at hon;simp only[zf,zWX]at hon;simp[hil,hs,hw,zWX,ze,zWu,zf,hon,kA,zg,zH]
  ·rw[qW c,<-ih (i+1) out hd' hil wA,ZfM zWS.eq_1];clear ih;have c':onF m s=false:=by simpa using c
   rw[c']at hon;simp only[zf,zWX]at hon;simp[hil,hs,hw,zWX,zf,hon,zg,zH]
def z99{m:zD}(bs:List zk)(l:List zk)(hl:l.length<=100000):∀(r:List zk) (i:Nat) (out:List Spn),l.drop i=r->i<=l.length->out.length=i ->
  Y L Cs zW4 (some [8,34,33,32]) 4 [(8,.w (.c (sl 3 3 (zWx out)))),(34,.w (W i)),(33,.w (W l.length)),(32,.w (.c (.jb (zI l))))] [bx 5 (zf m),gb 3,fzB bs,some (own 3 (zWx out))] =
    some (.exit 2,[(35,.w (Bo false)),(8,.w (.c (sl 3 3 (zWx (out++r.map zXs))))),(34,.w (W l.length)),(33,.w (W l.length)),(32,.w (.c (.jb (zI l))))],[bx 5 (zf m),gb 3,fzB bs,some (own 3 (zWx (out++r.map zXs)))]):=by
 intro r;induction r with
 |nil =>
  intro i out hd hi ho;obtain rfl:=zUb hd hi;rw[ZfM zW4.eq_1];simp
 |cons b r ih =>
  intro i out hd hi ho;subst ho;obtain⟨hil,hb,hd'⟩:=zL hd;have hw:=zB (i:=out.length) wA;have kA:(out.length+1)*24<=140737488355328:=wA
  rw[kR,show out++zXs b::r.map zXs=(out++[zXs b])++r.map zXs by simp,<-ih (out.length+1) (out++[zXs b]) hd' hil wD,ZfM zW4.eq_1];clear ih;simp[hil,hb,hw,zWX,ze,zXs,zf,kA,zg,zH]
def ZD{m:zD}(h:zcp m)(l:List Spn)(hl:l.length<=5000):R L Cs zY4 [.a (zf m),.c (.jb (zWx l))] []=some (.w (.c (.jb (zWx (zXa m l)))),[]):=by
 have h1:=Za h l wA l 0 [] rfl (jr _) (jr _);have hfl:(l.filter (onF m)).length<=l.length:=qx _ _;have h2:=zD8 ((l.filter (onF m)).map zWu) (by simp;omega) (by
  intro x hx;obtain⟨s,hs,rfl⟩:=jW.1 hx;exact z1E h (uO.1 hs).2)
 have hjl:=zkq ((l.filter (onF m)).map zWu);rw[kl]at hjl;have h3:=z99 (m:=m) ((l.filter (onF m)).map zWu) (zcz ((l.filter (onF m)).map zWu)) wA _ 0 [] rfl (jr _) rfl;have htk:List.take (l.filter (onF m)).length ((l.filter (onF m)).map zWu)=(l.filter (onF m)).map zWu:=jx wD;unfold zXa;generalize zcz ((l.filter (onF m)).map zWu)=q at *;have hbl:((l.filter (onF m)).map zWu).length=(l.filter (onF m)).length:=kl _;generalize (l.filter (onF m)).map zWu=bs at *;generalize (l.filter (onF m)).length=n at *;subst hbl;simp only[zf,jg,je,zic,zZb,sl,own,jp,zgg,zXJ,kl,u7,fzB]at h1 h2 h3 ⊢;rw[zUa zY7 rfl];have htk2:List.take q.length (zWx (q.map zXs))=zWx (q.map zXs):=jx wD;simp[zXG,h1,h2,h3,zg,zX,htk2]
def Za5{m:zD}(h:zcp m)(hs:zmX m)(l:List Spn)(hl:l.length<=5000)(fs:List Fnd)(hfs:fs.length<=100000):R L Cs zZp [.a (zf m),.c (.jb (zWx l)),.c (.jb (zWw fs))] []=some (.w (.c (.jb (zWx (zXD m l fs)))),[]):=by
 have h1:=ZD h l hl;have h2:=zZ4 h hs fs hfs fs 0 (zXa m l) rfl (jr _) (zZE h l);have hck:=h.chk;unfold zXD;simp only[zf,jg]at h1 h2 hck ⊢;rw[zUa zZy rfl];simp[zXY,h1,h2,hck,zg]
def Zal{m:zD}(h:zcp m)(hs:zmX m)(h1:zXl m)(k:zci)(hk:zdf m k=0)(x:zZP)(hst:x.qd=k.tick)(hse:x.seen.length<=5000)(hp:x.pts.length<=1000) :
  R L Cs zYW [.a (zf m),.a (zG k),.a (zX6 x)] []=some (.w (.a (zG ⟨k.tick,zXm m x.seen x.pts k.jZ,k.ego⟩)),[]):=by
 obtain⟨st,se,pts⟩:=x;simp only at hst hse hp ⊢;subst hst;have hv:=zxJ h hk;have ha:=Zm3 h hk;have hl:=zYo h hs hv ha;have g1:=z1I k wA;have g2:=zuu h k wA;rw[hk]at g2;have hfew:=hs.few;have g3:=z1x h h1 pts wA wA;have hfl:=zZ5 h1 (pts.filter zXq) m.jd 0 rfl;have hcl:=qx zXq pts;have hfl2:(zWG m pts).length<=4000:=by
  unfold zWG;refine jT hfl (jT (v8 hfew (jT hcl hp)) wC)
 have g4:=Za5 h hs se hse (zWG m pts) wA;have g5:=ZD h se hse;have hwl:=zZW m se;have hfV:VS m (zXD m se (zWG m pts)):=z0i h (zWG m pts) _ _ (zZE h se);obtain⟨v',g6⟩:=z0E h hs k ⟨k.tick,se,pts⟩ _ (zXa m se) hfV (zWG m pts) (zXD m se (zWG m pts)) 0 1 k.jZ rfl (jr _) hv ha;obtain⟨c1,c2⟩:=zZs (zXD m se (zWG m pts)) k.jZ hv ha;have hcl:=zYo h hs c1 c2;have g7:=z0D (m:=m) k v' (Ax (zXD m se (zWG m pts)) k.jZ) ⟨k.tick,se,pts⟩ (zXa m se) wA (zWG m pts) wA (Ax (zXD m se (zWG m pts)) k.jZ) (fun b hb=>(c1 b hb).vle) hcl _ 0 [] rfl (jr _) (jm _);have hul:=zYP h hs se pts hv ha;have hul':zXm m se pts k.jZ=(Ax (zXD m se (zWG m pts)) k.jZ).flatMap (zX4 (zXa m se) (zWG m pts)):=rfl;simp only[je,u7]at g6 g7;rw[<-hul']at g7;generalize zXm m se pts k.jZ=U at *;clear hul' hfl hfV hv ha c1 c2;generalize Ax (zXD m se (zWG m pts)) k.jZ=C at *;generalize zXD m se (zWG m pts)=F at *;generalize zXa m se=S at *;generalize zWG m pts=D at *;simp only[zf,zG,zX6]at g1 g2 g3 g4 g5;simp only[upE,z0p,upM,zf,zG,zX6,sl,own,zic,zgg,jp,jg,jh,je]at g6 g7;rw[zUa zY0 rfl];simp (maxSteps:=1000000) [zXB,zf,zG,zX6,g1,g2,g3,g4,g5,g6,g7,zg,zH,zX]
structure z6u(S:StV)(zs:List Zon)(ss:List Sgn):Prop where
 full:zKj S.m zs ss
 vS:zdA S.m S.r=0
 car:S.car.ok
 bud:0<=S.kH/\S.kH<=8
 sil:0<=S.uk/\S.uk<=1000
structure KNd(m:zD)(k:zci):Prop where
 j:KJ m k
 t:0<=k.tick/\k.tick<=1099511627000
def KNd.len{S:StV}{zs:List Zon}{ss:List Sgn}(h:z6u S zs ss){k:zci}(hk:KNd S.m k):k.jZ.length<=200000000:=zN7 h.full.full.qO h.full.full.yn hk.j
def Zhv(S:StV)(k:zci):zci:=⟨k.tick,zkr S.m k.ego S.car.len S.r k.jZ,k.ego⟩
def ZhP(S:StV)(zs:List Zon)(ss:List Sgn)(k:zci)(a:Int):zci:=zEt S.m zs ss S.r S.car.len S.sig k a
variable{S:StV}{zs:List Zon}{ss:List Sgn}(hS:z6u S zs ss)(d:NdV)(g:RgV)(c:Int)(es:List Zou)(v w u:Nat)
include hS
def ZjW{k:zci}(hk:k.jZ.length<=300000000)(he:znd k.ego):R L Cs Zjk [Pt 0,.a (zG k)] (ndM S d g c es v w u)=some (.w (.a (zG (Zhv S k))),ndM S d g c es v w u):=by
 have hG:=hS.full.full.qO;obtain⟨hon,hne,hl8⟩:=zg1 hG hS.vS;have hr2:=zlP hS.full.full.yn hS.vS;have hc:=hS.car;have hlen:0<=S.car.len/\S.car.len<=20000:=by obtain⟨q1,q2,_⟩:=hc;omega
 have hes:=he.s;have h1:=zor hG S.r wA hon S.car.len k.ego wA hlen k.jZ (by
  have:2 ^ S.r.length<=2 ^ 8:=u5 wC wA
  calc k.jZ.length*2 ^ S.r.length<=300000000*2 ^ 8:=v8 hk this
   _<=100000000000:=by decide)
 have h2:=zvv k.jZ wA;simp only[zh,zi,zch]at h1;obtain⟨s0,s1,s2,s3,s4,n,ini,p⟩:=g;rw[zUa Zjq rfl];cases ini<;>simp[ZhN,zG,Zhv,h1,h2,zX,Zly]
def Zkc{k:zci}(hk:KNd S.m k)(a:Int)(ha:zk0 a):R L Cs Zi3 [Pt 0,.a (zG k),W a] (ndM S d g c es v w u)=some (.w (.a (zG (ZhP S zs ss k a))),ndM S d g c es v w u):=by
 have hc:=hS.car;have hlen:0<=S.car.len/\S.car.len<=20000:=by obtain⟨q1,q2,_⟩:=hc;omega
 have ht:=hk.t;have h1:=zux hS.full.full hS.vS S.car.len hlen k (hk.len hS) wA hk.j.ego hk.j.vb a ha S.sig;simp only[zh,zi,zG]at h1;obtain⟨s0,s1,s2,s3,s4,n,ini,p⟩:=g;rw[zUa Zjf rfl];unfold ZhP zEt;cases ini<;>simp[ZhD,zG,h1,zX,Zly]
end Go.TrRun
namespace Go.TrRun
open Go Go.Eng
@[simp] def Zlg(l:List Mrk):(zb l).length=l.length:=by simp[zb]
@[simp] def Zif{l:List Mrk}{i:Nat}(h:i<l.length):(zb l)[i]?=some (ZjO l[i]):=by simp[zb,h]
@[simp] def Zlf(l:List zZP):(ZlG l).length=l.length:=by simp[ZlG]
@[simp] def ZjE{l:List zZP}{i:Nat}(h:i<l.length):(ZlG l)[i]?=some (zX6 l[i]):=by simp[ZlG,h]
def ZhZ(l:List Mrk)(x:zci×Bool):zci×Bool:=l.foldl (fun q y=>((z9f q.1 y.st y.lo y.hi).1,q.2&&(z9f q.1 y.st y.lo y.hi).2)) x
def Zis(l:List Mrk)(x:zci×Bool):zci×Bool:=l.foldl (fun q y=>((Zag q.1 y.st y.lo y.hi).1,q.2&&(Zag q.1 y.st y.lo y.hi).2)) x
theorem ZhO(k:zci)(a b c:Int):(z9f k a b c).1.jZ=k.jZ/\(z9f k a b c).1.tick=k.tick/\(z9f k a b c).1.ego.slo=k.ego.slo/\(z9f k a b c).1.ego.shi=k.ego.shi:=by
 grind [z9f]
def ZiV(k:zci)(a b c:Int):(Zag k a b c).1.jZ=k.jZ/\(Zag k a b c).1.tick=k.tick/\(Zag k a b c).1.ego.vlo=k.ego.vlo/\(Zag k a b c).1.ego.vhi=k.ego.vhi:=by
 grind [Zag]
def Zj1{k:zci}(h:znd k.ego)(a b c:Int):znd (z9f k a b c).1.ego:=by
 obtain⟨h1,h2⟩:=h;unfold z9f
 (repeat' split)
 ·exact⟨h1,h2⟩
 ·exact⟨h1,h2⟩
 ·exact⟨h1,by grind⟩
def ZkO{k:zci}(h:znd k.ego)(a b c:Int):znd (Zag k a b c).1.ego:=by
 obtain⟨h1,h2⟩:=h;unfold Zag
 (repeat' split)
 ·exact⟨h1,h2⟩
 ·exact⟨h1,h2⟩
 ·exact⟨by grind,h2⟩
abbrev Zli(h:Hrd):List Cl:=[.jb (zb h.jD),.jb (zb h.jO),.jb (ZlG h.jP)]
abbrev fuK:List Cl:=[I 0,.jc,I 0,I 0,I 0,I 0]
abbrev fuM(S:StV)(d:NdV)(g:RgV)(c:Int)(es:List Zou)(v w u:Nat)(k:zci)(vk:Nat)(H:Hrd):Mem:=ndM S d g c es v w u++[bxv vk 6 (zG k),bx 6 fuK,bxv 1 3 (Zli H)]
abbrev Zlm(l:List Mrk)(i:Nat)(ok:Bool):Env:=[(6,.w (Bo ok)),(28,.w (W i)),(27,.w (W l.length)),(7,.w (Pt 5)),(4,.w (Pt 4)),(0,.w (Pt 0)),(26,.w (.c (.jb (zb l)))),(3,.w (Pt 3))]
def Zj8(S:StV)(d:NdV)(g:RgV)(c:Int)(es:List Zou)(v w u:Nat)(l:List Mrk)(hl:l.length<=1000)(H:Hrd):∀(r:List Mrk) (i:Nat) (k:zci) (ok:Bool) (vk:Nat),l.drop i=r->i<=l.length->k.jZ.length<=100000000000 ->
  ∃vk',Y L Cs Zhh (some [6,28,27,7,4,0,26,3]) 6 (Zlm l i ok) (fuM S d g c es v w u k vk H)=some (.exit 0,(29,.w (Bo false))::Zlm l l.length (ZhZ r (k,ok)).2,fuM S d g c es v w u (ZhZ r (k,ok)).1 vk' H)
 |[],i,k,ok,vk,hd,hi,hk=>by
  have e:i=l.length:=by
   have:=congrArg List.length hd;simp at this;omega
  subst e;refine⟨vk,?_⟩;obtain⟨s0,s1,s2,s3,s4,n,ini,p⟩:=g;rw[ZfM Zhh.eq_1];cases ini<;>simp[ZhZ,Zly]
 |x::r,i,k,ok,vk,hd,hi,hk=>by
  have h1:i<l.length:=by
   have:=congrArg List.length hd;simp at this;omega
  have h2:l[i]=x:=by rw[jv h1]at hd;exact(ka hd).1
  have h3:l.drop (i+1)=r:=by rw[jv h1]at hd;exact(ka hd).2
  have hw:=zB (i:=i) wA;have hci:(i:Int)<l.length:=wA
  have kY:(zb l)[i]?=some (ZjO x):=by rw[Zif h1,h2]
  have hS:=Za4 k hk x.st x.lo x.hi;have hb:=(ZhO k x.st x.lo x.hi).1;obtain⟨vk',ih⟩:=Zj8 S d g c es v w u l hl H r (i+1) (z9f k x.st x.lo x.hi).1 (ok&&(z9f k x.st x.lo x.hi).2) (vk+1) h3 wA (by rw[hb];exact hk);refine⟨vk',?_⟩;have e:ZhZ (x::r) (k,ok)=ZhZ r ((z9f k x.st x.lo x.hi).1,ok&&(z9f k x.st x.lo x.hi).2):=rfl;rw[e,<-ih];obtain⟨s0,s1,s2,s3,s4,n,ini,p⟩:=g;simp only[zM5,zG]at hS;simp only[ZjO]at kY;rw[ZfM Zhh.eq_1];cases ok<;>cases ini<;>simp[hci,hw,kY,hS,zG,Zly,-Int.natCast_add]
abbrev Zll(l:List Mrk)(i:Nat)(ok:Bool):Env:=[(6,.w (Bo ok)),(47,.w (W i)),(46,.w (W l.length)),(0,.w (Pt 0)),(4,.w (Pt 4)),(7,.w (Pt 5)),(45,.w (.c (.jb (zb l)))),(3,.w (Pt 3))]
def Zj7(S:StV)(d:NdV)(g:RgV)(c:Int)(es:List Zou)(v w u:Nat)(l:List Mrk)(hl:l.length<=1000)(H:Hrd):∀(r:List Mrk) (i:Nat) (k:zci) (ok:Bool) (vk:Nat),l.drop i=r->i<=l.length->k.jZ.length<=100000000000 ->
  ∃vk',Y L Cs Zhg (some [6,47,46,0,4,7,45,3]) 6 (Zll l i ok) (fuM S d g c es v w u k vk H)=some (.exit 2,(48,.w (Bo false))::Zll l l.length (Zis r (k,ok)).2,fuM S d g c es v w u (Zis r (k,ok)).1 vk' H)
 |[],i,k,ok,vk,hd,hi,hk=>by
  have e:i=l.length:=by
   have:=congrArg List.length hd;simp at this;omega
  subst e;refine⟨vk,?_⟩;obtain⟨s0,s1,s2,s3,s4,n,ini,p⟩:=g;rw[ZfM Zhg.eq_1];cases ini<;>simp[Zis,Zly]
 |x::r,i,k,ok,vk,hd,hi,hk=>by
  have h1:i<l.length:=by
   have:=congrArg List.length hd;simp at this;omega
  have h2:l[i]=x:=by rw[jv h1]at hd;exact(ka hd).1
  have h3:l.drop (i+1)=r:=by rw[jv h1]at hd;exact(ka hd).2
  have hw:=zB (i:=i) wA;have hci:(i:Int)<l.length:=wA
  have kY:(zb l)[i]?=some (ZjO x):=by rw[Zif h1,h2]
  have hS:=Zbi k hk x.st x.lo x.hi;have hb:=(ZiV k x.st x.lo x.hi).1;obtain⟨vk',ih⟩:=Zj7 S d g c es v w u l hl H r (i+1) (Zag k x.st x.lo x.hi).1 (ok&&(Zag k x.st x.lo x.hi).2) (vk+1) h3 wA (by rw[hb];exact hk);refine⟨vk',?_⟩;have e:Zis (x::r) (k,ok)=Zis r ((Zag k x.st x.lo x.hi).1,ok&&(Zag k x.st x.lo x.hi).2):=rfl;rw[e,<-ih];obtain⟨s0,s1,s2,s3,s4,n,ini,p⟩:=g;simp only[zM5,zG]at hS;simp only[ZjO]at kY;rw[ZfM Zhg.eq_1];cases ok<;>cases ini<;>simp[hci,hw,kY,hS,zG,Zly,-Int.natCast_add]
set_option maxRecDepth 100000
open Go Go.Eng
def zOu{m:zD}{zs:List Zon}{ss:List Sgn}(hf:zmq m zs ss)(hz:zs.length<=2)(hn:∀q∈zs,q.parts.length<=4){l:List Int}(hr:zdA m l=0):(zKh m zs 0 l).length<=16:=by
 have hl:=zlP hf.yn hr;have key:∀(t:List Zon) (a x:Int) (z:Nat),(∀q∈t,q.parts.length<=4)->(zLA a x z t).length<=4*t.length:=by
  intro t;induction t with
  |nil=>intro a x z _;simp[zLA]
  |cons q t ih =>
   intro a x z h;have h1:=ih a x (z+1) fun y hy=>h y (jE _ hy)
   have h2:=zLR a z x q.parts 0;have h3:=h q (js ..);unfold zLA;simp;omega
 have k2:∀(t:List Int) (a:Int),(zKh m zs a t).length<=8*t.length:=by
  intro t;induction t with
  |nil=>intro a;simp[zKh]
  |cons x t ih =>
   intro a;have h1:=ih (a+z8 m x);have h2:=key zs a x 0 hn;unfold zKh;simp;omega
 have:=k2 l 0;omega
def zOT:List Pss->Bool
 |a::b::r=>!decide (zI2 b a)&&zOT (b::r)
 |_=>true
def zMq:∀{l:List Pss},zOT l=true->zN1 l
 |[],_=>fun i h=>by simp at h
 |[_],_=>fun i h=>by simp at h
 |a::b::r,h=>by
  simp only[zOT,jk,qm,decide_eq_false_iff_not]at h;intro i hi;cases i with
  |zero=>exact h.1
  |succ i=>exact zMq h.2 i (by simpa using hi)
def zTx(m:zD)(C:List Int->Bool):Bool:=(List.range 4).all fun x=>C [(x:Int)]&&(zS m x).all fun y=>C [(x:Int),y]
def zQa(k:Nat)(hk:k<7)(lim r o1 o2 o3 v:Int)(ws:List zCP):zTx (zq k lim r o1 o2 o3 v ws) (fun l=>zOT (zKh (zq k lim r o1 o2 o3 v ws) (zsP k r) 0 l))=true:=match k,hk with
 |0,_=>by kernel_rfl
 |1,_=>by kernel_rfl
 |2,_=>by kernel_rfl
 |3,_=>by kernel_rfl
 |4,_=>by kernel_rfl
 |5,_=>by kernel_rfl
 |6,_=>by kernel_rfl
def zTp{m:zD}(hs:zmX m){C:List Int->Bool}(ui:zTx m C=true){l:List Int}(hr:zdA m l=0):C l=true:=by
 have hl:=zlP hs hr;have few:=hs.few;have ui:=jw.1 ui
 match l,hl,hr with
 |[],_,hr=>cases hr
 |[x],_,hr =>
  simp only[zdA]at hr;split at hr
  ·cases hr
  split at hr
  ·cases hr
  split at hr
  ·cases hr
  rename_i h2 h3;obtain⟨n,rfl⟩:=jA (show 0<=x by omega);have:=ui n (uF.2 wA);rw[jk]at this;exact this.1
 |[x,y],_,hr =>
  simp only[zdA]at hr;split at hr
  ·cases hr
  split at hr
  ·cases hr
  split at hr
  ·cases hr
  rename_i h2 h3;split at hr
  ·cases hr
  split at hr
  ·rename_i hg;obtain⟨n,rfl⟩:=jA (show 0<=x by omega);have:=ui n (uF.2 wA);rw[jk]at this;simp only[goF,jk,decide_eq_true_eq]at hg;exact jw.1 this.2 y hg.1
  ·cases hr
def zOQ(k:Nat)(hk:k<7)(r:Int):(zsP k r).length<=2/\∀q∈zsP k r,q.parts.length<=4:=by
 match k,hk with
 |0,_ |1,_ |2,_ |3,_ |4,_ |5,_ |6,_=>simp[zsP]
def zTs(k:Nat)(hk:k<7){lim r o1 o2 o3 v:Int}{ws:List zCP}(nu:zp2 k lim r o1 o2 o3 v ws):zKj (zq k lim r o1 o2 o3 v ws) (zsP k r) (ssP k r o1 o2 o3):=by
 have hf:=zCE k hk nu;obtain⟨z1,z2⟩:=zOQ k hk r;refine⟨hf,zE9 k hk _ _ _ _ _ _ _,?_,z1,zQg k hk lim r o1 o2 o3 v ws nu.r,fun l hr=>zMq (zTp hf.yn (zQa k hk lim r o1 o2 o3 v ws) hr),fun l hr=>?_⟩
 ·have:=nu.wl;show ws.length<=1000;omega
 ·have:=zOu hf z1 z2 hr;omega
set_option maxRecDepth 10000
open Go Go.Eng
structure Vis where
 qe:Int
 entry:Int
 first:Pss
 last:Pss
abbrev zKw:Pss:=⟨0,0,0,0⟩
def zJ1(v:Vis):List Cl:=[I v.qe,I v.entry,I v.first.qe,I v.first.part,I v.first.lo,I v.first.hi,I v.last.qe,I v.last.part,I v.last.lo,I v.last.hi]
def zKt(l:List Vis):List (List Cl):=l.map zJ1
@[simp] def zJZ(l:List Vis):(zKt l).length=l.length:=by simp[zKt]
@[simp] def zP7:zKt []=[]:=rfl
@[simp] def zPS(x:Vis)(l:List Vis):zKt (x::l)=zJ1 x::zKt l:=rfl
@[simp] def zP8(l k:List Vis):zKt (l++k)=zKt l++zKt k:=by simp[zKt]
@[simp] def zPR(l:List Vis):(zKt l).take l.length=zKt l:=jx wD
@[simp] def zPo{l:List Vis}{i:Nat}(h:i<(zKt l).length):(zKt l)[i]=zJ1 (l[i]'(by simpa using h)):=by simp[zKt]
@[simp] def zNp(v:Vis):(zJ1 v).length=10:=rfl
def zJ5(z:Int)(v:Vis)(p:Pss):Vis:=if p.qe=z then(if v.entry<0 then⟨v.qe,p.part,p,p⟩ else⟨v.qe,v.entry,v.first,p⟩) else v
def zKn(ps:List Pss)(z:Int):Vis:=ps.foldl (zJ5 z) ⟨z,-1,zKw,zKw⟩
def zKE(ps:List Pss):Nat->Nat->List Vis
 |_,0=>[]
 |z,n+1=>if 0<=(zKn ps z).entry then zKn ps z::zKE ps (z+1) n else zKE ps (z+1) n
abbrev jC(m:zD)(r:List Int)(len:Int)(ps:List Pss)(VS:Cl)(was now:List Cl)(SW:Cl):List Cl:=zh m r len++[.jb (zKd ps),VS]++was++now++[SW]
abbrev njE(ps:List Pss)(nz z:Nat)(id:Nat)(i:Nat):Env:=[(34,.w (W i)),(33,.w (W ps.length)),(7,.w (Pt 1)),(23,.w (W nz)),(24,.w (W z)),(32,.w (.c (.jb (zKd ps)))),(8,.w (W z)),(9,.w (Pt id))]
abbrev njM(m:zD)(r:List Int)(len:Int)(ps:List Pss)(u:Nat)(VS:Cl):Mem:=[bx 5 (zf m),bxv u 26 (jC m r len ps VS zox zox .jc)]
def nj1(m:zD)(r:List Int)(len:Int)(ps:List Pss)(hp:ps.length<=1000)(nz z:Nat):∀(t:List Pss) (i:Nat) (v:Vis) (w:Nat),ps.drop i=t->i<=ps.length->∃w',w<=w' /\
  Y L Cs zH8 (some [34,33,7,23,24,32,8,9]) 3 (njE ps nz z 2 i) (njM m r len ps 0 .jc++[bxv w 10 (zJ1 v)]) =
    some (.exit 2,(35,.w (Bo false))::njE ps nz z 2 ps.length,njM m r len ps 0 .jc++[bxv w' 10 (zJ1 (t.foldl (zJ5 z) v))]):=by
 intro t;induction t with
 |nil =>
  intro i v w hd hi;obtain rfl:=zUb hd hi;refine⟨w,jm _,?_⟩;rw[ZfM zH8.eq_1];simp
 |cons p t ih =>
  intro i v w hd hi;obtain⟨hil,hx,hd'⟩:=zL hd;have hw:=zB (i:=i) wA;rw[j8];by_cases c:p.qe=z
  ·have cb:(p.qe !=(z:Int))=false:=by simp[c]
   by_cases d:v.entry<0
   ·have e:zJ5 z v p=⟨v.qe,p.part,p,p⟩:=by simp[zJ5,c,d]
    obtain⟨w',h1,h⟩:=ih (i+1) ⟨v.qe,p.part,p,p⟩ (w+3) hd' hil;refine⟨w',wA,?_⟩;rw[e,<-h,ZfM zH8.eq_1];clear h ih;simp[njE,njM,jC,zox,zh,zi,zf,zJ1,zKF,hil,hx,hw,c,cb,d,zg,zH]
   ·have e:zJ5 z v p=⟨v.qe,v.entry,v.first,p⟩:=by simp[zJ5,c,d]
    obtain⟨w',h1,h⟩:=ih (i+1) ⟨v.qe,v.entry,v.first,p⟩ (w+1) hd' hil;refine⟨w',wA,?_⟩;rw[e,<-h,ZfM zH8.eq_1];clear h ih;simp[njE,njM,jC,zox,zh,zi,zf,zJ1,zKF,hil,hx,hw,c,cb,d,zg,zH]
  ·have cb:(p.qe !=(z:Int))=true:=by simp[c]
   have e:zJ5 z v p=v:=by simp[zJ5,c]
   obtain⟨w',h1,h⟩:=ih (i+1) v w hd' hil;refine⟨w',wA,?_⟩;rw[e,<-h,ZfM zH8.eq_1];simp[njE,njM,jC,zox,zh,zi,zf,zJ1,zKF,hil,hx,hw,c,cb,zg,zH]
abbrev zLG(v:Vis):Option Blk:=some { box:=false,esz:=10,rows:=[zJ1 v],gen:=1,fz:=false,ver:=1 }
abbrev zKV(m:zD)(r:List Int)(len:Int)(ps:List Pss)(v0:Vis)(w0:Nat):Mem:=[bx 5 (zf m),bxv 1 26 (jC m r len ps (.slice 4 1 10 0 1 none) zox zox .jc),bxv w0 10 (zJ1 v0),zLG v0,some (own 10 [zJ1 v0])]
abbrev zMw(m:zD)(r:List Int)(len:Int)(ps:List Pss)(v0 v1:Vis)(w0 w1:Nat):Mem:=[bx 5 (zf m),bxv 2 26 (jC m r len ps (.slice 4 2 10 0 2 none) zox zox .jc),bxv w0 10 (zJ1 v0),zLG v0,some (own 10 [zJ1 v0,zJ1 v1]),bxv w1 10 (zJ1 v1),zLG v1]
def nj1b(m:zD)(r:List Int)(len:Int)(v0:Vis)(w0:Nat)(ps:List Pss)(hp:ps.length<=1000)(nz z:Nat):∀(t:List Pss) (i:Nat) (v:Vis) (w:Nat),ps.drop i=t->i<=ps.length->∃w',w<=w' /\
  Y L Cs zH8 (some [34,33,7,23,24,32,8,9]) 6 (njE ps nz z 5 i) (zKV m r len ps v0 w0++[bxv w 10 (zJ1 v)]) =
    some (.exit 2,(35,.w (Bo false))::njE ps nz z 5 ps.length,zKV m r len ps v0 w0++[bxv w' 10 (zJ1 (t.foldl (zJ5 z) v))]):=by
 intro t;induction t with
 |nil =>
  intro i v w hd hi;obtain rfl:=zUb hd hi;refine⟨w,jm _,?_⟩;rw[ZfM zH8.eq_1];simp
 |cons p t ih =>
  intro i v w hd hi;obtain⟨hil,hx,hd'⟩:=zL hd;have hw:=zB (i:=i) wA;rw[j8];by_cases c:p.qe=z
  ·have cb:(p.qe !=(z:Int))=false:=by simp[c]
   by_cases d:v.entry<0
   ·have e:zJ5 z v p=⟨v.qe,p.part,p,p⟩:=by simp[zJ5,c,d]
    obtain⟨w',h1,h⟩:=ih (i+1) ⟨v.qe,p.part,p,p⟩ (w+3) hd' hil;refine⟨w',wA,?_⟩;rw[e,<-h,ZfM zH8.eq_1];clear h ih;simp[njE,zKV,own,jC,zox,zh,zi,zf,zJ1,zKF,hil,hx,hw,c,cb,d,zg,zH]
   ·have e:zJ5 z v p=⟨v.qe,v.entry,v.first,p⟩:=by simp[zJ5,c,d]
    obtain⟨w',h1,h⟩:=ih (i+1) ⟨v.qe,v.entry,v.first,p⟩ (w+1) hd' hil;refine⟨w',wA,?_⟩;rw[e,<-h,ZfM zH8.eq_1];simp[njE,zKV,own,jC,zox,zh,zi,zf,zJ1,zKF,hil,hx,hw,c,cb,d,zg,zH]
  ·have cb:(p.qe !=(z:Int))=true:=by simp[c]
   have e:zJ5 z v p=v:=by simp[zJ5,c]
   obtain⟨w',h1,h⟩:=ih (i+1) v w hd' hil;refine⟨w',wA,?_⟩;rw[e,<-h,ZfM zH8.eq_1];simp[njE,zKV,own,jC,zox,zh,zi,zf,zJ1,zKF,hil,hx,hw,c,cb,zg,zH]
abbrev zLk(nz z:Nat):Env:=[(23,.w (W nz)),(7,.w (Pt 1)),(24,.w (W z))]
def nj2a(m:zD)(r:List Int)(len:Int)(ps:List Pss)(hp:ps.length<=1000)(nz z:Nat)(hz:z<nz)(hn:nz<=10):∃w,
  Y L Cs zH7 (some [23,7,24]) 2 (zLk nz z) (njM m r len ps 0 .jc) =
    if 0<=(zKn ps z).entry then Y L Cs zH7 (some [23,7,24]) 2 (zLk nz (z+1)) (zKV m r len ps (zKn ps z) w) else Y L Cs zH7 (some [23,7,24]) 2 (zLk nz (z+1)) (njM m r len ps 0 .jc):=by
 have hw:=zB (i:=z) wA;have hzi:(z:Int)<nz:=wA
 obtain⟨w',_,h⟩:=nj1 m r len ps hp nz z ps 0 ⟨z,-1,zKw,zKw⟩ 1 rfl (jr _);refine⟨w',?_⟩;rw[show ps.foldl (zJ5 z) ⟨z,-1,zKw,zKw⟩=zKn ps z from rfl]at h;generalize zKn ps z=v at *;simp only[njE,njM,jC,zox,zh,zi,zf,zJ1,jh,je,jg]at h;by_cases c:0<=v.entry
 ·rw[if_pos c,ZfM zH7.eq_1];simp (maxSteps:=1000000) [zLk,njM,zKV,zLG,own,jC,zox,zh,zi,zf,zJ1,hzi,hz,hw,h,c,zg,zH]
 ·rw[if_neg c,ZfM zH7.eq_1];simp (maxSteps:=1000000) [zLk,njM,zKV,zLG,own,jC,zox,zh,zi,zf,zJ1,hzi,hz,hw,h,c,zg,zH]
def nj2b(m:zD)(r:List Int)(len:Int)(ps:List Pss)(v0:Vis)(w0:Nat)(hp:ps.length<=1000)(nz z:Nat)(hz:z<nz)(hn:nz<=10):∃w,
  Y L Cs zH7 (some [23,7,24]) 2 (zLk nz z) (zKV m r len ps v0 w0) =
    if 0<=(zKn ps z).entry then Y L Cs zH7 (some [23,7,24]) 2 (zLk nz (z+1)) (zMw m r len ps v0 (zKn ps z) w0 w) else Y L Cs zH7 (some [23,7,24]) 2 (zLk nz (z+1)) (zKV m r len ps v0 w0++[bxv w 10 (zJ1 (zKn ps z))]):=by
 have hw:=zB (i:=z) wA;have hzi:(z:Int)<nz:=wA
 obtain⟨w',_,h⟩:=nj1b m r len v0 w0 ps hp nz z ps 0 ⟨z,-1,zKw,zKw⟩ 1 rfl (jr _);refine⟨w',?_⟩;rw[show ps.foldl (zJ5 z) ⟨z,-1,zKw,zKw⟩=zKn ps z from rfl]at h;generalize zKn ps z=v at *;simp only[njE,zKV,zLG,own,jC,zox,zh,zi,zf,zJ1,jh,je,jg,jl,jp]at h;by_cases c:0<=v.entry
 ·rw[if_pos c,ZfM zH7.eq_1];simp (maxSteps:=1000000) [zLk,zMw,zKV,zLG,own,jC,zox,zh,zi,zf,zJ1,hzi,hz,hw,h,c,zg,zH]
 ·rw[if_neg c,ZfM zH7.eq_1];simp (maxSteps:=1000000) [zLk,zMw,zKV,zLG,own,jC,zox,zh,zi,zf,zJ1,hzi,hz,hw,h,c,zg,zH]
abbrev zJ3(m:zD)(r:List Int)(len:Int)(ps:List Pss)(vs:List Vis)(u:Nat)(was now:List Cl)(SW:Cl):Mem :=
 if vs=[] then [bxv u 26 (jC m r len ps .jc was now SW)] else [bxv u 26 (jC m r len ps (.slice 1 vs.length 10 0 vs.length none) was now SW),some (own 10 (zKt vs))]
def zLF(nz:Nat)(M:Mem):Y L Cs zH7 (some [23,7,24]) 2 (zLk nz nz) M=some (.exit 0,[(25,.w (Bo false)),(7,.w (Pt 1)),(23,.w (W nz)),(24,.w (W nz))],M):=by
 simp[ZfM,zH7.eq_1]
def zMM{m:zD}{zs:List Zon}{ss:List Sgn}(hF:zKj m zs ss){r:List Int}(hr:zdA m r=0)(len:Int) :
  ∃u,R L Cs zMn [.a (zf m),.c (.jb (zu r)),W len] []=some (.w (.c (.ptr 0 0 0 0)),zJ3 m r len (zKh m zs 0 r) (zKE (zKh m zs 0 r) 0 zs.length) u zox zox .jc):=by
 have hf:=hF.full;have hz:=hF.two;have hA:=zB9 hf.qO hr len;have hP:=zPm hf hr (hF.srt r hr) (hF.few r hr);have hp:=hF.few r hr;have hzz:=hf.zd.z;generalize zKh m zs 0 r=ps at *;rw[zUa zMp rfl];have n2:((2:Nat):Int)=2:=rfl
 match zs,hz,hzz with
 |[],_,hzz =>
  refine⟨0,?_⟩;have AO:m.qR=[]:=hzz;have h:=zLF 0 (njM m r len ps 0 .jc);rw[show zKE ps 0 ([]:List Zon).length=[] from rfl];simp only[zLk,njM,zKV,zMw,zLG,own,jC,zox,zh,zi,zf,zJ1,AO,jh,je,jl,jp,jg,kg,n2]at h hA hP;simp (maxSteps:=1000000) [zID,zJ3,jC,zox,zf,zh,zi,hA,hP,AO,h,zJ1,own,zg,zX]
 |[z0],_,hzz =>
  have AO:m.qR=[zdP z0]:=hzz;obtain⟨w,h1⟩:=nj2a m r len ps wA 1 0 wA wA;rw[show [z0].length=1 from rfl];by_cases c:0<=(zKn ps 0).entry
  ·refine⟨1,?_⟩;have e:=zLF 1 (zKV m r len ps (zKn ps 0) w);simp only[jg,c,if_true]at h1;rw[e]at h1;have hv:zKE ps 0 1=[zKn ps 0]:=by simp[zKE,c]
   rw[hv];clear hv e;generalize zKn ps 0=v at *;simp only[zLk,njM,zKV,zMw,zLG,own,jC,zox,zh,zi,zf,zJ1,AO,jh,je,jl,jp,jg,kg,n2]at h1 hA hP;simp (maxSteps:=1000000) [zID,zJ3,jC,zox,zf,zh,zi,hA,hP,AO,h1,zJ1,own,zg,zX]
  ·refine⟨0,?_⟩;have e:=zLF 1 (njM m r len ps 0 .jc);simp only[jg,c,if_false]at h1;rw[e]at h1;have hv:zKE ps 0 1=[]:=by simp[zKE,c]
   rw[hv];clear hv e;simp only[zLk,njM,zKV,zMw,zLG,own,jC,zox,zh,zi,zf,zJ1,AO,jh,je,jl,jp,jg,kg,n2]at h1 hA hP;simp (maxSteps:=1000000) [zID,zJ3,jC,zox,zf,zh,zi,hA,hP,AO,h1,zJ1,own,zg,zX]
 |[z0,z1],_,hzz =>
  have AO:m.qR=[zdP z0,zdP z1]:=hzz;obtain⟨w,h1⟩:=nj2a m r len ps wA 2 0 wA wA;rw[show [z0,z1].length=2 from rfl];by_cases c:0<=(zKn ps 0).entry
  ·simp only[jg,c,if_true]at h1;obtain⟨w2,h2⟩:=nj2b m r len ps (zKn ps 0) w wA 2 1 wA wA;by_cases d:0<=(zKn ps 1).entry
   ·refine⟨2,?_⟩;have e:=zLF 2 (zMw m r len ps (zKn ps 0) (zKn ps 1) w w2);simp only[kg,d,if_true]at h2;rw[h2,e]at h1;have hv:zKE ps 0 2=[zKn ps 0,zKn ps 1]:=by simp[zKE,c,d]
    rw[hv];clear hv e h2;generalize zKn ps 0=v at *;generalize zKn ps 1=v1 at *;simp only[zLk,njM,zKV,zMw,zLG,own,jC,zox,zh,zi,zf,zJ1,AO,jh,je,jl,jp,jg,kg,n2]at h1 hA hP;simp (maxSteps:=1000000) [zID,zJ3,jC,zox,zf,zh,zi,hA,hP,AO,h1,zJ1,own,zg,zX]
   ·refine⟨1,?_⟩;have e:=zLF 2 (zKV m r len ps (zKn ps 0) w++[bxv w2 10 (zJ1 (zKn ps 1))]);simp only[kg,d,if_false]at h2;rw[h2,e]at h1;have hv:zKE ps 0 2=[zKn ps 0]:=by simp[zKE,c,d]
    rw[hv];clear hv e h2;generalize zKn ps 0=v at *;generalize zKn ps 1=v1 at *;simp only[zLk,njM,zKV,zMw,zLG,own,jC,zox,zh,zi,zf,zJ1,AO,jh,je,jl,jp,jg,kg,n2]at h1 hA hP;simp (maxSteps:=1000000) [zID,zJ3,jC,zox,zf,zh,zi,hA,hP,AO,h1,zJ1,own,zg,zX]
  ·simp only[jg,c,if_false]at h1;obtain⟨w2,h2⟩:=nj2a m r len ps wA 2 1 wA wA;by_cases d:0<=(zKn ps 1).entry
   ·refine⟨1,?_⟩;have e:=zLF 2 (zKV m r len ps (zKn ps 1) w2);simp only[kg,d,if_true]at h2;rw[h2,e]at h1;have hv:zKE ps 0 2=[zKn ps 1]:=by simp[zKE,c,d]
    rw[hv];clear hv e h2;generalize zKn ps 1=v1 at *;simp only[zLk,njM,zKV,zMw,zLG,own,jC,zox,zh,zi,zf,zJ1,AO,jh,je,jl,jp,jg,kg,n2]at h1 hA hP;simp (maxSteps:=1000000) [zID,zJ3,jC,zox,zf,zh,zi,hA,hP,AO,h1,zJ1,own,zg,zX]
   ·refine⟨0,?_⟩;have e:=zLF 2 (njM m r len ps 0 .jc);simp only[kg,d,if_false]at h2;rw[h2,e]at h1;have hv:zKE ps 0 2=[]:=by simp[zKE,c,d]
    rw[hv];clear hv e h2;simp only[zLk,njM,zKV,zMw,zLG,own,jC,zox,zh,zi,zf,zJ1,AO,jh,je,jl,jp,jg,kg,n2]at h1 hA hP;simp (maxSteps:=1000000) [zID,zJ3,jC,zox,zf,zh,zi,hA,hP,AO,h1,zJ1,own,zg,zX]
@[simp] def zOb(p:Swp):(swC p).length=4:=rfl
def zO6(l:List Pss)(hl:l.length<=100000000000)(fnv:Cl)(f:Pss->Bool)(M:Mem)(hc:∀p∈l,zx (R L Cs) ⟨true⟩ (.c fnv) [.a (zKF p)] M=some (.w (Bo (f p)),M,.no)) :
  ∃k:Int,R L Cs zLd [.c (.jb (zKd l)),.c fnv] M=some (.w (W k),M)/\(decide (0<=k)=l.any f):=by
 have htk:∀p:Pss,List.take (zKF p).length (zKF p)=zKF p:=fun p=>kC
 have h:=zxf (L:=L) (Cs:=Cs) (b:=zHw) (live:=some [7,1,0,8]) (n0:=M.length) l (fun i=>[(7,.w (W l.length)),(1,.w (.c fnv)),(0,.w (.c (.jb (zKd l)))),(8,.w (W i))]) M f (fun i=>(.ret,[(4,.w (W i))],M)) (.exit 0,[(9,.w (Bo false)),(0,.w (.c (.jb (zKd l)))),(1,.w (.c fnv)),(7,.w (W l.length)),(8,.w (W l.length))],M) ?_ ?_ ?_
 ·cases hq:l.findIdx? f with
  |none =>
   rw[hq]at h;refine⟨-1,?_,?_⟩
   ·simp only[jg]at h;rw[zUa zKB rfl];simp[zHI,h]
   ·have:l.any f=false:=by simpa using hq
    rw[this];decide
  |some k =>
   rw[hq]at h;refine⟨k,?_,?_⟩
   ·simp only[jg]at h;rw[zUa zKB rfl];simp[zHI,h]
   ·obtain⟨h1,h2,_⟩:=j6.1 hq;have:l.any f=true:=kN.2 ⟨_,jf h1,h2⟩;rw[this];simp
 ·intro i hi hp;have hw:=zB (i:=i) wA;have hcc:=hc l[i] (jf hi);have ht:=htk l[i];simp only[zNu]at ht;rw[hp]at hcc;rw[ZfM zHw.eq_1];simp[hi,hw,hcc,ht,-zx]
 ·intro i hi hp;have hcc:=hc l[i] (jf hi);have ht:=htk l[i];simp only[zNu]at ht;rw[hp]at hcc;rw[ZfM zHw.eq_1];simp[hi,hcc,ht,-zx]
 ·rw[ZfM zHw.eq_1];simp
def zOz(l:List Swp)(hl:l.length<=100000000000)(fnv:Cl)(f:Swp->Bool)(M:Mem)(hc:∀p∈l,zx (R L Cs) ⟨true⟩ (.c fnv) [.a (swC p)] M=some (.w (Bo (f p)),M,.no)) :
  ∃k:Int,R L Cs zLa [.c (.jb (zbf l)),.c fnv] M=some (.w (W k),M)/\(decide (0<=k)=l.any f):=by
 have htk:∀p:Swp,List.take (swC p).length (swC p)=swC p:=fun p=>kC
 have h:=zxf (L:=L) (Cs:=Cs) (b:=zHr) (live:=some [7,1,0,8]) (n0:=M.length) l (fun i=>[(7,.w (W l.length)),(1,.w (.c fnv)),(0,.w (.c (.jb (zbf l)))),(8,.w (W i))]) M f (fun i=>(.ret,[(4,.w (W i))],M)) (.exit 0,[(9,.w (Bo false)),(0,.w (.c (.jb (zbf l)))),(1,.w (.c fnv)),(7,.w (W l.length)),(8,.w (W l.length))],M) ?_ ?_ ?_
 ·cases hq:l.findIdx? f with
  |none =>
   rw[hq]at h;refine⟨-1,?_,?_⟩
   ·simp only[jg]at h;rw[zUa zKy rfl];simp[zHG,h]
   ·have:l.any f=false:=by simpa using hq
    rw[this];decide
  |some k =>
   rw[hq]at h;refine⟨k,?_,?_⟩
   ·simp only[jg]at h;rw[zUa zKy rfl];simp[zHG,h]
   ·obtain⟨h1,h2,_⟩:=j6.1 hq;have:l.any f=true:=kN.2 ⟨_,jf h1,h2⟩;rw[this];simp
 ·intro i hi hp;have hw:=zB (i:=i) wA;have hcc:=hc l[i] (jf hi);have ht:=htk l[i];simp only[zOb]at ht;rw[hp]at hcc;rw[ZfM zHr.eq_1];simp[hi,hw,hcc,ht,-zx]
 ·intro i hi hp;have hcc:=hc l[i] (jf hi);have ht:=htk l[i];simp only[zOb]at ht;rw[hp]at hcc;rw[ZfM zHr.eq_1];simp[hi,hcc,ht,-zx]
 ·rw[ZfM zHr.eq_1];simp
def zOy(l:List Vis)(hl:l.length<=100000000000)(fnv:Cl)(f:Vis->Bool)(M:Mem)(hc:∀p∈l,zx (R L Cs) ⟨true⟩ (.c fnv) [.a (zJ1 p)] M=some (.w (Bo (f p)),M,.no)) :
  ∃k:Int,R L Cs zKm [.c (.jb (zKt l)),.c fnv] M=some (.w (W k),M)/\(decide (0<=k)=l.any f):=by
 have htk:∀p:Vis,List.take (zJ1 p).length (zJ1 p)=zJ1 p:=fun p=>kC
 have h:=zxf (L:=L) (Cs:=Cs) (b:=zHq) (live:=some [7,1,0,8]) (n0:=M.length) l (fun i=>[(7,.w (W l.length)),(1,.w (.c fnv)),(0,.w (.c (.jb (zKt l)))),(8,.w (W i))]) M f (fun i=>(.ret,[(4,.w (W i))],M)) (.exit 0,[(9,.w (Bo false)),(0,.w (.c (.jb (zKt l)))),(1,.w (.c fnv)),(7,.w (W l.length)),(8,.w (W l.length))],M) ?_ ?_ ?_
 ·cases hq:l.findIdx? f with
  |none =>
   rw[hq]at h;refine⟨-1,?_,?_⟩
   ·simp only[jg]at h;rw[zUa zKb rfl];simp[zHF,h]
   ·have:l.any f=false:=by simpa using hq
    rw[this];decide
  |some k =>
   rw[hq]at h;refine⟨k,?_,?_⟩
   ·simp only[jg]at h;rw[zUa zKb rfl];simp[zHF,h]
   ·obtain⟨h1,h2,_⟩:=j6.1 hq;have:l.any f=true:=kN.2 ⟨_,jf h1,h2⟩;rw[this];simp
 ·intro i hi hp;have hw:=zB (i:=i) wA;have hcc:=hc l[i] (jf hi);have ht:=htk l[i];simp only[zNp]at ht;rw[hp]at hcc;rw[ZfM zHq.eq_1];simp[hi,hw,hcc,ht,-zx]
 ·intro i hi hp;have hcc:=hc l[i] (jf hi);have ht:=htk l[i];simp only[zNp]at ht;rw[hp]at hcc;rw[ZfM zHq.eq_1];simp[hi,hcc,ht,-zx]
 ·rw[ZfM zHq.eq_1];simp
abbrev juM(m:zD)(r:List Int)(len:Int)(ps:List Pss)(vs:List Vis)(u:Nat)(was now:zci)(sw:List Swp):Mem:=zJ3 m r len ps vs u (zG was) (zG now) (.jb (zbf sw))
abbrev J0:WV:=.c (.ptr 0 0 0 0)
def onW(m:zD)(r:List Int)(now:zci):Int:=if zmd m 0 r<now.ego.shi then 3 else 0
def zNc(m:zD)(r:List Int)(len:Int)(ps:List Pss)(vs:List Vis)(u:Nat)(was now:zci)(sw:List Swp) :
  R L Cs zJ6 [J0] (juM m r len ps vs u was now sw)=some (.w (W (onW m r now)),juM m r len ps vs u was now sw):=by
 rw[zUa zLu rfl];unfold onW;by_cases hv:vs=[]<;>by_cases c:zmd m 0 r<now.ego.shi<;>simp[zHV,juM,zJ3,hv,jC,zh,zi,zf,zG,c,zg,zH,own]
def zMt(m:zD)(r:List Int)(now:zci):Int:=if max (zNU m now.ego.slo now.ego.shi now.tick 0 (-1) r) 0<now.ego.vhi then 2 else 0
def zPf{m:zD}(h:zcp m)(hwk:m.kT.length<=1000)(r:List Int)(hl:r.length<=1000)(hon:zj2 m r)(len:Int)(ps:List Pss)(vs:List Vis)(u:Nat)(was now:zci)(hn:0<=now.ego.slo/\now.ego.slo<=10000000000/\0<=now.ego.shi/\now.ego.shi<=10000000000)(sw:List Swp) :
  R L Cs zKc [J0] (juM m r len ps vs u was now sw)=some (.w (W (zMt m r now)),juM m r len ps vs u was now sw):=by
 have hL:=zPh h hwk r hl hon len now.ego.slo now.ego.shi now.tick wA wA;rw[zUa zL2 rfl];unfold zMt;generalize max (zNU m now.ego.slo now.ego.shi now.tick 0 (-1) r) 0=q at *;simp only[zh,zi,jh,je]at hL;by_cases hv:vs=[]<;>by_cases c:q<now.ego.vhi<;>simp[zIk,juM,zJ3,hv,jC,zh,zi,zf,zG,hL,c,zg,zH,own]
structure zPI(m:zD)(s:Swp):Prop where
 lane:0<=s.lane/\s.lane<m.jd.length
 lo:0<=s.lo/\s.lo<=1000000
 hi:0<=s.hi/\s.hi<=1000000
def apP(m:zD)(r:List Int)(shi:Int)(s:Swp):Bool:=match zgo r s.lane with
 |some i=>!s.cap&&decide (kM m r i+s.lo<=shi)
 |none=>false
def zMF(m:zD)(r:List Int)(now:zci)(sw:List Swp):Int:=if now.ego.vhi=0 then 0 else if sw.any (apP m r now.ego.shi) then 4 else 0
abbrev apE(sw:List Swp)(i:Nat):Env:=[(17,.w (W sw.length)),(16,.w (.c (.jb (zbf sw)))),(0,.w J0),(18,.w (W i))]
def zNY{m:zD}(h:zcp m)(r:List Int)(hl:r.length<=8)(hon:zj2 m r)(len:Int)(ps:List Pss)(vs:List Vis)(u:Nat)(was now:zci)(sw:List Swp)(hs:sw.length<=100000000000)(hok:∀s∈sw,zPI m s)(n0:Nat)(hn0:n0=(juM m r len ps vs u was now sw).length) :
  (sw.any (apP m r now.ego.shi)=true->∃s,Y L Cs zHR (some [17,16,0,18]) n0 (apE sw 0) (juM m r len ps vs u was now sw)=some (.ret,[(2,.w (W 4))],juM m r len ps vs u was now sw++[bxv 1 4 (swC s)])) /\
  (sw.any (apP m r now.ego.shi)=false->Y L Cs zHR (some [17,16,0,18]) n0 (apE sw 0) (juM m r len ps vs u was now sw)=some (.exit 0,[(19,.w (Bo false)),(0,.w J0),(16,.w (.c (.jb (zbf sw)))),(17,.w (W sw.length)),(18,.w (W sw.length))],juM m r len ps vs u was now sw)):=by
 subst hn0;have hly:ziO m r 0:=⟨h,hl,hon,wA⟩;have key:=zxf (L:=L) (Cs:=Cs) (b:=zHR) (live:=some [17,16,0,18]) (n0:=(juM m r len ps vs u was now sw).length) sw (fun i=>apE sw i) (juM m r len ps vs u was now sw) (apP m r now.ego.shi) (fun i=>(.ret,[(2,.w (W 4))],juM m r len ps vs u was now sw++[bxv 1 4 (swC (sw.getD i zpa))])) (.exit 0,[(19,.w (Bo false)),(0,.w J0),(16,.w (.c (.jb (zbf sw)))),(17,.w (W sw.length)),(18,.w (W sw.length))],juM m r len ps vs u was now sw) ?_ ?_ ?_
 ·rw[key];cases hq:sw.findIdx? (apP m r now.ego.shi)with
  |none =>
   rw[qM]at hq;have:sw.any (apP m r now.ego.shi)=false:=by simpa using hq
   rw[this];exact⟨fun h=>(by cases h),fun _=>rfl⟩
  |some k =>
   obtain⟨h1,h2,_⟩:=j6.1 hq;have:sw.any (apP m r now.ego.shi)=true:=kN.2 ⟨_,jf h1,h2⟩;rw[this];exact⟨fun _=>⟨_,rfl⟩,fun h=>(by cases h)⟩
 ·intro i hi hp;have hw:=zB (i:=i) wA;have hx:=zoq r sw[i].lane wA;have hso:=hok sw[i] (jf hi);generalize hsi:sw[i]=s at *;unfold apP at hp;rw[ZfM zHR.eq_1];cases hL:zgo r s.lane with
  |none =>
   rw[hL]at hx;simp only[zbe]at hx;by_cases hv:vs=[]<;>simp[apE,juM,zJ3,hv,jC,zh,zi,zf,zG,swC,hi,hsi,hw,hx,zg,zH,own]
  |some j =>
   obtain⟨hjl,_⟩:=zfT hL;have hsl:j<(zW m 0 r).length:=by rw[zcO];exact hjl
   have hst:(zW m 0 r)[j]=kM m r j:=by simp[kM,hsl]
   have hsb:=zmA hly hjl;have hlo:=hso.lo;have w2:=qB (kM m r j+s.lo);have hj0:(0:Int)<=(j:Int):=wA
   rw[hL]at hx hp;simp only[zbe]at hx;cases hc:s.cap with
   |true=>by_cases hv:vs=[]<;>simp[apE,juM,zJ3,hv,jC,zh,zi,zf,zG,swC,hi,hsi,hw,hx,hc,hj0,zg,zH,own]
   |false =>
    simp only[hc,Bool.not_false,uw,decide_eq_false_iff_not]at hp;by_cases hv:vs=[]<;>simp[apE,juM,zJ3,hv,jC,zh,zi,zf,zG,swC,hi,hsi,hw,hx,hc,hj0,hsl,hst,w2,hp,zg,zH,own]
 ·intro i hi hp;have hx:=zoq r sw[i].lane wA;have hso:=hok sw[i] (jf hi);have hgd:sw.getD i zpa=sw[i]:=by simp[jG,hi]
  rw[hgd];clear hgd;generalize hsi:sw[i]=s at *;unfold apP at hp;rw[ZfM zHR.eq_1];cases hL:zgo r s.lane with
  |none=>rw[hL]at hp;cases hp
  |some j =>
   obtain⟨hjl,_⟩:=zfT hL;have hsl:j<(zW m 0 r).length:=by rw[zcO];exact hjl
   have hst:(zW m 0 r)[j]=kM m r j:=by simp[kM,hsl]
   have hsb:=zmA hly hjl;have hlo:=hso.lo;have w2:=qB (kM m r j+s.lo);have hj0:(0:Int)<=(j:Int):=wA
   rw[hL]at hx hp;simp only[zbe]at hx;simp only[jk,qm,decide_eq_true_eq]at hp;by_cases hv:vs=[]<;>simp[apE,juM,zJ3,hv,jC,zh,zi,zf,zG,swC,hi,hsi,hx,hp.1,hj0,hsl,hst,w2,hp.2,zg,zH,own]
 ·rw[ZfM zHR.eq_1];by_cases hv:vs=[]<;>simp[apE,juM,zJ3,hv]
def zOh{m:zD}(h:zcp m)(r:List Int)(hl:r.length<=8)(hon:zj2 m r)(len:Int)(ps:List Pss)(vs:List Vis)(u:Nat)(was now:zci)(sw:List Swp)(hs:sw.length<=100000000000)(hok:∀s∈sw,zPI m s) :
  R L Cs zJ9 [J0] (juM m r len ps vs u was now sw)=some (.w (W (zMF m r now sw)),juM m r len ps vs u was now sw):=by
 obtain⟨g1,g2⟩:=zNY h r hl hon len ps vs u was now sw hs hok _ rfl;rw[zUa zLM rfl];unfold zMF;by_cases c:now.ego.vhi=0
 ·have cb:(now.ego.vhi==0)=true:=by simp[c]
  by_cases hv:vs=[]<;>simp[zIa,juM,zJ3,hv,jC,zh,zi,zf,zG,c,cb,zg,zH,own]
 ·have cb:(now.ego.vhi==0)=false:=by simp[c]
  cases hq:sw.any (apP m r now.ego.shi)with
  |true =>
   obtain⟨s,g⟩:=g1 hq;clear g1 g2;by_cases hv:vs=[]
   ·simp only[apE,juM,zJ3,hv,jC,zh,zi,zf,zG,swC,if_true,jh,je,jg,jl,jp]at g;simp[zIa,juM,zJ3,hv,jC,zh,zi,zf,zG,swC,c,cb,g,zg,zH,own]
   ·simp only[apE,juM,zJ3,hv,jC,zh,zi,zf,zG,swC,own,zJZ,if_false,jh,je,jg,jl,jp]at g;simp[zIa,juM,zJ3,hv,jC,zh,zi,zf,zG,swC,c,cb,g,zg,zH,own]
  |false =>
   have g:=g2 hq;clear g1 g2;by_cases hv:vs=[]
   ·simp only[apE,juM,zJ3,hv,jC,zh,zi,zf,zG,if_true,jh,je,jg,jl,jp]at g;simp[zIa,juM,zJ3,hv,jC,zh,zi,zf,zG,c,cb,g,zg,zH,own]
   ·simp only[apE,juM,zJ3,hv,jC,zh,zi,zf,zG,own,zJZ,if_false,jh,je,jg,jl,jp]at g;simp[zIa,juM,zJ3,hv,jC,zh,zi,zf,zG,c,cb,g,zg,zH,own]
def inS(p:Prt)(s:Swp):Bool:=!s.cap&&decide (s.lane=p.lane)&&decide (s.lo<=p.hi)&&decide (p.lo<=s.hi)
def zOH(p:Prt)(s:Swp):R L Cs zKG [.a (swC s),.c (.ptr 0 0 0 0)] [bxv 1 4 (zeB p)]=some (.w (Bo (inS p s)),[bxv 1 4 (zeB p)]):=by
 rw[zUa zLt rfl];unfold inS;cases hc:s.cap with
 |true=>simp[zHU,swC,zeB,hc,zg,zH]
 |false =>
  by_cases c1:s.lane=p.lane
  ·have b1:(s.lane==p.lane)=true:=by simp[c1]
   by_cases c2:s.lo<=p.hi<;>by_cases c3:p.lo<=s.hi<;>simp[zHU,swC,zeB,hc,c1,b1,c2,c3,zg,zH]
  ·have b1:(s.lane==p.lane)=false:=by simp[c1]
   simp[zHU,swC,zeB,hc,c1,b1,zg,zH]
abbrev zPL:Cl:=.fn zKG [] [.ptr 0 0 0 0]
def zNk(p:Prt)(sw:List Swp)(hs:sw.length<=100000000000):R L Cs zKR [.c (.jb (zbf sw)),.c zPL] [bxv 1 4 (zeB p)]=some (.w (Bo (sw.any (inS p))),[bxv 1 4 (zeB p)]):=by
 obtain⟨k,h1,h2⟩:=zOz sw hs zPL (inS p) [bxv 1 4 (zeB p)] (fun s _=>by
  have h:=zOH p s
  simp_all [zeB,swC])
 rw[zUa zKU rfl];simp only[zeB]at h1;simp[zHt,h1,h2,zeB]
def zNK(sw:List Swp)(entry:Int):Nat->List Prt->Bool
 |_,[]=>false
 |i,p::r=>(decide ((i:Int)≠entry)&&sw.any (inS p))||zNK sw entry (i+1) r
abbrev tkM(m:zD)(r:List Int)(len:Int)(ps:List Pss)(vs:List Vis)(u:Nat)(was now:zci)(sw:List Swp)(v:Vis):Mem:=juM m r len ps vs u was now sw++[bx 10 (zJ1 v)]
abbrev tkE(n:Nat)(q:Zon)(i:Nat):Env:=[(19,.w (W q.parts.length)),(18,.w (.c (.jb (zkl q.parts)))),(3,.w (Pt n)),(0,.w J0),(20,.w (W i))]
def zNJ(m:zD)(r:List Int)(len:Int)(ps:List Pss)(vs:List Vis)(u:Nat)(was now:zci)(sw:List Swp)(hs:sw.length<=100000000000)(v:Vis)(q:Zon)(hq:q.parts.length<=6)(n:Nat)(hn:n=(juM m r len ps vs u was now sw).length):∀(t:List Prt) (i:Nat),q.parts.drop i=t->i<=q.parts.length ->
  (zNK sw v.entry i t=true->∃X,Y L Cs zHP (some [19,18,3,0,20]) (n+1) (tkE n q i) (tkM m r len ps vs u was now sw v)=some (.ret,[(4,.w (Bo true))],tkM m r len ps vs u was now sw v++[bxv 1 4 (zeB X)])) /\
  (zNK sw v.entry i t=false->Y L Cs zHP (some [19,18,3,0,20]) (n+1) (tkE n q i) (tkM m r len ps vs u was now sw v)=some (.exit 0,[(21,.w (Bo false)),(0,.w J0),(3,.w (Pt n)),(18,.w (.c (.jb (zkl q.parts)))),(19,.w (W q.parts.length)),(20,.w (W q.parts.length))],tkM m r len ps vs u was now sw v)):=by
 intro t;induction t with
 |nil =>
  intro i hd hi;obtain rfl:=zUb hd hi;refine⟨fun h=>(by cases h),fun _=>?_⟩;subst hn;rw[ZfM zHP.eq_1];by_cases hv:vs=[]<;>simp[tkE,tkM,juM,zJ3,hv]
 |cons p t ih =>
  intro i hd hi;obtain⟨hil,hp,hd'⟩:=zL hd;have hw:=zB (i:=i) wA;obtain⟨i1,i2⟩:=ih (i+1) hd' hil;have hC:=zNk p sw hs;have hnn:n=if vs=[] then 1 else 2:=by
   rw[hn];unfold juM zJ3;split<;>rfl
  have step:(decide ((i:Int)≠v.entry)&&sw.any (inS p))=false->Y L Cs zHP (some [19,18,3,0,20]) (n+1) (tkE n q i) (tkM m r len ps vs u was now sw v)=Y L Cs zHP (some [19,18,3,0,20]) (n+1) (tkE n q (i+1)) (tkM m r len ps vs u was now sw v):=by
   intro hf;clear i1 i2 ih;simp only[zeB]at hC;rw[ZfM zHP.eq_1];by_cases c:(i:Int)=v.entry
   ·have cb:((i:Int)==v.entry)=true:=by simp[c]
    have cb':((i:Int) !=v.entry)=false:=by simp[c]
    by_cases hv:vs=[]
    ·rw[if_pos hv]at hnn;subst hnn;simp[tkE,tkM,juM,zJ3,hv,jC,zh,zi,zf,zG,zJ1,zeB,hil,hp,hw,cb',zg,zH,own]
    ·rw[if_neg hv]at hnn;subst hnn;simp[tkE,tkM,juM,zJ3,hv,jC,zh,zi,zf,zG,zJ1,zeB,hil,hp,hw,cb',zg,zH,own]
   ·have cb':((i:Int) !=v.entry)=true:=by simp[c]
    have hf':sw.any (inS p)=false:=by simpa [c]using hf
    rw[hf']at hC;by_cases hv:vs=[]
    ·rw[if_pos hv]at hnn;subst hnn;simp[tkE,tkM,juM,zJ3,hv,jC,zh,zi,zf,zG,zJ1,zeB,hil,hp,hw,cb',hC,zg,zH,own]
    ·rw[if_neg hv]at hnn;subst hnn;simp[tkE,tkM,juM,zJ3,hv,jC,zh,zi,zf,zG,zJ1,zeB,hil,hp,hw,cb',hC,zg,zH,own]
  have hit:(decide ((i:Int)≠v.entry)&&sw.any (inS p))=true->Y L Cs zHP (some [19,18,3,0,20]) (n+1) (tkE n q i) (tkM m r len ps vs u was now sw v)=some (.ret,[(4,.w (Bo true))],tkM m r len ps vs u was now sw v++[bxv 1 4 (zeB p)]):=by
   intro hf;clear i1 i2 ih step;simp only[jk,decide_eq_true_eq]at hf;have cb':((i:Int) !=v.entry)=true:=by simp[hf.1]
   rw[hf.2]at hC;simp only[zeB]at hC;rw[ZfM zHP.eq_1];by_cases hv:vs=[]
   ·rw[if_pos hv]at hnn;subst hnn;simp[tkE,tkM,juM,zJ3,hv,jC,zh,zi,zf,zG,zJ1,zeB,hil,hp,hw,cb',hC,zg,zH,own]
   ·rw[if_neg hv]at hnn;subst hnn;simp[tkE,tkM,juM,zJ3,hv,jC,zh,zi,zf,zG,zJ1,zeB,hil,hp,hw,cb',hC,zg,zH,own]
  unfold zNK;cases hb:(decide ((i:Int)≠v.entry)&&sw.any (inS p))with
  |true=>exact⟨fun _=>⟨p,hit hb⟩,fun h=>by simp at h⟩
  |false =>
   rw[step hb,ux];exact⟨i1,i2⟩
def zMh(zs:List Zon)(z:Int):List Prt:=((zs[z.toNat]?).map Zon.parts).getD []
structure zKN(zs:List Zon)(v:Vis):Prop where
 z:0<=v.qe/\v.qe<zs.length
 few:(zMh zs v.qe).length<=6
 en:0<=v.entry/\v.entry<(zMh zs v.qe).length
def zNf(zs:List Zon)(sw:List Swp)(v:Vis):Bool:=zNK sw v.entry 0 (zMh zs v.qe)
def zPJ{m:zD}{zs:List Zon}(hz:m.qR=zk8 zs)(r:List Int)(len:Int)(ps:List Pss)(vs:List Vis)(u:Nat)(was now:zci)(sw:List Swp)(hs:sw.length<=100000000000)(v:Vis)(hv:zKN zs v) :
  R L Cs zLI [J0,.a (zJ1 v)] (juM m r len ps vs u was now sw)=some (.w (Bo (zNf zs sw v)),juM m r len ps vs u was now sw):=by
 obtain⟨z,hzz⟩:=jA hv.z.1;have hzl:z<zs.length:=by have:=hv.z.2;omega
 have hzi:(z:Int)<zs.length:=wA
 have hzp:zMh zs v.qe=zs[z].parts:=by rw[hzz];simp[zMh,hzl]
 have hq:=hv.few;rw[hzp]at hq;unfold zNf;rw[hzp];have key:∀n,n=(juM m r len ps vs u was now sw).length->_:=fun n hn=>zNJ m r len ps vs u was now sw hs v zs[z] hq n hn zs[z].parts 0 rfl (jr _)
 rw[zUa zLL rfl];by_cases h0:vs=[]
 ·obtain⟨g1,g2⟩:=key 1 (by simp[juM,zJ3,h0]);cases hb:zNK sw v.entry 0 zs[z].parts with
  |true =>
   obtain⟨X,g⟩:=g1 hb;clear g1 g2 key;simp only[tkE,tkM,juM,zJ3,h0,jC,zh,zi,zf,zG,zJ1,zeB,hzz,hz,if_true,jh,je,jg]at g;simp[zH9,juM,zJ3,h0,jC,zh,zi,zf,zG,zJ1,zeB,zdP,hz,hzz,hzl,hzi,g,zg,zH,own]
  |false =>
   have g:=g2 hb;clear g1 g2 key;simp only[tkE,tkM,juM,zJ3,h0,jC,zh,zi,zf,zG,zJ1,zeB,hzz,hz,if_true,jh,je,jg]at g;simp[zH9,juM,zJ3,h0,jC,zh,zi,zf,zG,zJ1,zeB,zdP,hz,hzz,hzl,hzi,g,zg,zH,own]
 ·obtain⟨g1,g2⟩:=key 2 (by simp[juM,zJ3,h0]);cases hb:zNK sw v.entry 0 zs[z].parts with
  |true =>
   obtain⟨X,g⟩:=g1 hb;clear g1 g2 key;simp only[tkE,tkM,juM,zJ3,h0,jC,zh,zi,zf,zG,zJ1,zeB,hzz,hz,own,zJZ,if_false,jh,je,jg]at g;simp[zH9,juM,zJ3,h0,jC,zh,zi,zf,zG,zJ1,zeB,zdP,hz,hzz,hzl,hzi,g,zg,zH,own]
  |false =>
   have g:=g2 hb;clear g1 g2 key;simp only[tkE,tkM,juM,zJ3,h0,jC,zh,zi,zf,zG,zJ1,zeB,hzz,hz,own,zJZ,if_false,jh,je,jg]at g;simp[zH9,juM,zJ3,h0,jC,zh,zi,zf,zG,zJ1,zeB,zdP,hz,hzz,hzl,hzi,g,zg,zH,own]
def zM4(z high low:Int)(p:Pss):Bool:=decide (p.qe=z)&&decide (p.lo<=high)&&decide (low<=p.hi)
abbrev alM(v:Vis)(high low:Int):Mem:=[bxv 1 10 (zJ1 v),bxv 1 1 [I high],bxv 1 1 [I low]]
abbrev zQB:Cl:=.fn zKH [] [.ptr 0 0 0 0,.ptr 1 0 0 0,.ptr 2 0 0 0]
def zOL(v:Vis)(high low:Int)(p:Pss):R L Cs zKH [.a (zKF p),.c (.ptr 0 0 0 0),.c (.ptr 1 0 0 0),.c (.ptr 2 0 0 0)] (alM v high low)=some (.w (Bo (zM4 v.qe high low p)),alM v high low):=by
 rw[zUa zLv rfl];unfold zM4;by_cases c1:p.qe=v.qe
 ·have b1:(p.qe==v.qe)=true:=by simp[c1]
  by_cases c2:p.lo<=high<;>by_cases c3:low<=p.hi<;>simp[zHX,zJ1,zKF,c1,b1,c2,c3,zg,zH]
 ·have b1:(p.qe==v.qe)=false:=by simp[c1]
  simp[zHX,zJ1,zKF,c1,b1,zg,zH]
def zNl(v:Vis)(high low:Int)(ps:List Pss)(hs:ps.length<=100000000000):R L Cs zKY [.c (.jb (zKd ps)),.c zQB] (alM v high low)=some (.w (Bo (ps.any (zM4 v.qe high low))),alM v high low):=by
 obtain⟨k,h1,h2⟩:=zO6 ps hs zQB (zM4 v.qe high low) (alM v high low) (fun p _=>by
  have h:=zOL v high low p;simp only[alM,zKF,zJ1]at h;simp[h,alM,zKF,zJ1])
 rw[zUa zK2 rfl];simp only[alM,zJ1]at h1;simp[zHz,h1,h2,alM,zJ1]
def alP(zs:List Zon)(ps:List Pss)(sw:List Swp)(high low:Int)(v:Vis):Bool:=ps.any (zM4 v.qe high low)&&zNf zs sw v
abbrev aoM(m:zD)(r:List Int)(len:Int)(ps:List Pss)(vs:List Vis)(u:Nat)(was now:zci)(sw:List Swp)(low high:Int):Mem:=[bxv u 26 (jC m r len ps (.slice 1 vs.length 10 0 vs.length none) (zG was) (zG now) (.jb (zbf sw))),some (own 10 (zKt vs)),bxv 1 1 [I low],bxv 1 1 [I high]]
abbrev aoE(vs:List Vis)(i:Nat):Env:=[(30,.w (W vs.length)),(29,.w (.c (.slice 1 vs.length 10 0 vs.length none))),(3,.w (Pt 2)),(4,.w (Pt 3)),(0,.w J0),(31,.w (W i))]
def zNZ{m:zD}{zs:List Zon}(hz:m.qR=zk8 zs)(r:List Int)(len:Int)(ps:List Pss)(hp:ps.length<=1000)(vs:List Vis)(hv0:vs≠[])(hvl:vs.length<=100)(hvo:∀v∈vs,zKN zs v)(u:Nat)(was now:zci)(sw:List Swp)(hs:sw.length<=100000000000)(low high:Int):∀(t:List Vis) (i:Nat),vs.drop i=t->i<=vs.length ->
  (t.any (alP zs ps sw high low)=true->∃X,Y L Cs zHS (some [30,29,3,4,0,31]) 4 (aoE vs i) (aoM m r len ps vs u was now sw low high)=some (.ret,[(2,.w (W 5))],aoM m r len ps vs u was now sw low high++[bxv 1 10 (zJ1 X)])) /\
  (t.any (alP zs ps sw high low)=false->Y L Cs zHS (some [30,29,3,4,0,31]) 4 (aoE vs i) (aoM m r len ps vs u was now sw low high)=some (.exit 0,[(32,.w (Bo false)),(0,.w J0),(4,.w (Pt 3)),(3,.w (Pt 2)),(29,.w (.c (.slice 1 vs.length 10 0 vs.length none))),(30,.w (W vs.length)),(31,.w (W vs.length))],aoM m r len ps vs u was now sw low high)):=by
 intro t;induction t with
 |nil =>
  intro i hd hi;obtain rfl:=zUb hd hi;refine⟨fun h=>(by cases h),fun _=>?_⟩;rw[ZfM zHS.eq_1];simp[aoE,aoM]
 |cons v t ih =>
  intro i hd hi;obtain⟨hil,hx,hd'⟩:=zL hd;have hw:=zB (i:=i) wA;obtain⟨i1,i2⟩:=ih (i+1) hd' hil;have hC:=zNl v high low ps wA;have hT:=zPJ hz r len ps vs u was now sw hs v (hvo v (by rw[<-hx];exact jf hil));simp only[alM,zJ1,juM,zJ3,hv0,jC,zh,zi,zf,zG,own,zJZ,if_false,jh,je]at hC hT;have step:alP zs ps sw high low v=false->Y L Cs zHS (some [30,29,3,4,0,31]) 4 (aoE vs i) (aoM m r len ps vs u was now sw low high)=Y L Cs zHS (some [30,29,3,4,0,31]) 4 (aoE vs (i+1)) (aoM m r len ps vs u was now sw low high):=by
   intro hf;clear i1 i2 ih;unfold alP at hf;rw[ZfM zHS.eq_1];cases hc:ps.any (zM4 v.qe high low)with
   |false =>
    rw[hc]at hC;simp[aoE,aoM,jC,zh,zi,zf,zG,zJ1,hil,hx,hw,hC,zg,zH,own]
   |true =>
    have ht:zNf zs sw v=false:=by simpa [hc]using hf
    rw[hc]at hC;rw[ht]at hT;simp[aoE,aoM,jC,zh,zi,zf,zG,zJ1,hil,hx,hw,hC,hT,zg,zH,own]
  have hit:alP zs ps sw high low v=true->Y L Cs zHS (some [30,29,3,4,0,31]) 4 (aoE vs i) (aoM m r len ps vs u was now sw low high)=some (.ret,[(2,.w (W 5))],aoM m r len ps vs u was now sw low high++[bxv 1 10 (zJ1 v)]):=by
   intro hf;clear i1 i2 ih step;unfold alP at hf;rw[jk]at hf;rw[hf.1]at hC;rw[hf.2]at hT;rw[ZfM zHS.eq_1];simp[aoE,aoM,jC,zh,zi,zf,zG,zJ1,hil,hx,hw,hC,hT,zg,zH,own]
  rw[y8];cases hb:alP zs ps sw high low v with
  |true=>exact⟨fun _=>⟨v,hit hb⟩,fun h=>by simp at h⟩
  |false =>
   rw[step hb,ux];exact⟨i1,i2⟩
def zMG(zs:List Zon)(len:Int)(ps:List Pss)(vs:List Vis)(was now:zci)(sw:List Swp):Int:=if vs.any (alP zs ps sw now.ego.shi (was.ego.slo-len)) then 5 else 0
def zOi{m:zD}{zs:List Zon}(hz:m.qR=zk8 zs)(r:List Int)(len:Int)(hlen:0<=len/\len<=100000)(ps:List Pss)(hp:ps.length<=1000)(vs:List Vis)(hvl:vs.length<=100)(hvo:∀v∈vs,zKN zs v)(u:Nat)(was now:zci)(hws:0<=was.ego.slo/\was.ego.slo<=1000000000000000)(sw:List Swp)(hs:sw.length<=100000000000) :
  R L Cs zKa [J0] (juM m r len ps vs u was now sw)=some (.w (W (zMG zs len ps vs was now sw)),juM m r len ps vs u was now sw):=by
 have w1:=qB (was.ego.slo-len);unfold zMG;by_cases h0:vs=[]
 ·subst h0;have g:∀E M,Y L Cs zHS (some [30,29,3,4,0,31]) 3 [(30,.w (W 0)),(29,E),(3,.w (Pt 1)),(4,.w (Pt 2)),(0,.w J0),(31,.w (W 0))] M=some (.exit 0,[(32,.w (Bo false)),(0,.w J0),(4,.w (Pt 2)),(3,.w (Pt 1)),(29,E),(30,.w (W 0)),(31,.w (W 0))],M):=by
   intro E M;rw[ZfM zHS.eq_1];simp
  rw[zUa zK3 rfl];simp[zIb,juM,zJ3,jC,zh,zi,zf,zG,g,w1,zg,zH,own]
 ·obtain⟨g1,g2⟩:=zNZ hz r len ps hp vs h0 hvl hvo u was now sw hs (was.ego.slo-len) now.ego.shi vs 0 rfl (jr _);rw[zUa zK3 rfl];cases hb:vs.any (alP zs ps sw now.ego.shi (was.ego.slo-len))with
  |true =>
   obtain⟨X,g⟩:=g1 hb;clear g1 g2;simp only[aoE,aoM,jC,zh,zi,zf,zG,zJ1,own,zJZ,jh,je,jg]at g;simp[zIb,juM,zJ3,h0,jC,zh,zi,zf,zG,zJ1,g,w1,zg,zH,own]
  |false =>
   have g:=g2 hb;clear g1 g2;simp only[aoE,aoM,jC,zh,zi,zf,zG,zJ1,own,zJZ,jh,je,jg]at g;simp[zIb,juM,zJ3,h0,jC,zh,zi,zf,zG,zJ1,g,w1,zg,zH,own]
def zPp(zs:List Zon)(z:Int):Int:=((zs[z.toNat]?).map Zon.um).getD 0
def zPX(zs:List Zon)(z e:Int):Int:=(((zMh zs z)[e.toNat]?).map Prt.lane).getD 0
def zP0(zs:List Zon)(ss:List Sgn)(v:Vis)(tick:Int):Bool:=zfA (ss.getD (zPp zs v.qe-1).toNat ztn) (zPX zs v.qe v.entry) tick
def zP1(zs:List Zon)(shi slo:Int)(v:Vis):Bool:=decide (0<zPp zs v.qe)&&decide (v.first.lo<=shi)&&decide (slo<v.first.lo)
def zNj(zs:List Zon)(ss:List Sgn)(shi slo tick:Int)(v:Vis):Bool:=zP1 zs shi slo v && !zP0 zs ss v tick
abbrev awM(m:zD)(r:List Int)(len:Int)(ps:List Pss)(vs:List Vis)(u:Nat)(was now:zci)(sw:List Swp):Mem:=[bxv u 26 (jC m r len ps (.slice 1 vs.length 10 0 vs.length none) (zG was) (zG now) (.jb (zbf sw))),some (own 10 (zKt vs))]
abbrev awE(vs:List Vis)(i:Nat):Env:=[(11,.w (W vs.length)),(10,.w (.c (.slice 1 vs.length 10 0 vs.length none))),(0,.w J0),(12,.w (W i))]
def zN0{m:zD}{zs:List Zon}{ss:List Sgn}(hf:zmq m zs ss)(r:List Int)(len:Int)(ps:List Pss)(vs:List Vis)(hv0:vs≠[])(hvl:vs.length<=100)(hvo:∀v∈vs,zKN zs v)(u:Nat)(was now:zci)(sw:List Swp):∀(t:List Vis) (i:Nat),vs.drop i=t->i<=vs.length ->
  (t.any (zNj zs ss now.ego.shi was.ego.slo was.tick)=true->∃X Z,Y L Cs zHL (some [11,10,0,12]) 2 (awE vs i) (awM m r len ps vs u was now sw)=some (.ret,[(2,.w (W 6))],awM m r len ps vs u was now sw++[bxv 1 10 (zJ1 X),bxv 1 2 (zdP Z)])) /\
  (t.any (zNj zs ss now.ego.shi was.ego.slo was.tick)=false->Y L Cs zHL (some [11,10,0,12]) 2 (awE vs i) (awM m r len ps vs u was now sw)=some (.exit 0,[(13,.w (Bo false)),(0,.w J0),(10,.w (.c (.slice 1 vs.length 10 0 vs.length none))),(11,.w (W vs.length)),(12,.w (W vs.length))],awM m r len ps vs u was now sw)):=by
 have hz:=hf.zd.z;have hsg:=hf.zd.s;intro t;induction t with
 |nil =>
  intro i hd hi;obtain rfl:=zUb hd hi;refine⟨fun h=>(by cases h),fun _=>?_⟩;rw[ZfM zHL.eq_1];simp[awE,awM]
 |cons v t ih =>
  intro i hd hi;obtain⟨hil,hx,hd'⟩:=zL hd;have hw:=zB (i:=i) wA;obtain⟨i1,i2⟩:=ih (i+1) hd' hil;have hv:=hvo v (by rw[<-hx];exact jf hil);obtain⟨z,hzz⟩:=jA hv.z.1;have hzl:z<zs.length:=by have:=hv.z.2;omega
  have hzi:(z:Int)<zs.length:=wA
  have hzp:zMh zs v.qe=zs[z].parts:=by rw[hzz];simp[zMh,hzl]
  have hzg:zPp zs v.qe=zs[z].um:=by rw[hzz];simp[zPp,hzl]
  have hen:=hv.en;rw[hzp]at hen;obtain⟨e,he⟩:=jA hen.1;have hel:e<zs[z].parts.length:=wA
  have hei:(e:Int)<zs[z].parts.length:=wA
  have hpl:zPX zs v.qe v.entry=zs[z].parts[e].lane:=by unfold zPX;rw[hzp,he];simp[hel]
  have hsig:=hf.zd.sig zs[z] (jf hzl);have hsf:=hf.zd.sfew;have step:zNj zs ss now.ego.shi was.ego.slo was.tick v=false->Y L Cs zHL (some [11,10,0,12]) 2 (awE vs i) (awM m r len ps vs u was now sw)=Y L Cs zHL (some [11,10,0,12]) 2 (awE vs (i+1)) (awM m r len ps vs u was now sw):=by
   intro hff;clear i1 i2 ih;unfold zNj zP1 zP0 at hff;rw[hzg,hpl]at hff;rw[ZfM zHL.eq_1];by_cases c1:0<zs[z].um
   ·by_cases c2:v.first.lo<=now.ego.shi
    ·by_cases c3:was.ego.slo<v.first.lo
     ·obtain⟨j,hj⟩:∃j:Nat,zs[z].um=j+1:=⟨(zs[z].um-1).toNat,wA⟩;have hjl:j<ss.length:=wA
      have hji:(j:Int)<ss.length:=wA
      have wj:IntKind.i64.wrap (zs[z].um-1)=j:=by rw[hj];rw[zTd _ wA wA];omega
      have hgd:ss.getD (zs[z].um-1).toNat ztn=ss[j]:=by
       rw[show(zs[z].um-1).toNat=j by omega];simp[jG,hjl]
      have hG:=zAP ss[j] zs[z].parts[e].lane was.tick (hf.zd.ph _ (jf hjl));rw[hgd]at hff;have hg:zfA ss[j] zs[z].parts[e].lane was.tick=true:=by simpa [c1,c2,c3]using hff
      rw[hg]at hG;simp only[zeq]at hG;simp[awE,awM,jC,zh,zi,zf,zG,zJ1,zdP,zeB,zeq,hz,hsg,hzz,hzl,hzi,he,hel,hei,hil,hx,hw,c1,c2,c3,wj,hjl,hji,hG,zg,zH,own]
     ·simp[awE,awM,jC,zh,zi,zf,zG,zJ1,zdP,zeB,hz,hzz,hzl,hzi,hil,hx,hw,c1,c2,c3,zg,zH,own]
    ·simp[awE,awM,jC,zh,zi,zf,zG,zJ1,zdP,zeB,hz,hzz,hzl,hzi,hil,hx,hw,c1,c2,zg,zH,own]
   ·simp[awE,awM,jC,zh,zi,zf,zG,zJ1,zdP,zeB,hz,hzz,hzl,hzi,hil,hx,hw,c1,zg,zH,own]
  have hit:zNj zs ss now.ego.shi was.ego.slo was.tick v=true->Y L Cs zHL (some [11,10,0,12]) 2 (awE vs i) (awM m r len ps vs u was now sw)=some (.ret,[(2,.w (W 6))],awM m r len ps vs u was now sw++[bxv 1 10 (zJ1 v),bxv 1 2 (zdP zs[z])]):=by
   intro hff;clear i1 i2 ih step;unfold zNj zP1 zP0 at hff;rw[hzg,hpl]at hff;simp only[jk,decide_eq_true_eq,qm]at hff;obtain⟨⟨⟨c1,c2⟩,c3⟩,c4⟩:=hff;obtain⟨j,hj⟩:∃j:Nat,zs[z].um=j+1:=⟨(zs[z].um-1).toNat,wA⟩;have hjl:j<ss.length:=wA
   have hji:(j:Int)<ss.length:=wA
   have wj:IntKind.i64.wrap (zs[z].um-1)=j:=by rw[hj];rw[zTd _ wA wA];omega
   have hgd:ss.getD (zs[z].um-1).toNat ztn=ss[j]:=by
    rw[show(zs[z].um-1).toNat=j by omega];simp[jG,hjl]
   have hG:=zAP ss[j] zs[z].parts[e].lane was.tick (hf.zd.ph _ (jf hjl));rw[hgd]at c4;rw[c4]at hG;simp only[zeq]at hG;rw[ZfM zHL.eq_1];simp[awE,awM,jC,zh,zi,zf,zG,zJ1,zdP,zeB,zeq,hz,hsg,hzz,hzl,hzi,he,hel,hei,hil,hx,hw,c1,c2,c3,wj,hjl,hji,hG,zg,zH,own]
  rw[y8];cases hb:zNj zs ss now.ego.shi was.ego.slo was.tick v with
  |true=>exact⟨fun _=>⟨v,_,hit hb⟩,fun h=>by simp at h⟩
  |false =>
   rw[step hb,ux];exact⟨i1,i2⟩
def zMH(zs:List Zon)(ss:List Sgn)(vs:List Vis)(was now:zci):Int:=if vs.any (zNj zs ss now.ego.shi was.ego.slo was.tick) then 6 else 0
def zNd{m:zD}{zs:List Zon}{ss:List Sgn}(hf:zmq m zs ss)(r:List Int)(len:Int)(ps:List Pss)(vs:List Vis)(hvl:vs.length<=100)(hvo:∀v∈vs,zKN zs v)(u:Nat)(was now:zci)(sw:List Swp) :
  R L Cs zJ7 [J0] (juM m r len ps vs u was now sw)=some (.w (W (zMH zs ss vs was now)),juM m r len ps vs u was now sw):=by
 unfold zMH;by_cases h0:vs=[]
 ·subst h0;have g:∀E M,Y L Cs zHL (some [11,10,0,12]) 1 [(11,.w (W 0)),(10,E),(0,.w J0),(12,.w (W 0))] M=some (.exit 0,[(13,.w (Bo false)),(0,.w J0),(10,E),(11,.w (W 0)),(12,.w (W 0))],M):=by
   simp_all [ZfM,zHL.eq_1]
  rw[zUa zKJ rfl];simp[zHY,juM,zJ3,jC,zh,zi,zf,zG,g,zg,zH,own]
 ·obtain⟨g1,g2⟩:=zN0 hf r len ps vs h0 hvl hvo u was now sw vs 0 rfl (jr _);rw[zUa zKJ rfl];cases hb:vs.any (zNj zs ss now.ego.shi was.ego.slo was.tick)with
  |true =>
   obtain⟨X,Z,g⟩:=g1 hb;simp only[awE,awM,jC,zh,zi,zf,zG,zJ1,zdP,own,zJZ,jh,je,jg]at g;simp[zHY,juM,zJ3,h0,jC,zh,zi,zf,zG,zJ1,zdP,g,zg,zH,own]
  |false =>
   have g:=g2 hb;simp only[awE,awM,jC,zh,zi,zf,zG,zJ1,zdP,own,zJZ,jh,je,jg]at g;simp[zHY,juM,zJ3,h0,jC,zh,zi,zf,zG,zJ1,zdP,g,zg,zH,own]
def zKq(NW:List Cl)(SW:Cl):Prop:=(NW=zox/\SW=.jc)\/∃k x,NW=zG k/\SW=.jb x
def zJY(ok:Bool)(at' why:Int):List Cl:=[.bool ok,I at',I why]
abbrev ghJ(q:Nat)(s:Int)(v:Nat):Option Blk:=some { box:=true,esz:=4,rows:=[[I s,.ptr 1 0 0 0,.ptr q 0 0 0,.ptr (q+1) 0 0 0]],gen:=0,fz:=false,ver:=v }
abbrev zOE:Option Blk:=some { box:=true,esz:=1,rows:=[[.fn zJ6 [.ptr 2 0 0 0] []],[.fn zKc [.ptr 2 0 0 0] []],[.fn zJ9 [.ptr 2 0 0 0] []],[.fn zKa [.ptr 2 0 0 0] []],[.fn zJ7 [.ptr 2 0 0 0] []]],gen:=5,fz:=false,ver:=5 }
def zKs:List Int->Int
 |[]=>0
 |a::l=>if a=0 then zKs l else a
abbrev zTv:List Nat:=[zJ6,zKc,zJ9,zKa,zJ7]
abbrev rdA(m:zD)(r:List Int)(len:Int)(ps:List Pss)(vs:List Vis)(s:Int)(gv u:Nat)(was:zci)(NW:List Cl)(SW:Cl)(w:Nat)(n:Int)(fv:Nat)(F:List Cl):Mem:=[ghJ 4 s gv,bx 1 [.ptr 2 0 0 0],bxv u 26 (jC m r len ps (.slice 3 vs.length 10 0 vs.length none) (zG was) NW SW),some (own 10 (zKt vs)),bxv w 1 [I n],bxv fv 3 F]
abbrev rdB(m:zD)(r:List Int)(len:Int)(ps:List Pss)(vs:List Vis)(s:Int)(gv u:Nat)(was:zci)(NW:List Cl)(SW:Cl)(w:Nat)(n:Int)(fv:Nat)(F:List Cl):Mem:=[ghJ 3 s gv,bx 1 [.ptr 2 0 0 0],bxv u 26 (jC m r len ps .jc (zG was) NW SW),bxv w 1 [I n],bxv fv 3 F]
abbrev rdG(qq:Nat)(m:zD)(r:List Int)(len:Int)(ps:List Pss)(vs:List Vis)(s:Int)(gv u:Nat)(was:zci)(NW:List Cl)(SW:Cl)(w:Nat)(n:Int)(fv:Nat)(F:List Cl):Mem:=if qq=0 then rdB m r len ps vs s gv u was NW SW w n fv F else rdA m r len ps vs s gv u was NW SW w n fv F
def zVW{α:Sort _}{qq:Nat}{vs:List Vis}(h:qq=0/\vs=[]\/qq=1/\vs≠[])(a b:α):(if vs=[] then a else b)=if qq=0 then a else b:=by
 grind
abbrev aMG(qq:Nat)(m:zD)(r:List Int)(len:Int)(ps:List Pss)(vs:List Vis)(gv u:Nat)(was now:zci)(sw:List Swp)(w:Nat)(n:Int)(fv:Nat)(F:List Cl):Mem:=rdG qq m r len ps vs 1 gv u was (zG now) (.jb (zbf sw)) w n fv F++[bxv 1 6 (zG now),zOE]
abbrev aEG(qq:Nat)(i:Nat):Env:=[(47,.w (W 5)),(10,.w (Pt (qq+5))),(4,.w (Pt 1)),(46,.w (.c (.slice (qq+6) 5 1 0 5 none))),(48,.w (W i)),(9,.w (Pt (qq+3))),(8,.w (Pt (qq+4)))]
def zV4(i j:Nat)(hi:i<5)(hj:j=i+1)(m:zD)(r:List Int)(len:Int)(ps:List Pss)(vs:List Vis)(qq:Nat)(hq0:qq=0/\vs=[]\/qq=1/\vs≠[])(gv u:Nat)(was now:zci)(sw:List Swp)(w:Nat)(n:Int)(a:Int)
  (hR:R L Cs (zTv.getD i 0) [J0] (juM m r len ps vs u was now sw)=some (.w (W a),juM m r len ps vs u was now sw)) :
  Y L Cs zHE (some [47,10,4,46,48,9,8]) (qq+7) (aEG qq i) (aMG qq m r len ps vs gv u was now sw w n 0 (zJY false 0 0)) =
    if a=0 then Y L Cs zHE (some [47,10,4,46,48,9,8]) (qq+7) (aEG qq j) (aMG qq m r len ps vs gv u was now sw w n 0 (zJY false 0 0)) else some (.ret,[],aMG qq m r len ps vs gv u was now sw w n 1 (zJY false n a)):=by
 subst hj;have cb:¬a=0->(a==0)=false/\(a !=0)=true:=fun c=>by grind
 simp only[zTv,juM,zJ3,zVW hq0,jC,zh,zi,zf,zG,own,zJZ,jh,je]at hR;rw[ZfM zHE.eq_1];have hw:∀x:Int,0<=x->x<=9->IntKind.i64.wrap x=x:=fun x _ _=>qB x
 match i,hi with
 |0,_ |1,_ |2,_ |3,_ |4,_ =>
  simp only[uz,List.getD_cons_succ]at hR;by_cases c:a=0
  ·subst c;rcases hq0 with⟨rfl,-⟩ |⟨rfl,-⟩<;>simp only[jU,↓reduceIte,jJ,Nat.reduceAdd]at hR<;>simp (maxSteps:=1000000) [aEG,aMG,rdG,rdA,rdB,jC,zh,zi,zf,zG,zJY,own,hw,hR,zg,zH]
  ·rcases hq0 with⟨rfl,-⟩ |⟨rfl,-⟩<;>simp only[jU,↓reduceIte,jJ,Nat.reduceAdd]at hR<;>simp (maxSteps:=1000000) [aEG,aMG,rdG,rdA,rdB,jC,zh,zi,zf,zG,zJY,own,hw,hR,c,(cb c).1,(cb c).2,zg,zH]
def zV3(m:zD)(r:List Int)(len:Int)(ps:List Pss)(vs:List Vis)(qq:Nat)(hq0:qq=0/\vs=[]\/qq=1/\vs≠[])(gv u:Nat)(was now:zci)(sw:List Swp)(w:Nat)(n:Int) :
  Y L Cs zHE (some [47,10,4,46,48,9,8]) (qq+7) (aEG qq 5) (aMG qq m r len ps vs gv u was now sw w n 0 (zJY false 0 0))=some (.exit 2,[(49,.w (Bo false)),(46,.w (.c (.slice (qq+6) 5 1 0 5 none))),(4,.w (Pt 1)),(10,.w (Pt (qq+5))),(47,.w (W 5)),(48,.w (W 5)),(9,.w (Pt (qq+3))),(8,.w (Pt (qq+4)))],aMG qq m r len ps vs gv u was now sw w n 0 (zJY false 0 0)):=by
 rw[ZfM zHE.eq_1];rcases hq0 with⟨rfl,-⟩ |⟨rfl,-⟩<;>simp[aEG,aMG,rdG,rdA,rdB]
def zVZ(m:zD)(r:List Int)(len:Int)(ps:List Pss)(vs:List Vis)(qq:Nat)(hq0:qq=0/\vs=[]\/qq=1/\vs≠[])(gv u:Nat)(was now:zci)(sw:List Swp)(w:Nat)(n:Int)(a b c d e:Int)
  (hA:R L Cs zJ6 [J0] (juM m r len ps vs u was now sw)=some (.w (W a),juM m r len ps vs u was now sw))
  (hB:a=0->R L Cs zKc [J0] (juM m r len ps vs u was now sw)=some (.w (W b),juM m r len ps vs u was now sw))
  (hC:R L Cs zJ9 [J0] (juM m r len ps vs u was now sw)=some (.w (W c),juM m r len ps vs u was now sw))
  (hD:R L Cs zKa [J0] (juM m r len ps vs u was now sw)=some (.w (W d),juM m r len ps vs u was now sw))
  (hE:R L Cs zJ7 [J0] (juM m r len ps vs u was now sw)=some (.w (W e),juM m r len ps vs u was now sw)) :
  Y L Cs zHE (some [47,10,4,46,48,9,8]) (qq+7) (aEG qq 0) (aMG qq m r len ps vs gv u was now sw w n 0 (zJY false 0 0)) =
    some (if zKs [a,b,c,d,e]=0 then(.exit 2,[(49,.w (Bo false)),(46,.w (.c (.slice (qq+6) 5 1 0 5 none))),(4,.w (Pt 1)),(10,.w (Pt (qq+5))),(47,.w (W 5)),(48,.w (W 5)),(9,.w (Pt (qq+3))),(8,.w (Pt (qq+4)))],aMG qq m r len ps vs gv u was now sw w n 0 (zJY false 0 0)) else(.ret,[],aMG qq m r len ps vs gv u was now sw w n 1 (zJY false n (zKs [a,b,c,d,e])))):=by
 rw[zV4 0 1 wD rfl m r len ps vs qq hq0 gv u was now sw w n a hA];by_cases c0:a=0
 ·rw[if_pos c0,zV4 1 2 wD rfl m r len ps vs qq hq0 gv u was now sw w n b (hB c0)];by_cases c1:b=0
  ·rw[if_pos c1,zV4 2 3 wD rfl m r len ps vs qq hq0 gv u was now sw w n c hC];by_cases c2:c=0
   ·rw[if_pos c2,zV4 3 4 wD rfl m r len ps vs qq hq0 gv u was now sw w n d hD];by_cases c3:d=0
    ·rw[if_pos c3,zV4 4 5 wD rfl m r len ps vs qq hq0 gv u was now sw w n e hE];by_cases c4:e=0
     ·simp_all [if_pos,zV3,zKs,if_true]
     simp_all [if_neg,zKs,if_true,if_false]
    simp_all [if_neg,zKs,if_true,if_false]
   simp_all [if_neg,zKs,if_true,if_false]
  simp_all [if_neg,zKs,if_true,if_false]
 simp_all [if_neg,zKs,if_false]
abbrev rsh:List (Nat×Bool×Nat):=[(4,false,1),(9,false,1),(8,false,1)]
def zVY(m:zD)(r:List Int)(len:Int)(ps:List Pss)(vs:List Vis)(qq:Nat)(hq0:qq=0/\vs=[]\/qq=1/\vs≠[])(gv u:Nat)(was:zci)(NW:List Cl)(now:zci)(SW:Cl)(hSW:zKq NW SW)(sw:List Swp)(w:Nat)(n:Int) :
  X L Cs (sQ (rG 1 [o1 0 10 (.box 0 6 (.k (.a [(I 0),.jc,(I 0),(I 0),(I 0),(I 0)]))),o0 1 (.store 6 (.s 10) (.s 24))] [25,10,4,9,8]) (rG 0 [mS 0 11 25] [11,10,4,9,8])) (zv3 [24,25] [.a (zG now),.c (.jb (zbf sw))]++[(4,.w (Pt 1)),(9,.w (Pt (qq+3))),(8,.w (Pt (qq+4)))]) (rdG qq m r len ps vs 0 gv u was NW SW w n 0 (zJY false 0 0)) =
    some (.normal,[(11,.w (.c (.jb (zbf sw)))),(10,.w (Pt (qq+5))),(4,.w (Pt 1)),(9,.w (Pt (qq+3))),(8,.w (Pt (qq+4)))],rdG qq m r len ps vs 0 gv u was NW SW w n 0 (zJY false 0 0)++[bxv 1 6 (zG now)]):=by
 rcases hq0 with⟨rfl,-⟩ |⟨rfl,-⟩<;>rcases hSW with⟨rfl,rfl⟩ |⟨k0,x,rfl,rfl⟩<;>simp[zv3,rdG,rdA,rdB,jC,zox,zh,zi,zf,zG,zJY,own,zg,zH]
def zV7(m:zD)(r:List Int)(len:Int)(ps:List Pss)(vs:List Vis)(qq:Nat)(hq0:qq=0/\vs=[]\/qq=1/\vs≠[])(gv u:Nat)(was:zci)(NW:List Cl)(now:zci)(SW:Cl)(hSW:zKq NW SW)(sw:List Swp)(w n:Nat)(hn:n<1000)(why:Int)
  (g:Y L Cs zHE (some [47,10,4,46,48,9,8]) (qq+7) (aEG qq 0) (aMG qq m r len ps vs gv (u+1+1) was now sw (w+1) (n+1) 0 (zJY false 0 0)) =
   some (if why=0 then(.exit 2,[(49,.w (Bo false)),(46,.w (.c (.slice (qq+6) 5 1 0 5 none))),(4,.w (Pt 1)),(10,.w (Pt (qq+5))),(47,.w (W 5)),(48,.w (W 5)),(9,.w (Pt (qq+3))),(8,.w (Pt (qq+4)))],aMG qq m r len ps vs gv (u+1+1) was now sw (w+1) (n+1) 0 (zJY false 0 0)) else(.ret,[],aMG qq m r len ps vs gv (u+1+1) was now sw (w+1) (n+1) 1 (zJY false (n+1) why)))) :
  ∃E,X L Cs zHO.code [(11,.w (.c (.jb (zbf sw)))),(10,.w (Pt (qq+5))),(4,.w (Pt 1)),(9,.w (Pt (qq+3))),(8,.w (Pt (qq+4)))] (rdG qq m r len ps vs 1 gv u was NW SW w n 0 (zJY false 0 0)++[bxv 1 6 (zG now)]) =
   some (if why=0 then(.normal,E,aMG qq m r len ps vs gv (u+1+1+1) now now sw (w+1) (n+1) 0 (zJY false 0 0)) else(.ret,[],aMG qq m r len ps vs gv (u+1+1) was now sw (w+1) (n+1) 1 (zJY false (n+1) why))):=by
 have hw:=zB (i:=n) wA;have n0:((0:Nat):Int)=0:=rfl;refine⟨[],?_⟩;by_cases c:why=0
 ·rw[if_pos c];rw[if_pos c]at g;rcases hq0 with⟨rfl,-⟩ |⟨rfl,-⟩<;>simp only[jU,↓reduceIte,jJ,Nat.reduceAdd,aEG,aMG,rdG,rdA,rdB,jC,zh,zi,zf,zG,zJY,own,zJZ,jh,je,n0]at g<;>rcases hSW with⟨rfl,rfl⟩ |⟨k0,x,rfl,rfl⟩<;>simp (maxSteps:=1000000) [zHO,aEG,aMG,rdG,rdA,rdB,jC,zox,zh,zi,zf,zG,zJY,own,zg,zH,zi2,okW,hw,g]
 ·rw[if_neg c];rw[if_neg c]at g;rcases hq0 with⟨rfl,-⟩ |⟨rfl,-⟩<;>simp only[jU,↓reduceIte,jJ,Nat.reduceAdd,aEG,aMG,rdG,rdA,rdB,jC,zh,zi,zf,zG,zJY,own,zJZ,jh,je,n0]at g<;>rcases hSW with⟨rfl,rfl⟩ |⟨k0,x,rfl,rfl⟩<;>simp (maxSteps:=1000000) [zHO,aEG,aMG,rdG,rdA,rdB,jC,zox,zh,zi,zf,zG,zJY,own,zg,zH,zi2,okW,hw,g]
def zV5(m:zD)(r:List Int)(len:Int)(ps:List Pss)(vs:List Vis)(qq:Nat)(hq0:qq=0/\vs=[]\/qq=1/\vs≠[])(gv u:Nat)(was:zci)(NW:List Cl)(now:zci)(SW:Cl)(hSW:zKq NW SW)(sw:List Swp)(w n:Nat)(hn:n<1000)(why:Int)
  (g:Y L Cs zHE (some [47,10,4,46,48,9,8]) (qq+7) (aEG qq 0) (aMG qq m r len ps vs (gv+1) (u+1+1) was now sw (w+1) (n+1) 0 (zJY false 0 0)) =
   some (if why=0 then(.exit 2,[(49,.w (Bo false)),(46,.w (.c (.slice (qq+6) 5 1 0 5 none))),(4,.w (Pt 1)),(10,.w (Pt (qq+5))),(47,.w (W 5)),(48,.w (W 5)),(9,.w (Pt (qq+3))),(8,.w (Pt (qq+4)))],aMG qq m r len ps vs (gv+1) (u+1+1) was now sw (w+1) (n+1) 0 (zJY false 0 0)) else(.ret,[],aMG qq m r len ps vs (gv+1) (u+1+1) was now sw (w+1) (n+1) 1 (zJY false (n+1) why)))) :
  R L Cs zJ0 [.c (.yld 0 zJ0 rsh),.a (zG now),.c (.jb (zbf sw))] (rdG qq m r len ps vs 0 gv u was NW SW w n 0 (zJY false 0 0)) =
    some (if why=0 then(.w (Bo true),rdG qq m r len ps vs 0 (gv+1+1) (u+1+1+1) now (zG now) (.jb (zbf sw)) (w+1) (n+1) 0 (zJY false 0 0)) else(.w (Bo false),rdG qq m r len ps vs 2 (gv+1+1) (u+1+1) was (zG now) (.jb (zbf sw)) (w+1) (n+1) 1 (zJY false (n+1) why))):=by
 obtain⟨E,hc⟩:=zV7 m r len ps vs qq hq0 (gv+1) u was NW now SW hSW sw w n hn why g;have hp:=zVY m r len ps vs qq hq0 gv u was NW now SW hSW sw w n;by_cases c:why=0
 ·rw[if_pos c]at hc ⊢;exact zOg (cells:=[.ptr 1 0 0 0,.ptr (qq+3) 0 0 0,.ptr (qq+4) 0 0 0]) (M2:=rdG qq m r len ps vs 1 (gv+1) u was NW SW w n 0 (zJY false 0 0)++[bxv 1 6 (zG now)]) (M4:=rdG qq m r len ps vs 0 (gv+1+1) (u+1+1+1) now (zG now) (.jb (zbf sw)) (w+1) (n+1) 0 (zJY false 0 0)++[bxv 1 6 (zG now),zOE]) zKg rfl rfl (by rcases hq0 with⟨rfl,-⟩ |⟨rfl,-⟩<;>simp[Eng.kM,rdG,rdA,rdB]) (by rcases hq0 with⟨rfl,-⟩ |⟨rfl,-⟩<;>simp[zxb,rdG,rdA,rdB]) (by rcases hq0 with⟨rfl,-⟩ |⟨rfl,-⟩<;>rfl) hp (by rcases hq0 with⟨rfl,-⟩ |⟨rfl,-⟩<;>simp[zsR,rdG,rdA,rdB]) hc (by rcases hq0 with⟨rfl,-⟩ |⟨rfl,-⟩<;>simp[zsR,zxZ,rdG,rdA,rdB,aMG]) (by rcases hq0 with⟨rfl,-⟩ |⟨rfl,-⟩<;>simp[finish,zH,rdG,rdA,rdB,jC,zh,zi,zf,zG,zJY,own])
 ·rw[if_neg c]at hc ⊢;exact zOg (cells:=[.ptr 1 0 0 0,.ptr (qq+3) 0 0 0,.ptr (qq+4) 0 0 0]) (M2:=rdG qq m r len ps vs 1 (gv+1) u was NW SW w n 0 (zJY false 0 0)++[bxv 1 6 (zG now)]) (M4:=rdG qq m r len ps vs 2 (gv+1+1) (u+1+1) was (zG now) (.jb (zbf sw)) (w+1) (n+1) 1 (zJY false (n+1) why)++[bxv 1 6 (zG now),zOE]) zKg rfl rfl (by rcases hq0 with⟨rfl,-⟩ |⟨rfl,-⟩<;>simp[Eng.kM,rdG,rdA,rdB]) (by rcases hq0 with⟨rfl,-⟩ |⟨rfl,-⟩<;>simp[zxb,rdG,rdA,rdB]) (by rcases hq0 with⟨rfl,-⟩ |⟨rfl,-⟩<;>rfl) hp (by rcases hq0 with⟨rfl,-⟩ |⟨rfl,-⟩<;>simp[zsR,rdG,rdA,rdB]) hc (by rcases hq0 with⟨rfl,-⟩ |⟨rfl,-⟩<;>simp[zsR,zxZ,rdG,rdA,rdB,aMG]) (by rcases hq0 with⟨rfl,-⟩ |⟨rfl,-⟩<;>simp[finish,zH,rdG,rdA,rdB,jC,zh,zi,zf,zG,zJY,own])
def zOm{m:zD}{zs:List Zon}{ss:List Sgn}(hf:zmq m zs ss)(r:List Int)(len:Int)(k:zci)(e:Ego)(signals:Bool)(hvb:∀b∈k.jZ,VB m b):∀s∈zfV m zs ss r len k e signals,zPI m s:=by
 have h:=hf.qO;intro s hs;unfold zfV zhM at hs;obtain⟨b,hb,hx⟩:=kj.1 hs;obtain⟨z,hz,rfl⟩:=jW.1 hx;have hv:=ztK k.ego len r k.jZ hvb b hb;have hbd:=zwE h zs ss k signals hv;unfold zn0 at hz;split at hz
 ·have ho:=zBF h r (zfx len e) e.slo (mvF m zs ss k signals b) (by rw[hbd.1];exact hv.lane) _ _ _ z hz;have h1:=zcX h ho.on;have h2:=ho.lo;have h3:=ho.le;have h4:=ho.hi;exact⟨ho.on,by show 0<=z.1.lo/\z.1.lo<=1000000;omega,by show 0<=z.1.hi/\z.1.hi<=1000000;omega⟩
 ·cases hz
def zOa{m:zD}{zs:List Zon}{ss:List Sgn}(hf:zmq m zs ss)(r:List Int)(len:Int)(signals:Bool){k:zci}(hk:KJ m k)(a:Int):∀s∈zKu m zs ss r len signals k a,zPI m s:=fun s hs =>
 zOm hf r len k _ signals hk.vb s (zO4 ((zrs _ _).1 hs))
def zMi(m:zD)(zs:List Zon)(ss:List Sgn)(r:List Int)(len:Int)(ps:List Pss)(vs:List Vis)(was now:zci)(sw:List Swp):Int :=
 zKs [onW m r now,zMt m r now,zMF m r now sw,zMG zs len ps vs was now sw,zMH zs ss vs was now]
def zKr(m:zD)(zs:List Zon)(ss:List Sgn)(r:List Int)(len:Int)(ps:List Pss)(vs:List Vis)(signals:Bool):List Int->Nat->zci->Option (Nat×Int)×zci
 |[],n,k=>(none,k)
 |a::t,n,k=>if zMi m zs ss r len ps vs k (zEt m zs ss r len signals k a) (zKu m zs ss r len signals k a)=0 then zKr m zs ss r len ps vs signals t (n+1) (zEt m zs ss r len signals k a) else(some (n+1,zMi m zs ss r len ps vs k (zEt m zs ss r len signals k a) (zKu m zs ss r len signals k a)),k)
def zNe{m:zD}{zs:List Zon}{ss:List Sgn}{r:List Int}{len:Int}{ps:List Pss}{vs:List Vis}{was now:zci}{sw:List Swp}(h:zMi m zs ss r len ps vs was now sw=0):now.ego.shi<=zmd m 0 r:=by
 have ho:onW m r now=0:=by
  unfold zMi at h;rw[zKs]at h;by_cases c:onW m r now=0
  ·exact c
  ·rw[if_neg c]at h;exact absurd h c
 unfold onW at ho;split at ho
 ·cases ho
 ·omega
def zV2(m:zD)(r:List Int)(tick:Int)(e:Ego)(a:Int):Prop:=1099511627776<=tick\/1099511627776<(zaN m r e a).shi
instance(m:zD)(r:List Int)(tick:Int)(e:Ego)(a:Int):Decidable (zV2 m r tick e a):=by unfold zV2;infer_instance
def fbF(m:zD)(r:List Int):List Int->Int->Ego->Option Nat
 |[],_,_=>none
 |a::t,tk,e=>if zV2 m r tk e a then some 0 else if zmd m 0 r<(zaN m r e a).shi then none else(fbF m r t (tk+1) (zaN m r e a)).map (· + 1)
def zO8(m:zD)(r:List Int):∀(t:List Int) (tk:Int) (e:Ego) (b:Nat),fbF m r t tk e=some b->b<t.length
 |[],_,_,_,h=>by cases h
 |a::t,tk,e,b,h=>by
  unfold fbF at h;split at h
  ·cases h;simp
  ·split at h
   ·cases h
   ·rw[ja]at h;obtain⟨b',h1,rfl⟩:=h;have:=zO8 m r t _ _ _ h1;simp;omega
def zLX(m:zD)(r:List Int):∀(t:List Int) (tk:Int) (e:Ego) (n:Nat),fbF m r (t.take n) tk e=(fbF m r t tk e).bind fun b=>if b<n then some b else none
 |[],_,_,n=>by simp[fbF]
 |a::t,tk,e,0=>by
  rw[v9,show fbF m r [] tk e=none from rfl];cases fbF m r (a::t) tk e<;>simp
 |a::t,tk,e,n+1=>by
  rw[List.take_succ_cons];unfold fbF;split
  ·simp
  ·split
   ·rfl
   ·rw[zLX m r t _ _ n];cases fbF m r t (tk+1) (zaN m r e a)with
    |none=>rfl
    |some b =>
     by_cases h:b<n
     ·simp[h]
     ·simp[h]
def zKX(x:Bool×Int×Int):Option Nat->Bool×Int×Int
 |none=>x
 |some b=>if 0<x.2.1/\x.2.1<=b/\x.2.2≠7 then x else(false,0,1)
def zOP(NW:List Cl)(SW:Cl):Prop:=∃k x,NW=zG k/\SW=.jb x
def zVX{m:zD}{zs:List Zon}{ss:List Sgn}(hF:zKj m zs ss){r:List Int}(hr:zdA m r=0)(len:Int)(hlen:0<=len/\len<=20000)(ps:List Pss)(hp:ps.length<=1000)(vs:List Vis)(qq:Nat)(hq0:qq=0/\vs=[]\/qq=1/\vs≠[])(hvl:vs.length<=100)(hvo:∀v∈vs,zKN zs v)(signals:Bool)(gv u w n:Nat)(hn:n<1000)(k:zci)(NW:List Cl)(SW:Cl)(hSW:zKq NW SW)(hk:KJ m k)(a:Int) :
  R L Cs zJ0 [.c (.yld 0 zJ0 rsh),.a (zG (zEt m zs ss r len signals k a)),.c (.jb (zbf (zKu m zs ss r len signals k a)))] (rdG qq m r len ps vs 0 gv u k NW SW w n 0 (zJY false 0 0)) =
    some (if zMi m zs ss r len ps vs k (zEt m zs ss r len signals k a) (zKu m zs ss r len signals k a)=0 then(.w (Bo true),rdG qq m r len ps vs 0 (gv+1+1) (u+1+1+1) (zEt m zs ss r len signals k a) (zG (zEt m zs ss r len signals k a)) (.jb (zbf (zKu m zs ss r len signals k a))) (w+1) (n+1) 0 (zJY false 0 0))
     else(.w (Bo false),rdG qq m r len ps vs 2 (gv+1+1) (u+1+1) k (zG (zEt m zs ss r len signals k a)) (.jb (zbf (zKu m zs ss r len signals k a))) (w+1) (n+1) 1 (zJY false (n+1) (zMi m zs ss r len ps vs k (zEt m zs ss r len signals k a) (zKu m zs ss r len signals k a))))):=by
 have hf:=hF.full;have h:=hf.qO;obtain⟨hon,hne,hl8⟩:=zg1 h hr;have hsl:=zNq (zs:=zs) (ss:=ss) hf hr len signals hk a;have hso:=zOa (zs:=zs) (ss:=ss) hf r len signals hk a;have hd:=zLs h hr hk.ego a;have hes:=hk.ego.s;have hE:=zFu h r hl8 hon;have he1:(zEt m zs ss r len signals k a).ego=zaN m r k.ego a:=rfl;rw[<-he1]at hd;generalize zEt m zs ss r len signals k a=nx at *;generalize zKu m zs ss r len signals k a=sw at *;have e1:=zNc m r len ps vs (u+1+1) k nx sw;have e2:=fun(h0':onW m r nx=0)=>zPf h hF.kT r wA hon len ps vs (u+1+1) k nx (by
   have:nx.ego.shi<=zmd m 0 r:=by
    grind [onW]
   omega) sw
 have e3:=zOh h r hl8 hon len ps vs (u+1+1) k nx sw hsl hso;have e4:=zOi hf.zd.z r len wA ps hp vs hvl hvo (u+1+1) k nx wA sw hsl;have e5:=zNd hf r len ps vs hvl hvo (u+1+1) k nx sw;exact zV5 m r len ps vs qq hq0 gv u k NW nx SW hSW sw w n hn _ (zVZ m r len ps vs qq hq0 (gv+1) (u+1+1) k nx sw (w+1) ((n:Int)+1) (onW m r nx) (zMt m r nx) (zMF m r nx sw) (zMG zs len ps vs k nx sw) (zMH zs ss vs k nx) e1 e2 e3 e4 e5)
abbrev zVG(qq:Nat)(m:zD)(r:List Int)(len:Int)(ps:List Pss)(vs:List Vis)(s:Int)(gv u:Nat)(was:zci)(NW:List Cl)(SW:Cl)(w:Nat)(n:Int)(fv:Nat)(F:List Cl)(jR:List Int)(kv:Nat)(k:zci)(signals:Bool):Mem:=rdG qq m r len ps vs s gv u was NW SW w n fv F++[bx 1 [.jb (zu jR)],bx 1 [.ptr 2 0 0 0],bxv kv 6 (zG k),bx 1 [.bool signals]]
abbrev zVK(qq:Nat)(jR:List Int)(i:Nat):Env:=[(12,.w (W jR.length)),(11,.w (.c (.jb (zu jR)))),(2,.w (Pt (qq+6))),(4,.w (Pt (qq+8))),(0,.w (.c (.yld 0 zJ0 rsh))),(3,.w (Pt (qq+7))),(13,.w (W i))]
def zVU{m:zD}{zs:List Zon}{ss:List Sgn}(hF:zKj m zs ss){r:List Int}(hr:zdA m r=0)(len:Int)(hlen:0<=len/\len<=20000)(ps:List Pss)(hp:ps.length<=1000)(vs:List Vis)(qq:Nat)(hq0:qq=0/\vs=[]\/qq=1/\vs≠[])(hvl:vs.length<=100)(hvo:∀v∈vs,zKN zs v)(signals:Bool)(jR:List Int)(hin:∀a∈jR,zk0 a)(hal:jR.length<=500):∀(t:List Int) (i:Nat) (gv u w:Nat) (k:zci) (NW:List Cl) (SW:Cl) (kv:Nat),jR.drop i=t->i<=jR.length->KJ m k->0<=k.tick/\k.tick<=1099511627776+i->zKq NW SW ->
  match zKr m zs ss r len ps vs signals t i k with
  |(none,kf)=>∃gv' u' w' NW' SW' kv',zKq NW' SW'/\(gv+min 1 t.length<=gv'/\u+min 1 t.length<=u'/\w+min 1 t.length<=w'/\(kv'=kv/\kf=k\/kv<kv')/\(zOP NW' SW'\/t=[]/\NW'=NW/\SW'=SW))/\Y L Cs zHM (some [12,11,2,4,0,3,13]) (qq+9) (zVK qq jR i) (zVG qq m r len ps vs 0 gv u k NW SW w i 0 (zJY false 0 0) jR kv k signals) =
    some (.exit 0,[(14,.w (Bo false)),(3,.w (Pt (qq+7))),(0,.w (.c (.yld 0 zJ0 rsh))),(4,.w (Pt (qq+8))),(2,.w (Pt (qq+6))),(11,.w (.c (.jb (zu jR)))),(12,.w (W jR.length)),(13,.w (W jR.length))],zVG qq m r len ps vs 0 gv' u' kf NW' SW' w' jR.length 0 (zJY false 0 0) jR kv' kf signals)
  |(some (at',why),kf)=>∃gv' u' w' NW' SW' kv' kk X E,zKq NW' SW'/\(gv+min 1 t.length<=gv'/\u+min 1 t.length<=u'/\w+min 1 t.length<=w'/\(kv'=kv/\kk=k\/kv<kv')/\zOP NW' SW')/\Y L Cs zHM (some [12,11,2,4,0,3,13]) (qq+9) (zVK qq jR i) (zVG qq m r len ps vs 0 gv u k NW SW w i 0 (zJY false 0 0) jR kv k signals) =
    some (.ret,E,zVG qq m r len ps vs 2 gv' u' kf NW' SW' w' at' 1 (zJY false at' why) jR kv' kk signals++[bxv 1 6 (zG X)]):=by
 have hf:=hF.full;have h:=hf.qO;obtain⟨hon,hne,hl8⟩:=zg1 h hr;have hEb:=zFu h r hl8 hon;intro t;induction t with
 |nil =>
  intro i gv u w k NW SW kv hd hi hk ht hSW;obtain rfl:=zUb hd hi;refine⟨gv,u,w,NW,SW,kv,hSW,⟨jm _,jm _,jm _,.inl ⟨rfl,rfl⟩,.inr ⟨rfl,rfl,rfl⟩⟩,?_⟩;rw[ZfM zHM.eq_1];simp[zVK,zVG]
 |cons a t ih =>
  intro i gv u w k NW SW kv hd hi hk ht hSW;obtain⟨hil,ha,hd'⟩:=zL hd;have hw:=zB (i:=i) wA;have v1:¬gv+1+1=gv:=wA
  have v2:¬u+1+1+1=u:=wA
  have v3:¬u+1+1=u:=wA
  have v4:¬w+1=w:=wA
  have hS:=zux hf hr len hlen k (zN7 h hf.yn hk) wA hk.ego hk.vb a (hin a (by rw[<-ha];exact jf hil)) signals;have hRd:=zVX hF hr len hlen ps hp vs qq hq0 hvl hvo signals gv u w i wA k NW SW hSW hk a;have hKs:=zNm hf hr len signals hk a (zs:=zs) (ss:=ss);have htk:(zEt m zs ss r len signals k a).tick=k.tick+1:=rfl;have hon2:=zNe (m:=m) (zs:=zs) (ss:=ss) (r:=r) (len:=len) (ps:=ps) (vs:=vs) (was:=k) (now:=zEt m zs ss r len signals k a) (sw:=zKu m zs ss r len signals k a);rw[show zpg m zs ss r len k (zaN m r k.ego a) signals=zEt m zs ss r len signals k a from rfl,show zhp (zlg (zfV m zs ss r len k (zaN m r k.ego a) signals))=zKu m zs ss r len signals k a from rfl]at hS;unfold zKr;by_cases c:zMi m zs ss r len ps vs k (zEt m zs ss r len signals k a) (zKu m zs ss r len signals k a)=0
  ·rw[if_pos c];rw[if_pos c]at hRd;have hshi:=hon2 c;have hK:=hKs wA;have ih':=ih (i+1) (gv+1+1) (u+1+1+1) (w+1) (zEt m zs ss r len signals k a) (zG (zEt m zs ss r len signals k a)) (.jb (zbf (zKu m zs ss r len signals k a))) (kv+1) hd' hil hK (by rw[htk];omega) (.inr ⟨_,_,rfl,rfl⟩);have step:Y L Cs zHM (some [12,11,2,4,0,3,13]) (qq+9) (zVK qq jR i) (zVG qq m r len ps vs 0 gv u k NW SW w i 0 (zJY false 0 0) jR kv k signals)=Y L Cs zHM (some [12,11,2,4,0,3,13]) (qq+9) (zVK qq jR (i+1)) (zVG qq m r len ps vs 0 (gv+1+1) (u+1+1+1) (zEt m zs ss r len signals k a) (zG (zEt m zs ss r len signals k a)) (.jb (zbf (zKu m zs ss r len signals k a))) (w+1) ((i+1:Nat):Int) 0 (zJY false 0 0) jR (kv+1) (zEt m zs ss r len signals k a) signals):=by
    clear ih ih' hKs hon2 hK htk hshi;generalize zEt m zs ss r len signals k a=nx at *;generalize zKu m zs ss r len signals k a=sw at *;rw[ZfM zHM.eq_1];rcases hq0 with⟨rfl,-⟩ |⟨rfl,-⟩<;>rcases hSW with⟨rfl,rfl⟩ |⟨k0,x,rfl,rfl⟩<;>simp only[jU,↓reduceIte,jJ,Nat.reduceAdd,rdG,rdA,rdB,jC,zox,zh,zi,zf,zG,zJY,own,zJZ,jh,je]at hS hRd<;>simp (maxSteps:=1000000) [zVK,zVG,rdG,rdA,rdB,jC,zox,zh,zi,zf,zG,zJY,own,hil,ha,hw,hS,hRd,v1,v2,v3,v4,zg,zH]
   rw[step];clear step;revert ih';generalize zKr m zs ss r len ps vs signals t (i+1) (zEt m zs ss r len signals k a)=V;obtain⟨V1,kf⟩:=V;cases V1 with
   |none =>
    rintro⟨gv',u',w',NW',SW',kv',hO,⟨q1,q2,q3,q4,q5⟩,g⟩;exact⟨gv',u',w',NW',SW',kv',hO,⟨by simp only[jl];omega,by simp only[jl];omega,by simp only[jl];omega,.inr wA,.inl (q5.elim id fun q=>⟨_,_,q.2.1,q.2.2⟩)⟩,g⟩
   |some y =>
    rintro⟨gv',u',w',NW',SW',kv',kk,X,E,hO,⟨q1,q2,q3,q4,q5⟩,g⟩;exact⟨gv',u',w',NW',SW',kv',kk,X,E,hO,⟨by simp only[jl];omega,by simp only[jl];omega,by simp only[jl];omega,.inr wA,q5⟩,g⟩
  ·rw[if_neg c];rw[if_neg c]at hRd;refine⟨gv+1+1,u+1+1,w+1,zG (zEt m zs ss r len signals k a),.jb (zbf (zKu m zs ss r len signals k a)),kv,k,zEt m zs ss r len signals k a,[(32,.w (Bo true)),(3,.w (Pt (qq+7))),(0,.w (.c (.yld 0 zJ0 rsh))),(4,.w (Pt (qq+8))),(2,.w (Pt (qq+6))),(11,.w (.c (.jb (zu jR)))),(12,.w (W jR.length)),(13,.w (W i)),(8,.w (Pt (qq+9)))],.inr ⟨_,_,rfl,rfl⟩,⟨by simp only[jl];omega,by simp only[jl];omega,by simp only[jl];omega,.inl ⟨rfl,rfl⟩,⟨_,_,rfl,rfl⟩⟩,?_⟩;clear ih hKs hon2 htk;generalize zMi m zs ss r len ps vs k (zEt m zs ss r len signals k a) (zKu m zs ss r len signals k a)=why at *;generalize zEt m zs ss r len signals k a=nx at *;generalize zKu m zs ss r len signals k a=sw at *;rw[ZfM zHM.eq_1];rcases hq0 with⟨rfl,-⟩ |⟨rfl,-⟩<;>rcases hSW with⟨rfl,rfl⟩ |⟨k0,x,rfl,rfl⟩<;>simp only[jU,↓reduceIte,jJ,Nat.reduceAdd,rdG,rdA,rdB,jC,zox,zh,zi,zf,zG,zJY,own,zJZ,jh,je]at hS hRd<;>simp (maxSteps:=1000000) [zVK,zVG,rdG,rdA,rdB,jC,zox,zh,zi,zf,zG,zJY,own,hil,ha,hw,hS,hRd,v1,v2,v3,v4,zg,zH]
def zOS(len:Int)(x:Ego)(v:Vis):Bool:=decide (v.first.lo<=x.shi)&&decide (x.slo-len<=v.last.hi)
abbrev zPQ(vs:List Vis):Option Blk:=some { box:=false,esz:=10,rows:=zKt vs,gen:=vs.length,fz:=true,ver:=vs.length+1 }
abbrev zMj(m:zD)(r:List Int)(len:Int)(ps:List Pss)(vs:List Vis)(u:Nat)(was:zci)(NW:List Cl)(SW:Cl)(x:Ego):Mem:=[bxv 1 4 (zch x),bx 1 [.ptr 2 0 0 0],bxv u 26 (jC m r len ps (.slice 3 vs.length 10 0 vs.length none) (zG was) NW SW),zPQ vs]
abbrev zMc:Cl:=.fn zKC [] [.ptr 0 0 0 0,.ptr 1 0 0 0]
def zN2(m:zD)(r:List Int)(len:Int)(hlen:0<=len/\len<=100000)(ps:List Pss)(vs:List Vis)(u:Nat)(was:zci)(NW:List Cl)(SW:Cl)(hO:zKq NW SW)(x:Ego)(hx:0<=x.slo/\x.slo<=1000000000000000)(v:Vis) :
  R L Cs zKC [.a (zJ1 v),.c (.ptr 0 0 0 0),.c (.ptr 1 0 0 0)] (zMj m r len ps vs u was NW SW x)=some (.w (Bo (zOS len x v)),zMj m r len ps vs u was NW SW x):=by
 rcases hO with⟨rfl,rfl⟩ |⟨k0,x0,rfl,rfl⟩
 all_goals
  have w1:=qB (x.slo-len);rw[zUa zLm rfl];unfold zOS;by_cases c1:v.first.lo<=x.shi<;>by_cases c2:x.slo-len<=v.last.hi<;>simp[zHQ,zMj,zch,zJ1,jC,zox,zh,zi,zf,zG,c1,c2,w1,zg,zH,own]
def zM0(m:zD)(r:List Int)(len:Int)(hlen:0<=len/\len<=100000)(ps:List Pss)(vs:List Vis)(hvl:vs.length<=100)(u:Nat)(was:zci)(NW:List Cl)(SW:Cl)(hO:zKq NW SW)(x:Ego)(hx:0<=x.slo/\x.slo<=1000000000000000) :
  R L Cs zKe [.c (.jb (zKt vs)),.c zMc] (zMj m r len ps vs u was NW SW x)=some (.w (Bo (vs.any (zOS len x))),zMj m r len ps vs u was NW SW x):=by
 have key:=zOy vs wA zMc (zOS len x) (zMj m r len ps vs u was NW SW x) (fun v _=>by
  have h:=zN2 m r len hlen ps vs u was NW SW hO x hx v;rcases hO with⟨rfl,rfl⟩ |⟨k0,x0,rfl,rfl⟩<;>simp only[zMj,zch,zJ1,jC,zox,zh,zi,zf,zG,own,zJZ,jh,je]at h<;>simp[h,zMj,zch,zJ1,jC,zox,zh,zi,zf,zG,own])
 obtain⟨k,h1,h2⟩:=key;rw[zUa zKf rfl];rcases hO with⟨rfl,rfl⟩ |⟨k0,x0,rfl,rfl⟩<;>simp only[zMj,zch,jC,zox,zh,zi,zf,zG,own,zJZ,jh,je]at h1<;>simp[zHs,h1,h2,zMj,zch,jC,zox,zh,zi,zf,zG,own]
def zLQ(len:Int)(vs:List Vis)(was:zci):Bool:=decide (was.ego.vhi=0) && !vs.any (zOS len was.ego)
def zNF(m:zD)(r:List Int)(len:Int)(hlen:0<=len/\len<=100000)(ps:List Pss)(vs:List Vis)(hvl:vs.length<=100)(u:Nat)(was:zci)(NW:List Cl)(SW:Cl)(hO:zKq NW SW)(hx:0<=was.ego.slo/\was.ego.slo<=1000000000000000) :
  R L Cs zLC [J0] (zJ3 m r len ps vs u (zG was) NW SW)=some (.w (Bo (zLQ len vs was)),zJ3 m r len ps vs u (zG was) NW SW):=by
 have hC:=zM0 m r len hlen ps vs hvl u was NW SW hO was.ego hx;unfold zLQ;rcases hO with⟨rfl,rfl⟩ |⟨k0,x0,rfl,rfl⟩
 ·by_cases c:was.ego.vhi=0
  ·have cb:(was.ego.vhi==0)=true:=by grind
   have ce:(was.ego.vhi=0)=True:=eq_true c;rw[zUa zKo rfl];by_cases h0:vs=[]
   ·subst h0;have hI:∀(fnv:Cl) (M:Mem),Y L Cs zHq (some [7,1,0,8]) M.length [(7,.w (W 0)),(1,.w (.c fnv)),(0,.w (.c (.jb []))),(8,.w (W 0))] M=some (.exit 0,[(9,.w (Bo false)),(0,.w (.c (.jb []))),(1,.w (.c fnv)),(7,.w (W 0)),(8,.w (W 0))],M):=by
     simp_all [ZfM,zHq.eq_1]
    have hC0:R L Cs zKe [.c (.jb []),.c zMc] [bxv 1 4 (zch was.ego),bx 1 [.ptr 2 0 0 0],bxv u 26 (jC m r len ps .jc (zG was) zox .jc)]=some (.w (Bo false),[bxv 1 4 (zch was.ego),bx 1 [.ptr 2 0 0 0],bxv u 26 (jC m r len ps .jc (zG was) zox .jc)]):=by
     have h1:R L Cs zKm [.c (.jb []),.c zMc] [bxv 1 4 (zch was.ego),bx 1 [.ptr 2 0 0 0],bxv u 26 (jC m r len ps .jc (zG was) zox .jc)]=some (.w (W (-1)),[bxv 1 4 (zch was.ego),bx 1 [.ptr 2 0 0 0],bxv u 26 (jC m r len ps .jc (zG was) zox .jc)]):=by
      have h2:=hI zMc [bxv 1 4 (zch was.ego),bx 1 [.ptr 2 0 0 0],bxv u 26 (jC m r len ps .jc (zG was) zox .jc)];simp only[zch,jC,zh,zi,zf,zox,zG,jl,jp,jh,je]at h2;rw[zUa zKb rfl];simp[zHF,zch,jC,zh,zi,zf,zox,zG,h2]
     rw[zUa zKf rfl]
     simp_all [zch,jC,zh,zi,zf,zox,zG,jh,je,zHs]
    simp only[zch,jC,zh,zi,zf,zox,zG,jh,je]at hC0;simp[zH3,zJ3,jC,zh,zi,zf,zox,zG,zch,cb,ce,hC0,zg,zH,own,zX]
   ·simp only[zMj,zPQ,zch,jC,zh,zi,zf,zox,zG,own,zJZ,jh,je]at hC;simp[zH3,zJ3,h0,jC,zh,zi,zf,zox,zG,zch,cb,ce,hC,zg,zH,own,zX]
  ·have cb:(was.ego.vhi==0)=false:=by simp[c]
   rw[zUa zKo rfl];by_cases h0:vs=[]<;>simp[zH3,zJ3,h0,jC,zh,zi,zf,zox,zG,zch,c,cb,zg,zH,own]
 ·by_cases c:was.ego.vhi=0
  ·have cb:(was.ego.vhi==0)=true:=by simp[c]
   have ce:(was.ego.vhi=0)=True:=eq_true c;rw[zUa zKo rfl];by_cases h0:vs=[]
   ·subst h0;have hI:∀(fnv:Cl) (M:Mem),Y L Cs zHq (some [7,1,0,8]) M.length [(7,.w (W 0)),(1,.w (.c fnv)),(0,.w (.c (.jb []))),(8,.w (W 0))] M=some (.exit 0,[(9,.w (Bo false)),(0,.w (.c (.jb []))),(1,.w (.c fnv)),(7,.w (W 0)),(8,.w (W 0))],M):=by
     intro fnv M;rw[ZfM zHq.eq_1];simp
    have hC0:R L Cs zKe [.c (.jb []),.c zMc] [bxv 1 4 (zch was.ego),bx 1 [.ptr 2 0 0 0],bxv u 26 (jC m r len ps .jc (zG was) (zG k0) (.jb x0))]=some (.w (Bo false),[bxv 1 4 (zch was.ego),bx 1 [.ptr 2 0 0 0],bxv u 26 (jC m r len ps .jc (zG was) (zG k0) (.jb x0))]):=by
     have h1:R L Cs zKm [.c (.jb []),.c zMc] [bxv 1 4 (zch was.ego),bx 1 [.ptr 2 0 0 0],bxv u 26 (jC m r len ps .jc (zG was) (zG k0) (.jb x0))]=some (.w (W (-1)),[bxv 1 4 (zch was.ego),bx 1 [.ptr 2 0 0 0],bxv u 26 (jC m r len ps .jc (zG was) (zG k0) (.jb x0))]):=by
      have h2:=hI zMc [bxv 1 4 (zch was.ego),bx 1 [.ptr 2 0 0 0],bxv u 26 (jC m r len ps .jc (zG was) (zG k0) (.jb x0))];simp only[zch,jC,zh,zi,zf,zox,zG,jl,jp,jh,je]at h2;rw[zUa zKb rfl];simp[zHF,zch,jC,zh,zi,zf,zox,zG,h2]
     rw[zUa zKf rfl];simp only[zch,jC,zh,zi,zf,zox,zG,jh,je]at h1;simp[zHs,h1,zch,jC,zh,zi,zf,zox,zG]
    simp only[zch,jC,zh,zi,zf,zox,zG,jh,je]at hC0;simp[zH3,zJ3,jC,zh,zi,zf,zox,zG,zch,cb,ce,hC0,zg,zH,own,zX]
   ·simp only[zMj,zPQ,zch,jC,zh,zi,zf,zox,zG,own,zJZ,jh,je]at hC;simp[zH3,zJ3,h0,jC,zh,zi,zf,zox,zG,zch,cb,ce,hC,zg,zH,own,zX]
  ·have cb:(was.ego.vhi==0)=false:=by simp[c]
   rw[zUa zKo rfl];by_cases h0:vs=[]<;>simp[zH3,zJ3,h0,jC,zh,zi,zf,zox,zG,zch,c,cb,zg,zH,own]
abbrev jmA(m:zD)(r:List Int)(len:Int)(ps:List Pss)(vs:List Vis)(u:Nat)(was NW:List Cl)(SW:Cl):Mem:=[bxv u 26 (jC m r len ps (.slice 1 vs.length 10 0 vs.length none) was NW SW),some (own 10 (zKt vs))]
abbrev jmB(m:zD)(r:List Int)(len:Int)(ps:List Pss)(vs:List Vis)(u:Nat)(was NW:List Cl)(SW:Cl):Mem:=[bxv u 26 (jC m r len ps .jc was NW SW)]
abbrev jmG(qq:Nat)(m:zD)(r:List Int)(len:Int)(ps:List Pss)(vs:List Vis)(u:Nat)(was NW:List Cl)(SW:Cl):Mem:=if qq=0 then jmB m r len ps vs u was NW SW else jmA m r len ps vs u was NW SW
def zVV(m:zD)(r:List Int)(len:Int)(ps:List Pss)(vs:List Vis)(qq:Nat)(hq0:qq=0/\vs=[]\/qq=1/\vs≠[])(u:Nat)(k k0:zci)(NW:List Cl)(SW:Cl)(hSW:zKq NW SW)(jR:List Int)(signals:Bool) :
  R L Cs zKZ [J0,.a (zG k),.a [.jb (zu jR)],Bo signals] (jmG qq m r len ps vs u (zG k0) NW SW)=some (.w (.c (.fn zJ8 [] [.ptr (qq+1) 0 0 0,.ptr (qq+2) 0 0 0,.ptr (qq+3) 0 0 0,.ptr (qq+4) 0 0 0])),jmG qq m r len ps vs u (zG k0) NW SW++[bx 1 [.jb (zu jR)],bx 1 [.ptr 0 0 0 0],bx 6 (zG k),bx 1 [.bool signals]]):=by
 rw[zUa zK4 rfl];rcases hq0 with⟨rfl,-⟩ |⟨rfl,-⟩<;>rcases hSW with⟨rfl,rfl⟩ |⟨k1,x,rfl,rfl⟩<;>simp[zIc,jmG,jmA,jmB,jC,zox,zh,zi,zf,zG,zJY,own,zg,zH,List.range,List.range.loop]
def zVT{m:zD}{zs:List Zon}{ss:List Sgn}(hF:zKj m zs ss){r:List Int}(hr:zdA m r=0)(len:Int)(hlen:0<=len/\len<=20000)(ps:List Pss)(hp:ps.length<=1000)(vs:List Vis)(qq:Nat)(hq0:qq=0/\vs=[]\/qq=1/\vs≠[])(hvl:vs.length<=100)(hvo:∀v∈vs,zKN zs v)(signals:Bool)(jR:List Int)(hin:∀a∈jR,zk0 a)(hal:jR.length<=500)(u:Nat)(k:zci)(NW:List Cl)(SW:Cl)(hk:KJ m k)(ht:0<=k.tick/\k.tick<=1099511627776)(hSW:zKq NW SW)(hne:jR≠[]) :
  ∃gv' u' w' NW' SW' kv' kk,zOP NW' SW'/\(gv'≠0/\u<u'/\w'≠1/\(kv'=0->kk=k))/\R L Cs zJ8 [.c (.yld 0 zJ0 rsh),Pt (qq+5),Pt (qq+6),Pt (qq+7),Pt (qq+8)] (zVG qq m r len ps vs 0 0 u k NW SW 1 0 0 (zJY false 0 0) jR 0 k signals) =
   some (.t [],match (zKr m zs ss r len ps vs signals jR 0 k).1 with
    |none=>zVG qq m r len ps vs 0 gv' u' (zKr m zs ss r len ps vs signals jR 0 k).2 NW' SW' w' jR.length 0 (zJY false 0 0) jR kv' kk signals
    |some (at',why)=>zVG qq m r len ps vs 2 gv' u' (zKr m zs ss r len ps vs signals jR 0 k).2 NW' SW' w' at' 1 (zJY false at' why) jR kv' kk signals):=by
 have g:=zVU hF hr len hlen ps hp vs qq hq0 hvl hvo signals jR hin hal jR 0 0 u 1 k NW SW 0 rfl (jr _) hk wA hSW;generalize zKr m zs ss r len ps vs signals jR 0 k=V at *;obtain⟨V1,kf⟩:=V;have hlp:=kD.2 hne;cases V1 with
 |none =>
  obtain⟨gv',u',w',NW',SW',kv',hO,⟨q1,q2,q3,q4,q5⟩,g⟩:=g;have hO:=q5.resolve_right fun q=>hne q.1
  refine⟨gv',u',w',NW',SW',kv',kf,hO,⟨wA,wA,wA,fun e=>q4.elim (fun q=>q.2) fun q=>wA⟩,?_⟩;clear q1 q2 q3 q4 q5;rw[zUa zKl rfl];rcases hq0 with⟨rfl,-⟩ |⟨rfl,-⟩<;>rcases hSW with⟨rfl,rfl⟩ |⟨k0,x,rfl,rfl⟩<;>obtain⟨k1,x1,rfl,rfl⟩:=hO<;>simp only[jU,↓reduceIte,jJ,Nat.reduceAdd,zVK,zVG,rdG,rdA,rdB,jC,zox,zh,zi,zf,zG,zJY,own,zJZ,jh,je,jg]at g<;>simp (maxSteps:=1000000) [zHZ,zVK,zVG,rdG,rdA,rdB,jC,zox,zh,zi,zf,zG,zJY,own,g,zg,zH,List.range,List.range.loop]
 |some y =>
  obtain⟨at',why⟩:=y;obtain⟨gv',u',w',NW',SW',kv',kk,X,E,hO,⟨q1,q2,q3,q4,hO⟩,g⟩:=g;refine⟨gv',u',w',NW',SW',kv',kk,hO,⟨wA,wA,wA,fun e=>q4.elim (fun q=>q.2) fun q=>wA⟩,?_⟩;clear q1 q2 q3 q4;rw[zUa zKl rfl];rcases hq0 with⟨rfl,-⟩ |⟨rfl,-⟩<;>rcases hSW with⟨rfl,rfl⟩ |⟨k0,x,rfl,rfl⟩<;>obtain⟨k1,x1,rfl,rfl⟩:=hO<;>simp only[jU,↓reduceIte,jJ,Nat.reduceAdd,zVK,zVG,rdG,rdA,rdB,jC,zox,zh,zi,zf,zG,zJY,own,zJZ,jh,je,jg]at g<;>simp (maxSteps:=1000000) [zHZ,zVK,zVG,rdG,rdA,rdB,jC,zox,zh,zi,zf,zG,zJY,own,g,zg,zH,List.range,List.range.loop]
def zN8{m:zD}{zs:List Zon}{ss:List Sgn}(hF:zKj m zs ss){r:List Int}(hr:zdA m r=0)(len:Int)(ps:List Pss)(vs:List Vis)(signals:Bool):∀(t:List Int) (i:Nat) (k:zci),KJ m k->KJ m (zKr m zs ss r len ps vs signals t i k).2:=by
 have hf:=hF.full;have h:=hf.qO;obtain⟨hon,hne,hl8⟩:=zg1 h hr;have hEb:=zFu h r hl8 hon;intro t;induction t with
 |nil=>intro i k hk;exact hk
 |cons a t ih =>
  intro i k hk;unfold zKr;split
  ·rename_i c;exact ih _ _ (zNm hf hr len signals hk a (by have:=zNe c;omega))
  grind
def zLH(len:Int)(vs:List Vis)(jR:List Int)(V:Option (Nat×Int)×zci):Bool×Int×Int:=match V.1 with
 |none=>if zLQ len vs V.2 then(true,0,0) else(false,jR.length,7)
 |some (at',why)=>(false,at',why)
def zJ4(x:Bool×Int×Int):List Cl:=zJY x.1 x.2.1 x.2.2
def zMo(WAS:List Cl):Prop:=WAS=zox\/∃k0,WAS=zG k0
def zVS{m:zD}{zs:List Zon}{ss:List Sgn}(hF:zKj m zs ss){r:List Int}(hr:zdA m r=0)(len:Int)(hlen:0<=len/\len<=20000)(ps:List Pss)(hp:ps.length<=1000)(vs:List Vis)(qq:Nat)(hq0:qq=0/\vs=[]\/qq=1/\vs≠[])(hvl:vs.length<=100)(hvo:∀v∈vs,zKN zs v)(signals:Bool)(jR:List Int)(hin:∀a∈jR,zk0 a)(hal:jR.length<=500)(u:Nat)(k:zci)(WAS NW:List Cl)(SW:Cl)(hk:KJ m k)(ht:0<=k.tick/\k.tick<=1099511627776)(hW:zMo WAS)(hSW:zKq NW SW)(hne0:jR≠[]) :
  ∃u' NW' SW',zKq NW' SW'/\u'≠u/\R L Cs zKM [J0,.a (zG k),.a [.jb (zu jR)],Bo signals] (jmG qq m r len ps vs u WAS NW SW) =
   some (.w (.a (zJ4 (zLH len vs jR (zKr m zs ss r len ps vs signals jR 0 k)))),jmG qq m r len ps vs u' (zG (zKr m zs ss r len ps vs signals jR 0 k).2) NW' SW'):=by
 obtain⟨gv',u',w',NW',SW',kv',kk,hO,⟨q1,q20,q3,q4⟩,g⟩:=zVT hF hr len hlen ps hp vs qq hq0 hvl hvo signals jR hin hal (u+1) k NW SW hk ht hSW hne0;have hA:=zVV m r len ps vs qq hq0 (u+1) k k NW SW hSW jR signals;have hkf:=zN8 hF hr len ps vs signals jR 0 k hk;have hST:=zNF m r len wA ps vs hvl u' (zKr m zs ss r len ps vs signals jR 0 k).2 NW' SW' (.inr hO) (by have:=hkf.ego.s;omega);have q6:(kv'=0/\kk=k)\/¬kv'=0:=(Classical.em (kv'=0)).imp (fun e=>⟨e,q4 e⟩) id;have hne:¬(zJ0=zJ8):=wC
 have q2:u'≠u+1:=wA
 refine⟨u',NW',SW',.inr hO,wA,?_⟩;clear hkf;generalize zKr m zs ss r len ps vs signals jR 0 k=V at *;obtain⟨V1,kf⟩:=V;rw[zUa zKO rfl];cases V1 with
 |none =>
  rw[zJ3,zVW hq0]at hST;cases hq:zLQ len vs kf with
  |true =>
   rw[hq]at hST;rcases hq0 with⟨rfl,-⟩ |⟨rfl,-⟩<;>rcases hW with rfl |⟨kw,rfl⟩<;>rcases hSW with⟨rfl,rfl⟩ |⟨k0,x,rfl,rfl⟩<;>obtain⟨k1,x1,rfl,rfl⟩:=hO<;>rcases q6 with⟨c4,rfl⟩|c4<;>simp only[jU,↓reduceIte,jJ,Nat.reduceAdd,rdG,rdA,rdB,jC,zox,zh,zi,zf,zG,zJY,own,zJZ,jh,je,jg,jmG,jmA,jmB,zVG,rsh]at g hA hST<;>simp (maxSteps:=1000000) [zH2,jmG,jmA,jmB,zVG,rdG,rdA,rdB,jC,zox,zh,zi,zf,zG,zJY,own,zJ4,zLH,zNb,zeN,ghost,znr,zsR,Eng.kM,hne,zg,zH,List.range,List.range.loop,rsh,g,q1,q2,q3,c4,hA,hq,hST]
  |false =>
   rw[hq]at hST;rcases hq0 with⟨rfl,-⟩ |⟨rfl,-⟩<;>rcases hW with rfl |⟨kw,rfl⟩<;>rcases hSW with⟨rfl,rfl⟩ |⟨k0,x,rfl,rfl⟩<;>obtain⟨k1,x1,rfl,rfl⟩:=hO<;>rcases q6 with⟨c4,rfl⟩|c4<;>simp only[jU,↓reduceIte,jJ,Nat.reduceAdd,rdG,rdA,rdB,jC,zox,zh,zi,zf,zG,zJY,own,zJZ,jh,je,jg,jmG,jmA,jmB,zVG,rsh]at g hA hST<;>simp (maxSteps:=1000000) [zH2,jmG,jmA,jmB,zVG,rdG,rdA,rdB,jC,zox,zh,zi,zf,zG,zJY,own,zJ4,zLH,zNb,zeN,ghost,znr,zsR,Eng.kM,hne,zg,zH,List.range,List.range.loop,rsh,g,q1,q2,q3,c4,hA,hq,hST]
 |some y =>
  obtain⟨at',why⟩:=y;clear hST;rcases hq0 with⟨rfl,-⟩ |⟨rfl,-⟩<;>rcases hW with rfl |⟨kw,rfl⟩<;>rcases hSW with⟨rfl,rfl⟩ |⟨k0,x,rfl,rfl⟩<;>obtain⟨k1,x1,rfl,rfl⟩:=hO<;>rcases q6 with⟨c4,rfl⟩|c4<;>simp only[jU,↓reduceIte,jJ,Nat.reduceAdd,rdG,rdA,rdB,jC,zox,zh,zi,zf,zG,zJY,own,zJZ,jh,je,jg,jmG,jmA,jmB,zVG,rsh]at g hA<;>simp (maxSteps:=1000000) [zH2,jmG,jmA,jmB,zVG,rdG,rdA,rdB,jC,zox,zh,zi,zf,zG,zJY,own,zJ4,zLH,zNb,zeN,ghost,znr,zsR,Eng.kM,hne,zg,zH,List.range,List.range.loop,rsh,g,q1,q2,q3,c4,hA]
abbrev zVM(qq:Nat)(jR:List Int)(i:Nat):Env:=[(13,.w (W i)),(12,.w (W jR.length)),(11,.w (.c (.jb (zu jR)))),(4,.w (Pt (qq+1))),(0,.w J0)]
abbrev zVI(qq:Nat)(m:zD)(r:List Int)(len:Int)(ps:List Pss)(vs:List Vis)(u:Nat)(was NW:List Cl)(SW:Cl)(v:Nat)(k:zci)(jR:List Int):Mem:=jmG qq m r len ps vs u was NW SW++[bxv v 6 (zG k),bx 1 [.jb (zu jR)]]
def zVO{m:zD}(h:zcp m){r:List Int}(hr:zdA m r=0)(len:Int)(ps:List Pss)(vs:List Vis)(qq:Nat)(hq0:qq=0/\vs=[]\/qq=1/\vs≠[])(u:Nat)(was:zci)(NW:List Cl)(SW:Cl)(hSW:zKq NW SW)(jR:List Int)(hin:∀a∈jR,zk0 a)(hal:jR.length<=500)(bs:List zk):∀(t:List Int) (i v:Nat) (tk:Int) (e:Ego),jR.drop i=t->i<=jR.length->znd e->0<=tk/\tk<=1099511627776 ->
  (fbF m r t tk e=none->∃v' k' E T,(T=[]\/∃e2,T=[bxv 1 4 (zch e2)])/\Y L Cs zIC (some [13,12,11,4,0]) (qq+3) (zVM qq jR i) (zVI qq m r len ps vs u (zG was) NW SW v ⟨tk,bs,e⟩ jR)=some (.exit 0,E,zVI qq m r len ps vs u (zG was) NW SW v' k' jR++T)) /\
  (fbF m r t tk e≠none->∃v' k' e2,Y L Cs zIC (some [13,12,11,4,0]) (qq+3) (zVM qq jR i) (zVI qq m r len ps vs u (zG was) NW SW v ⟨tk,bs,e⟩ jR)=some (.ret,[(6,.w (Bo false))],zVI qq m r len ps vs u (zG was) NW SW v' k' jR++[bxv 1 4 (zch e2)])):=by
 obtain⟨hon,hne,hl8⟩:=zg1 h hr;have hEb:=zFu h r hl8 hon;intro t;induction t with
 |nil =>
  intro i v tk e hd hi he ht;obtain rfl:=zUb hd hi;refine⟨fun _=>⟨v,⟨tk,bs,e⟩,[(14,.w (Bo false)),(13,.w (W jR.length)),(12,.w (W jR.length)),(11,.w (.c (.jb (zu jR)))),(4,.w (Pt (qq+1))),(0,.w J0)],[],.inl rfl,?_⟩,fun hq=>absurd rfl hq⟩;rw[ZfM zIC.eq_1];simp
 |cons a t ih =>
  intro i v tk e hd hi he ht;obtain⟨hil,ha,hd'⟩:=zL hd;have hw:=zB (i:=i) wA;have hD:R L Cs zgW [.a (zh m r len),.a (zch e),W a] []=some (.w (.a (zch (zaN m r e a))),[]):=by
   obtain⟨x0,r',rfl⟩:∃x r',r=x::r':=by cases r with|nil=>exact absurd rfl hne|cons x r'=>exact⟨x,r',rfl⟩
   exact zvQ h x0 r' len (hon x0 (js ..)) e he a (hin a (by rw[<-ha];exact jf hil))
  have hd2:=zLs h hr he a;unfold fbF;have w2:tk<1099511627776->IntKind.i64.wrap (tk+1)=tk+1:=fun q=>zTd _ wA wA
  by_cases c:zV2 m r tk e a
  ·rw[if_pos c];refine⟨fun q=>(by cases q),fun _=>?_⟩;clear ih;unfold zV2 at c;generalize zaN m r e a=x at *;refine⟨v,⟨tk,bs,e⟩,x,?_⟩;by_cases c1:1099511627776<=tk
   ·rw[ZfM zIC.eq_1];rcases hq0 with⟨rfl,-⟩ |⟨rfl,-⟩<;>rcases hSW with⟨rfl,rfl⟩ |⟨k0,y,rfl,rfl⟩<;>simp only[jU,↓reduceIte,jJ,Nat.reduceAdd,zh,zi,zf,zch,jh,je]at hD<;>simp (maxSteps:=1000000) [zVM,zVI,jmG,jmA,jmB,jC,zox,zh,zi,zf,zG,own,zch,hil,ha,hw,hD,c1,zg,zH]
   ·have c2:1099511627776<x.shi:=c.resolve_left c1;rw[ZfM zIC.eq_1];rcases hq0 with⟨rfl,-⟩ |⟨rfl,-⟩<;>rcases hSW with⟨rfl,rfl⟩ |⟨k0,y,rfl,rfl⟩<;>simp only[jU,↓reduceIte,jJ,Nat.reduceAdd,zh,zi,zf,zch,jh,je]at hD<;>simp (maxSteps:=1000000) [zVM,zVI,jmG,jmA,jmB,jC,zox,zh,zi,zf,zG,own,zch,hil,ha,hw,hD,c1,c2,zg,zH]
  ·rw[if_neg c];unfold zV2 at c;have c1:¬1099511627776<=tk:=fun q=>c (.inl q)
   have c2:¬1099511627776<(zaN m r e a).shi:=fun q=>c (.inr q)
   by_cases d:zmd m 0 r<(zaN m r e a).shi
   ·rw[if_pos d];refine⟨fun _=>?_,fun q=>absurd rfl q⟩;clear ih;generalize zaN m r e a=x at *;refine⟨v,⟨tk,bs,e⟩,[(40,.w (Bo true)),(0,.w J0),(4,.w (Pt (qq+1))),(11,.w (.c (.jb (zu jR)))),(12,.w (W jR.length)),(13,.w (W i)),(9,.w (Pt (qq+3)))],[bxv 1 4 (zch x)],.inr ⟨x,rfl⟩,?_⟩;rw[ZfM zIC.eq_1];rcases hq0 with⟨rfl,-⟩ |⟨rfl,-⟩<;>rcases hSW with⟨rfl,rfl⟩ |⟨k0,y,rfl,rfl⟩<;>simp only[jU,↓reduceIte,jJ,Nat.reduceAdd,zh,zi,zf,zch,jh,je]at hD<;>simp (maxSteps:=1000000) [zVM,zVI,jmG,jmA,jmB,jC,zox,zh,zi,zf,zG,own,zch,hil,ha,hw,hD,c1,c2,d,zg,zH]
   ·rw[if_neg d];obtain⟨i1,i2⟩:=ih (i+1) (v+1+1) (tk+1) (zaN m r e a) hd' hil ⟨⟨hd2.1,hd2.2.1,wA⟩,⟨hd2.2.2.2.1,hd2.2.2.2.2.1,hd2.2.2.2.2.2⟩⟩ wA;have step:Y L Cs zIC (some [13,12,11,4,0]) (qq+3) (zVM qq jR i) (zVI qq m r len ps vs u (zG was) NW SW v ⟨tk,bs,e⟩ jR)=Y L Cs zIC (some [13,12,11,4,0]) (qq+3) (zVM qq jR (i+1)) (zVI qq m r len ps vs u (zG was) NW SW (v+1+1) ⟨tk+1,bs,zaN m r e a⟩ jR):=by
     clear ih i1 i2;have w3:=w2 wA;generalize zaN m r e a=x at *;rw[ZfM zIC.eq_1];rcases hq0 with⟨rfl,-⟩ |⟨rfl,-⟩<;>rcases hSW with⟨rfl,rfl⟩ |⟨k0,y,rfl,rfl⟩<;>simp only[jU,↓reduceIte,jJ,Nat.reduceAdd,zh,zi,zf,zch,jh,je]at hD<;>simp (maxSteps:=1000000) [zVM,zVI,jmG,jmA,jmB,jC,zox,zh,zi,zf,zG,own,zch,hil,ha,hw,hD,c1,c2,d,w3,zg,zH]
    rw[step];cases hq:fbF m r t (tk+1) (zaN m r e a)with
    |none=>exact⟨fun _=>i1 hq,fun q=>absurd rfl q⟩
    |some b=>exact⟨fun q=>(by cases q),fun _=>i2 (by rw[hq];simp)⟩
def zVL{m:zD}(h:zcp m){r:List Int}(hr:zdA m r=0)(len:Int)(ps:List Pss)(vs:List Vis)(qq:Nat)(hq0:qq=0/\vs=[]\/qq=1/\vs≠[])(u:Nat)(was:zci)(NW:List Cl)(SW:Cl)(hSW:zKq NW SW)(jR:List Int)(hin:∀a∈jR,zk0 a)(hal:jR.length<=500)(k:zci)(he:znd k.ego)(ht:0<=k.tick/\k.tick<=1099511627776) :
  R L Cs zLY [J0,.a (zG k),.a [.jb (zu jR)]] (jmG qq m r len ps vs u (zG was) NW SW)=some (.w (Bo (fbF m r jR k.tick k.ego).isNone),jmG qq m r len ps vs u (zG was) NW SW):=by
 obtain⟨g1,g2⟩:=zVO h hr len ps vs qq hq0 u was NW SW hSW jR hin hal k.jZ jR 0 0 k.tick k.ego rfl (jr _) he ht;rw[zUa zL1 rfl];cases hq:fbF m r jR k.tick k.ego with
 |none =>
  obtain⟨v',k',E,T,hT,g⟩:=g1 hq;rcases hq0 with⟨rfl,-⟩ |⟨rfl,-⟩<;>rcases hSW with⟨rfl,rfl⟩ |⟨k0,y,rfl,rfl⟩<;>rcases hT with rfl |⟨e2,rfl⟩<;>simp only[jU,↓reduceIte,jJ,Nat.reduceAdd,zVM,zVI,jmG,jmA,jmB,jC,zox,zh,zi,zf,zG,own,zch,zJZ,jh,je,ku,jg]at g<;>simp (maxSteps:=1000000) [zIU,jmG,jmA,jmB,jC,zox,zh,zi,zf,zG,own,zch,g,zg,zH]
 |some b =>
  obtain⟨v',k',e2,g⟩:=g2 (by grind);rcases hq0 with⟨rfl,-⟩ |⟨rfl,-⟩<;>rcases hSW with⟨rfl,rfl⟩ |⟨k0,y,rfl,rfl⟩<;>simp only[jU,↓reduceIte,jJ,Nat.reduceAdd,zVM,zVI,jmG,jmA,jmB,jC,zox,zh,zi,zf,zG,own,zch,zJZ,jh,je,ku,jg]at g<;>simp (maxSteps:=1000000) [zIU,jmG,jmA,jmB,jC,zox,zh,zi,zf,zG,own,zch,g,zg,zH]
abbrev zVN(qq:Nat)(jR:List Int)(i:Nat):Env:=[(24,.w (W i)),(23,.w (W jR.length)),(5,.w (Pt (qq+1))),(6,.w (Pt (qq+2))),(0,.w J0),(9,.w (Pt (qq+4))),(8,.w (Pt (qq+3)))]
abbrev zVJ(qq:Nat)(m:zD)(r:List Int)(len:Int)(ps:List Pss)(vs:List Vis)(u:Nat)(was NW:List Cl)(SW:Cl)(k:zci)(jR:List Int)(v:Nat)(y:Bool×Int×Int)(x:Bool×Int×Int):Mem:=jmG qq m r len ps vs u was NW SW++[bx 6 (zG k),bx 1 [.jb (zu jR)],bxv v 3 (zJ4 y),bxv 1 3 (zJ4 x)]
def zVP{m:zD}(h:zcp m){r:List Int}(hr:zdA m r=0)(len:Int)(ps:List Pss)(vs:List Vis)(qq:Nat)(hq0:qq=0/\vs=[]\/qq=1/\vs≠[])(u:Nat)(was:zci)(NW:List Cl)(SW:Cl)(hSW:zKq NW SW)(jR:List Int)(hin:∀a∈jR,zk0 a)(hal:jR.length<=500)(k:zci)(he:znd k.ego)(ht:0<=k.tick/\k.tick<=1099511627776)(x:Bool×Int×Int)(b:Nat)(hb:fbF m r jR k.tick k.ego=some b):∀(f i:Nat),i+f=b ->
  Y L Cs zHK (some [24,23,5,6,0,9,8]) (qq+5) (zVN qq jR i) (zVJ qq m r len ps vs u (zG was) NW SW k jR 0 (false,0,0) x)=some (.ret,[(8,.w (Pt (qq+3)))],zVJ qq m r len ps vs u (zG was) NW SW k jR 1 (zKX x (some b)) x):=by
 have hbl:=zO8 m r jR _ _ b hb;obtain⟨x1,x2,x3⟩:=x;intro f;induction f with
 |zero =>
  intro i hi;obtain rfl:i=b:=wA
  have hw:=zB (i:=i) wA;have hil:(i:Int)<jR.length:=wA
  have e1:(0:Int)<=(i:Int)+1:=wA
  have e2:(i:Int)+1<=jR.length:=wA
  have e3:i+1<=jR.length:=wA
  have hS:=zVL h hr len ps vs qq hq0 u was NW SW hSW (jR.take (i+1)) (fun y hy=>hin y (qo hy)) (by simp;omega) k he ht;rw[zLX,hb]at hS;simp only[jU,↓reduceIte,jJ,Nat.reduceAdd,ug,Nat.lt_succ_self,if_true,Option.isNone_some]at hS;rw[show zu (jR.take (i+1))=(zu jR).take (i+1) from by simp[zu,ym]]at hS;unfold zKX;rw[ZfM zHK.eq_1];by_cases c1:0<x2
  ·by_cases c2:x2<=(i:Int)
   ·by_cases c3:x3=7
    ·have cb:(x3 !=7)=false:=by simp[c3]
     have cb2:(x3==7)=true:=by simp[c3]
     rcases hq0 with⟨rfl,-⟩ |⟨rfl,-⟩<;>rcases hSW with⟨rfl,rfl⟩ |⟨k0,z,rfl,rfl⟩<;>simp only[jU,↓reduceIte,jJ,Nat.reduceAdd,jmG,jmA,jmB,jC,zox,zh,zi,zf,zG,own,zJY,zJ4,zJZ,jh,je]at hS<;>simp (maxSteps:=1000000) [zVN,zVJ,jmG,jmA,jmB,jC,zox,zh,zi,zf,zG,own,zJY,zJ4,hil,hbl,hw,e1,e2,e3,hS,c1,c2,c3,cb,cb2,zg,zH]
    ·have cb:(x3 !=7)=true:=by simp[c3]
     have cb2:(x3==7)=false:=by simp[c3]
     rcases hq0 with⟨rfl,-⟩ |⟨rfl,-⟩<;>rcases hSW with⟨rfl,rfl⟩ |⟨k0,z,rfl,rfl⟩<;>simp only[jU,↓reduceIte,jJ,Nat.reduceAdd,jmG,jmA,jmB,jC,zox,zh,zi,zf,zG,own,zJY,zJ4,zJZ,jh,je]at hS<;>simp (maxSteps:=1000000) [zVN,zVJ,jmG,jmA,jmB,jC,zox,zh,zi,zf,zG,own,zJY,zJ4,hil,hbl,hw,e1,e2,e3,hS,c1,c2,c3,cb,cb2,zg,zH]
   ·rcases hq0 with⟨rfl,-⟩ |⟨rfl,-⟩<;>rcases hSW with⟨rfl,rfl⟩ |⟨k0,z,rfl,rfl⟩<;>simp only[jU,↓reduceIte,jJ,Nat.reduceAdd,jmG,jmA,jmB,jC,zox,zh,zi,zf,zG,own,zJY,zJ4,zJZ,jh,je]at hS<;>simp (maxSteps:=1000000) [zVN,zVJ,jmG,jmA,jmB,jC,zox,zh,zi,zf,zG,own,zJY,zJ4,hil,hbl,hw,e1,e2,e3,hS,c1,c2,zg,zH]
  ·rcases hq0 with⟨rfl,-⟩ |⟨rfl,-⟩<;>rcases hSW with⟨rfl,rfl⟩ |⟨k0,z,rfl,rfl⟩<;>simp only[jU,↓reduceIte,jJ,Nat.reduceAdd,jmG,jmA,jmB,jC,zox,zh,zi,zf,zG,own,zJY,zJ4,zJZ,jh,je]at hS<;>simp (maxSteps:=1000000) [zVN,zVJ,jmG,jmA,jmB,jC,zox,zh,zi,zf,zG,own,zJY,zJ4,hil,hbl,hw,e1,e2,e3,hS,c1,zg,zH]
 |succ f ih =>
  intro i hi;have hw:=zB (i:=i) wA;have hil:(i:Int)<jR.length:=wA
  have e1:(0:Int)<=(i:Int)+1:=wA
  have e2:(i:Int)+1<=jR.length:=wA
  have e3:i+1<=jR.length:=wA
  have hil2:i<jR.length:=wA
  have hS:=zVL h hr len ps vs qq hq0 u was NW SW hSW (jR.take (i+1)) (fun y hy=>hin y (qo hy)) (by simp;omega) k he ht;rw[zLX,hb]at hS;simp only[jU,↓reduceIte,jJ,Nat.reduceAdd,ug,show ¬b<i+1 by omega,if_false,Option.isNone_none]at hS;rw[show zu (jR.take (i+1))=(zu jR).take (i+1) from by simp[zu,ym]]at hS;have ih':=ih (i+1) wA;clear ih;by_cases cc:0<x2/\x2<=i/\x3≠7
  ·obtain⟨c1,c2,c3⟩:=cc;clear ih';rw[show zKX (x1,x2,x3) (some b)=(x1,x2,x3) from by rw[zKX,if_pos ⟨c1,by show x2<=b;omega,c3⟩]];have cb:(x3 !=7)=true:=by simp[c3]
   have cb2:(x3==7)=false:=by simp[c3]
   rw[ZfM zHK.eq_1];rcases hq0 with⟨rfl,-⟩ |⟨rfl,-⟩<;>rcases hSW with⟨rfl,rfl⟩ |⟨k0,z,rfl,rfl⟩<;>simp only[jU,↓reduceIte,jJ,Nat.reduceAdd,jmG,jmA,jmB,jC,zox,zh,zi,zf,zG,own,zJY,zJ4,zJZ,jh,je]at hS<;>simp (maxSteps:=1000000) [zVN,zVJ,jmG,jmA,jmB,jC,zox,zh,zi,zf,zG,own,zJY,zJ4,hil,hil2,hw,e1,e2,e3,hS,c1,c2,c3,cb,cb2,zg,zH]
  ·rw[<-ih'];clear ih';rw[ZfM zHK.eq_1];by_cases c1:0<x2
   ·by_cases c2:x2<=(i:Int)
    ·have c3:x3=7:=Classical.not_not.1 fun q=>cc ⟨c1,c2,q⟩
     have cb:(x3 !=7)=false:=by simp[c3]
     have cb2:(x3==7)=true:=by simp[c3]
     rcases hq0 with⟨rfl,-⟩ |⟨rfl,-⟩<;>rcases hSW with⟨rfl,rfl⟩ |⟨k0,z,rfl,rfl⟩<;>simp only[jU,↓reduceIte,jJ,Nat.reduceAdd,jmG,jmA,jmB,jC,zox,zh,zi,zf,zG,own,zJY,zJ4,zJZ,jh,je]at hS<;>simp (maxSteps:=1000000) [zVN,zVJ,jmG,jmA,jmB,jC,zox,zh,zi,zf,zG,own,zJY,zJ4,hil,hil2,hw,e1,e2,e3,hS,c1,c2,c3,cb,cb2,zg,zH]
    ·rcases hq0 with⟨rfl,-⟩ |⟨rfl,-⟩<;>rcases hSW with⟨rfl,rfl⟩ |⟨k0,z,rfl,rfl⟩<;>simp only[jU,↓reduceIte,jJ,Nat.reduceAdd,jmG,jmA,jmB,jC,zox,zh,zi,zf,zG,own,zJY,zJ4,zJZ,jh,je]at hS<;>simp (maxSteps:=1000000) [zVN,zVJ,jmG,jmA,jmB,jC,zox,zh,zi,zf,zG,own,zJY,zJ4,hil,hil2,hw,e1,e2,e3,hS,c1,c2,zg,zH]
   ·rcases hq0 with⟨rfl,-⟩ |⟨rfl,-⟩<;>rcases hSW with⟨rfl,rfl⟩ |⟨k0,z,rfl,rfl⟩<;>simp only[jU,↓reduceIte,jJ,Nat.reduceAdd,jmG,jmA,jmB,jC,zox,zh,zi,zf,zG,own,zJY,zJ4,zJZ,jh,je]at hS<;>simp (maxSteps:=1000000) [zVN,zVJ,jmG,jmA,jmB,jC,zox,zh,zi,zf,zG,own,zJY,zJ4,hil,hil2,hw,e1,e2,e3,hS,c1,zg,zH]
def zVQ{m:zD}{zs:List Zon}{ss:List Sgn}(hF:zKj m zs ss){r:List Int}(hr:zdA m r=0)(len:Int)(hlen:0<=len/\len<=20000)(ps:List Pss)(hp:ps.length<=1000)(vs:List Vis)(qq:Nat)(hq0:qq=0/\vs=[]\/qq=1/\vs≠[])(hvl:vs.length<=100)(hvo:∀v∈vs,zKN zs v)(signals:Bool)(jR:List Int)(hin:∀a∈jR,zk0 a)(hal:jR.length<=500)(u:Nat)(k:zci)(WAS NW:List Cl)(SW:Cl)(hk:KJ m k)(ht:0<=k.tick/\k.tick<=1099511627776)(hW:zMo WAS)(hSW:zKq NW SW)(hne0:jR≠[]) :
  ∃u' Cu NW' SW',zMo Cu/\zKq NW' SW'/\u'≠u/\R L Cs zKv [J0,.a (zG k),.a [.jb (zu jR)],Bo signals] (jmG qq m r len ps vs u WAS NW SW) =
   some (.w (.a (zJ4 (zKX (zLH len vs jR (zKr m zs ss r len ps vs signals jR 0 k)) (fbF m r jR k.tick k.ego)))),jmG qq m r len ps vs u' Cu NW' SW'):=by
 obtain⟨u',NW',SW',hO,hu,hV⟩:=zVS hF hr len hlen ps hp vs qq hq0 hvl hvo signals jR hin hal u k WAS NW SW hk ht hW hSW hne0;have hS:=zVL hF.full.qO hr len ps vs qq hq0 u' (zKr m zs ss r len ps vs signals jR 0 k).2 NW' SW' hO jR hin hal k hk.ego ht;have hL:=zVP hF.full.qO hr len ps vs qq hq0 u' (zKr m zs ss r len ps vs signals jR 0 k).2 NW' SW' hO jR hin hal k hk.ego ht (zLH len vs jR (zKr m zs ss r len ps vs signals jR 0 k));refine⟨u',_,NW',SW',.inr ⟨(zKr m zs ss r len ps vs signals jR 0 k).2,rfl⟩,hO,hu,?_⟩;generalize zLH len vs jR (zKr m zs ss r len ps vs signals jR 0 k)=x at *;generalize (zKr m zs ss r len ps vs signals jR 0 k).2=kf at *;rw[zUa zKI rfl];cases hq:fbF m r jR k.tick k.ego with
 |none =>
  rw[hq]at hS;clear hL;rcases hq0 with⟨rfl,-⟩ |⟨rfl,-⟩<;>rcases hW with rfl |⟨kw,rfl⟩<;>rcases hSW with⟨rfl,rfl⟩ |⟨k0,y,rfl,rfl⟩<;>rcases hO with⟨rfl,rfl⟩ |⟨k1,y1,rfl,rfl⟩<;>simp only[jU,↓reduceIte,jJ,Nat.reduceAdd,jmG,jmA,jmB,jC,zox,zh,zi,zf,zG,own,zJY,zJ4,zJZ,jh,je,Option.isNone_none]at hS hV<;>simp (maxSteps:=1000000) [zHW,zKX,jmG,jmA,jmB,jC,zox,zh,zi,zf,zG,own,zJY,zJ4,hS,hV,hu,zg,zH]
 |some b =>
  rw[hq]at hS;have hL':=hL b hq b 0 wA;clear hL;generalize zKX x (some b)=y2 at *;rcases hq0 with⟨rfl,-⟩ |⟨rfl,-⟩<;>rcases hW with rfl |⟨kw,rfl⟩<;>rcases hSW with⟨rfl,rfl⟩ |⟨k0,y,rfl,rfl⟩<;>rcases hO with⟨rfl,rfl⟩ |⟨k1,y1,rfl,rfl⟩<;>simp only[jU,↓reduceIte,jJ,Nat.reduceAdd,jmG,jmA,jmB,jC,zox,zh,zi,zf,zG,own,zJY,zJ4,zVN,zVJ,zJZ,jh,je,Option.isNone_some,jg]at hS hV hL'<;>simp (maxSteps:=1000000) [zHW,jmG,jmA,jmB,jC,zox,zh,zi,zf,zG,own,zJY,zJ4,hS,hV,hL',hu,zg,zH]
abbrev zK8:=Go.PlanLaw.Car
def zKW(m:zD)(r:List Int)(c:zK8)(k:zci):Bool:=decide (zdA m r=0)&&decide (zaK m (r.headD 0)=1)&&decide (Pl.CN c=0)&&decide (zdf m k=0)
def zPi{m:zD}{zs:List Zon}{ss:List Sgn}(hF:zKj m zs ss)(r:List Int)(hl:r.length<=1000)(c:zK8)(k:zci)(hk:k.jZ.length<=100000000000) :
  R L Cs zNB [.a (zf m),.c (.jb (zu r)),.a (Pl.kS c),.a (zG k)] []=some (.w (Bo (zKW m r c k)),[]):=by
 have h:=hF.full.qO;have h1:=zQC h hF.fit.1;have h2:=zos m h.small h.chk r hl;have h3:=Pl.AF c;have h4:=zuu h k hk;unfold zKW;by_cases hr:zdA m r=0
 ·obtain⟨hon,hne,hl8⟩:=zg1 h hr;obtain⟨x0,r',rfl⟩:∃x r',r=x::r':=by cases r with|nil=>exact absurd rfl hne|cons x r'=>exact⟨x,r',rfl⟩
  have hx0:=hon x0 (js ..);obtain⟨n,rfl⟩:=jA hx0.1;have hn:n<m.jd.length:=wA
  have hni:(n:Int)<m.jd.length:=wA
  have ek:zaK m n=m.jd[n].kind:=by simp[zaK,hn]
  have e0:((n:Int)::r').headD 0=n:=rfl;rw[hr]at h2;rw[e0,ek];generalize hcv:Pl.CN c=cv at *;generalize hkv:zdf m k=kv at *;have w1:IntKind.i64.wrap 1=1:=rfl;have w0:IntKind.i64.wrap 0=0:=rfl;simp only[zf,zG,Pl.kS,zaP]at h1 h2 h3 h4;rw[zUa zMf rfl];rw[show decide (zdA m ((n:Int)::r')=0)=true from by simp[hr],uw];by_cases c1:m.jd[n].kind=1
  ·have b1:(m.jd[n].kind==1)=true:=by simp[c1]
   by_cases c2:cv=0
   ·have b2:(cv==0)=true:=by simp[c2]
    by_cases c3:kv=0
    ·have b3:(kv==0)=true:=by simp[c3]
     simp (maxSteps:=1000000) [zIW,zf,zG,Pl.kS,zo,h1,h2,h3,h4,hn,hni,c1,b1,c2,b2,c3,b3,zg,zH]
    ·have b3:(kv==0)=false:=by simp[c3]
     simp (maxSteps:=1000000) [zIW,zf,zG,Pl.kS,zo,h1,h2,h3,h4,hn,hni,c1,b1,c2,b2,c3,b3,zg,zH]
   ·have b2:(cv==0)=false:=by simp[c2]
    simp (maxSteps:=1000000) [zIW,zf,zG,Pl.kS,zo,h1,h2,h3,h4,hn,hni,c1,b1,c2,b2,zg,zH]
  ·have b1:(m.jd[n].kind==1)=false:=by simp[c1]
   simp (maxSteps:=1000000) [zIW,zf,zG,Pl.kS,zo,h1,h2,h3,h4,hn,hni,c1,b1,zg,zH]
 ·have hb:(zdA m r==0)=false:=by simp[hr]
  simp only[zf]at h1 h2;rw[zUa zMf rfl];simp[zIW,zf,zG,Pl.kS,h1,h2,hr,hb,zg,zH]
def zPn(zs:List Zon)(p:Pss):Prop:=(0<=p.qe/\p.qe<zs.length)/\0<=p.part/\p.part<(zMh zs p.qe).length
def zOf(st:Int)(z:Nat)(x:Int):∀(l:List Prt) (k:Nat) (p:Pss),p∈zLB st z x k l->p.qe=z/\(k:Int)<=p.part/\p.part<k+l.length
 |[],k,p,h=>by cases h
 |q::l,k,p,h=>by
  have ih:=zOf st z x l (k+1) p
  grind [zLB]
def zOe(st x:Int)(zs:List Zon):∀(l:List Zon) (z:Nat) (p:Pss),zs.drop z=l->p∈zLA st x z l->zPn zs p
 |[],z,p,_,h=>by cases h
 |q::l,z,p,hd,h=>by
  obtain⟨hz,hq,hd'⟩:=zL hd;rcases jL.1 h with h'|h'
  ·have:=zOf st z x q.parts 0 p h';have e:zMh zs p.qe=q.parts:=by grind [zMh]
   exact⟨wA,wA,by grind⟩
  ·exact zOe st x zs l (z+1) p hd' h'
def zNh(m:zD)(zs:List Zon):∀(r:List Int) (a:Int) (p:Pss),p∈zKh m zs a r->zPn zs p
 |[],a,p,h=>by cases h
 |x::r,a,p,h=>by
  rcases jL.1 h with h'|h'
  ·exact zOe a x zs zs 0 p rfl h'
  ·exact zNh m zs r _ p h'
def zLV(z:Int):List Pss->Pss×Pss×Bool->Pss×Pss×Bool
 |[],v=>v
 |p::t,v=>zLV z t (if p.qe=z then(if v.2.2 then v.1 else p,p,true) else v)
def zNx(ps:List Pss)(z:Int):Pss×Pss×Bool:=zLV z ps (zKw,zKw,false)
def zPq(z:Int):∀(t:List Pss) (v:Vis) (w:Pss×Pss×Bool),(∀p∈t,0<=p.part)->v.qe=z->(w.2.2=true->0<=v.entry/\v.entry=w.1.part)->(w.2.2=false->v.entry=-1)->v.first=w.1->v.last=w.2.1 ->
  (t.foldl (zJ5 z) v).qe=z/\((zLV z t w).2.2=true->0<=(t.foldl (zJ5 z) v).entry/\(t.foldl (zJ5 z) v).entry=(zLV z t w).1.part)/\((zLV z t w).2.2=false->(t.foldl (zJ5 z) v).entry=-1)/\(t.foldl (zJ5 z) v).first=(zLV z t w).1/\(t.foldl (zJ5 z) v).last=(zLV z t w).2.1:=by
 intro t;induction t with
 |nil=>intro v w _ h1 h2 h3 h4 h5;exact⟨h1,h2,h3,h4,h5⟩
 |cons p t ih =>
  intro v w hp h1 h2 h3 h4 h5;rw[j8];unfold zLV;have hp0:=hp p (js ..);have hpt:∀q∈t,0<=q.part:=fun q hq=>hp q (jE _ hq)
  by_cases c:p.qe=z
  ·rw[if_pos c];cases hw:w.2.2 with
   |true =>
    obtain⟨g1,g2⟩:=h2 hw;have e:zJ5 z v p=⟨v.qe,v.entry,v.first,p⟩:=by simp only[zJ5,c,if_true,show ¬v.entry<0 by omega,if_false]
    rw[e];exact ih _ _ hpt h1 (fun _=>⟨g1,g2⟩) (fun q=>by grind) h4 rfl
   |false =>
    have g:=h3 hw;have e:zJ5 z v p=⟨v.qe,p.part,p,p⟩:=by simp only[zJ5,c,if_true,show v.entry<0 by omega]
    rw[e];exact ih _ _ hpt h1 (fun _=>⟨hp0,rfl⟩) (fun q=>by cases q) rfl rfl
  ·rw[if_neg c];have e:zJ5 z v p=v:=by simp only[zJ5,c,if_false]
   rw[e];exact ih v w hpt h1 h2 h3 h4 h5
def zOR(ps:List Pss)(hp:∀p∈ps,0<=p.part)(z:Int):(zKn ps z).qe=z/\((zNx ps z).2.2=true->0<=(zKn ps z).entry/\(zKn ps z).entry=(zNx ps z).1.part)/\((zNx ps z).2.2=false->(zKn ps z).entry=-1)/\(zKn ps z).first=(zNx ps z).1/\(zKn ps z).last=(zNx ps z).2.1 :=
 zPq z ps ⟨z,-1,zKw,zKw⟩ (zKw,zKw,false) hp rfl (fun q=>by grind) (fun _=>rfl) rfl rfl
def zPt(z:Int):∀(t:List Pss) (w:Pss×Pss×Bool),(zLV z t w).2.2=true->w.2.2=false->∃p∈t,p.qe=z/\(zLV z t w).1=p:=by
 have ue:∀(t:List Pss) (w:Pss×Pss×Bool),w.2.2=true->(zLV z t w).1=w.1:=by
  intro t;induction t with
  |nil=>intro w _;rfl
  |cons p t ih =>
   grind [zLV]
 intro t;induction t with
 |nil=>intro w h1 h2;rw[show zLV z [] w=w from rfl,h2]at h1;cases h1
 |cons p t ih =>
  grind [zLV]
def zNn(ps:List Pss):∀(n z:Nat) (v:Vis),v∈zKE ps z n<->∃y:Nat,z<=y/\y<z+n/\0<=(zKn ps y).entry/\v=zKn ps y
 |0,z,v=>by grind [zKE]
 |n+1,z,v=>by
  have ih:=zNn ps n (z+1) v
  grind [zKE]
def zNo(ps:List Pss):∀(n z:Nat),(zKE ps z n).length<=n
 |0,z=>by simp[zKE]
 |n+1,z=>by
  have:=zNo ps n (z+1)
  grind [zKE]
def zPr{m:zD}{zs:List Zon}{ss:List Sgn}(hF:zKj m zs ss)(r:List Int):∀v∈zKE (zKh m zs 0 r) 0 zs.length,zKN zs v:=by
 intro v hv;obtain⟨y,_,h2,h3,rfl⟩:=(zNn _ _ _ _).1 hv;have hp:∀p∈zKh m zs 0 r,0<=p.part:=fun p hp=>(zNh m zs r 0 p hp).2.1
 obtain⟨k1,k2,k3,k4,k5⟩:=zOR (zKh m zs 0 r) hp y;have hb:(zNx (zKh m zs 0 r) y).2.2=true:=by
  grind
 obtain⟨p,hpm,hpz,hpe⟩:=zPt y _ _ hb rfl;have hok:=zNh m zs r 0 p hpm;have he:=(k2 hb).2;rw[show(zNx (zKh m zs 0 r) y).1=p from hpe]at he;have hyl:y<zs.length:=wA
 refine⟨by grind,?_,?_⟩
 ·have:=hF.full.zd.pfew zs[y] (jf hyl)
  grind [zMh]
 ·have:=hok.2
  grind
abbrev pvV(m:zD)(zs:List Zon)(r:List Int):List Vis:=zKE (zKh m zs 0 r) 0 zs.length
def zNw(m:zD)(zs:List Zon)(ss:List Sgn)(r:List Int)(len:Int)(k:zci)(jR:List Int)(signals:Bool):Bool×Int×Int :=
 zKX (zLH len (pvV m zs r) jR (zKr m zs ss r len (zKh m zs 0 r) (pvV m zs r) signals jR 0 k)) (fbF m r jR k.tick k.ego)
def zL8{m:zD}{zs:List Zon}{ss:List Sgn}(hF:zKj m zs ss){r:List Int}(hr:zdA m r=0)(len:Int)(hlen:0<=len/\len<=20000)(signals:Bool)(jR:List Int)(hin:∀a∈jR,zk0 a)(hal:jR.length<=500)(u:Nat)(k:zci)(WAS NW:List Cl)(SW:Cl)(hk:KJ m k)(ht:0<=k.tick/\k.tick<=1099511627776)(hW:zMo WAS)(hSW:zKq NW SW)(hne0:jR≠[]) :
  ∃u' Cu NW' SW',zMo Cu/\zKq NW' SW'/\u'≠u/\R L Cs zKv [J0,.a (zG k),.a [.jb (zu jR)],Bo signals] (zJ3 m r len (zKh m zs 0 r) (pvV m zs r) u WAS NW SW) =
   some (.w (.a (zJ4 (zNw m zs ss r len k jR signals))),zJ3 m r len (zKh m zs 0 r) (pvV m zs r) u' Cu NW' SW'):=by
 have hvo:=zPr hF r;have hvl:(pvV m zs r).length<=zs.length:=zNo (zKh m zs 0 r) zs.length 0;have htwo:=hF.two;have hp:=hF.few r hr;obtain⟨qq,hq0⟩:∃qq,qq=0/\pvV m zs r=[]\/qq=1/\pvV m zs r≠[]:=by
  by_cases h0:pvV m zs r=[]
  ·exact⟨0,.inl ⟨rfl,h0⟩⟩
  ·exact⟨1,.inr ⟨rfl,h0⟩⟩
 obtain⟨u',W',N',S',a,b,hu,h⟩:=zVQ hF hr len hlen (zKh m zs 0 r) wA (pvV m zs r) qq hq0 wA hvo signals jR hin hal u k WAS NW SW hk ht hW hSW hne0;refine⟨u',W',N',S',a,b,hu,?_⟩;simp only[zJ3,zVW hq0];exact h
def zOk(m:zD)(zs:List Zon)(ss:List Sgn)(r:List Int)(c:zK8)(k:zci)(jR:List Int)(signals:Bool):Bool×Int×Int :=
 if zKW m r c k=true/\Go.PlanLaw.uK c jR=0 then zNw m zs ss r c.len k jR signals else(false,0,1)
def zVR{c:zK8}{l:List Int}(h:Go.PlanLaw.uK c l=0):c.ok/\l≠[]/\l.length<=200:=by
 unfold Go.PlanLaw.uK at h;split at h
 ·cases h
 ·rename_i h1;split at h
  ·cases h
  ·rename_i h2;split at h
   ·cases h
   ·rename_i h3;exact⟨Classical.not_not.1 h1,fun e=>h2 (by rw[e];rfl),wA⟩
def zNz{m:zD}{r:List Int}{c:zK8}{k:zci}(h:zKW m r c k=true):zdA m r=0/\zaK m (r.headD 0)=1/\c.ok/\zdf m k=0:=by
 unfold zKW at h;simp only[jk,decide_eq_true_eq]at h;refine⟨h.1.1.1,h.1.1.2,?_,h.2⟩;have:=h.1.2;unfold Pl.CN at this;split at this
 ·assumption
 ·cases this
@[simp] def zHc(k:zci):(zG k).length=6:=rfl
def z5c(l:List zk)(hl:l.length<=100000000000)(fnv:Cl)(f:zk->Bool)(M:Mem)(hc:∀p∈l,zx (R L Cs) ⟨true⟩ (.c fnv) [.a (ze p)] M=some (.w (Bo (f p)),M,.no)) :
  ∃k:Int,R L Cs zjK [.c (.jb (zI l)),.c fnv] M=some (.w (W k),M)/\(decide (0<=k)=l.any f):=by
 have htk:∀p:zk,List.take (ze p).length (ze p)=ze p:=fun p=>kC
 have h:=zxf (L:=L) (Cs:=Cs) (b:=zbF) (live:=some [7,1,0,8]) (n0:=M.length) l (fun i=>[(7,.w (W l.length)),(1,.w (.c fnv)),(0,.w (.c (.jb (zI l)))),(8,.w (W i))]) M f (fun i=>(.ret,[(4,.w (W i))],M)) (.exit 0,[(9,.w (Bo false)),(0,.w (.c (.jb (zI l)))),(1,.w (.c fnv)),(7,.w (W l.length)),(8,.w (W l.length))],M) ?_ ?_ ?_
 ·cases hq:l.findIdx? f with
  |none =>
   rw[hq]at h;refine⟨-1,?_,?_⟩
   ·simp only[jg]at h;rw[zUa zj5 rfl];simp[zc2,h]
   ·rw[qM]at hq;have:l.any f=false:=by simpa using hq
    rw[this];decide
  |some k =>
   rw[hq]at h;refine⟨k,?_,?_⟩
   ·simp only[jg]at h;rw[zUa zj5 rfl];simp[zc2,h]
   ·obtain⟨h1,h2,_⟩:=j6.1 hq;have:l.any f=true:=kN.2 ⟨_,jf h1,h2⟩;rw[this];simp
 ·intro i hi hp;have hw:=zB (i:=i) wA;have hcc:=hc l[i] (jf hi);have ht:=htk l[i];simp only[zDd]at ht;rw[hp]at hcc;rw[ZfM zbF.eq_1];simp[hi,hw,hcc,ht,-zx]
 ·intro i hi hp;have hcc:=hc l[i] (jf hi);have ht:=htk l[i];simp only[zDd]at ht;rw[hp]at hcc;rw[ZfM zbF.eq_1];simp[hi,hcc,ht,-zx]
 ·rw[ZfM zbF.eq_1];simp
def ZaX(l:List Fnd)(hl:l.length<=100000000000)(fnv:Cl)(f:Fnd->Bool)(M:Mem)(hc:∀p∈l,zx (R L Cs) ⟨true⟩ (.c fnv) [.a (zWN p)] M=some (.w (Bo (f p)),M,.no)) :
  ∃k:Int,R L Cs z8y [.c (.jb (zWw l)),.c fnv] M=some (.w (W k),M)/\(decide (0<=k)=l.any f):=by
 have htk:∀p:Fnd,List.take (zWN p).length (zWN p)=zWN p:=fun p=>kC
 have h:=zxf (L:=L) (Cs:=Cs) (b:=z7Q) (live:=some [7,1,0,8]) (n0:=M.length) l (fun i=>[(7,.w (W l.length)),(1,.w (.c fnv)),(0,.w (.c (.jb (zWw l)))),(8,.w (W i))]) M f (fun i=>(.ret,[(4,.w (W i))],M)) (.exit 0,[(9,.w (Bo false)),(0,.w (.c (.jb (zWw l)))),(1,.w (.c fnv)),(7,.w (W l.length)),(8,.w (W l.length))],M) ?_ ?_ ?_
 ·cases hq:l.findIdx? f with
  |none =>
   rw[hq]at h;refine⟨-1,?_,?_⟩
   ·simp only[jg]at h;rw[zUa z8m rfl];simp[z7X,h]
   ·have:l.any f=false:=by simpa using hq
    rw[this];decide
  |some k =>
   rw[hq]at h;refine⟨k,?_,?_⟩
   ·simp only[jg]at h;rw[zUa z8m rfl];simp[z7X,h]
   ·obtain⟨h1,h2,_⟩:=j6.1 hq;have:l.any f=true:=kN.2 ⟨_,jf h1,h2⟩;rw[this];simp
 ·intro i hi hp;have hw:=zB (i:=i) wA;have hcc:=hc l[i] (jf hi);have ht:=htk l[i];simp only[z1L]at ht;rw[hp]at hcc;rw[ZfM z7Q.eq_1];simp[hi,hw,hcc,ht,-zx]
 ·intro i hi hp;have hcc:=hc l[i] (jf hi);have ht:=htk l[i];simp only[z1L]at ht;rw[hp]at hcc;rw[ZfM z7Q.eq_1];simp[hi,hcc,ht,-zx]
 ·rw[ZfM z7Q.eq_1];simp
def htF(b:zk)(f:Fnd):Bool:=decide (f.lo<=b.hi)&&decide (b.lo<=f.hi)
def Zbc(f:Fnd)(b:zk):R L Cs z8c [.a (zWN f),.c (.ptr 0 0 0 0)] [bx 6 (ze b)]=some (.w (Bo (htF b f)),[bx 6 (ze b)]):=by
 rw[zUa z83 rfl];unfold htF;by_cases c1:f.lo<=b.hi<;>by_cases c2:b.lo<=f.hi<;>simp[z8d,zWN,ze,c1,c2,zg,zH]
def Za6(b:zk)(l:List Fnd)(hl:l.length<=100000000000):R L Cs z8t [.c (.jb (zWw l)),.c (.fn z8c [] [.ptr 0 0 0 0])] [bx 6 (ze b)]=some (.w (Bo (l.any (htF b))),[bx 6 (ze b)]):=by
 obtain⟨k,h1,h2⟩:=ZaX l hl (.fn z8c [] [.ptr 0 0 0 0]) (htF b) [bx 6 (ze b)] (fun f _=>by
  have h:=Zbc f b
  simp_all [ze,zWN])
 rw[zUa z8u rfl];simp only[ze]at h1;simp[z71,h1,h2,ze]
def exB(m:zD)(p:Pnt)(b:zk):Bool:=if h:0<=b.lane/\b.lane.toNat<m.jd.length then(zXt b.lane (m.jd[b.lane.toNat]'h.2) p).any (htF b) else false
def Zy{m:zD}(h1:zXl m){l:zfn}(hl:l∈m.jd)(x:Int)(p:Pnt):(zXt x l p).length<=1:=by
 grind [zYS,zXt]
def Zbj{m:zD}(h:zcp m)(h1:zXl m)(v:Nat)(p:Pnt)(hp:zXq p=true)(b:zk):R L Cs z8j [.a (ze b),.c (.ptr 0 0 0 0),.c (.ptr 1 0 0 0)] [bx 5 (zf m),bxv v 3 (zYi p)]=some (.w (Bo (exB m p b)),[bx 5 (zf m),bxv v 3 (zYi p)]):=by
 rw[zUa z9i rfl];unfold exB;by_cases c1:0<=b.lane
 ·obtain⟨j,hj⟩:=jA c1;by_cases c2:j<m.jd.length
  ·have hF:=z1F h h1 c2 p hp;have hC:=Za6 b (zXt j m.jd[j] p) (by have:=Zy h1 (jf c2) j p;omega);have c3:(j:Int)<m.jd.length:=wA
   obtain⟨lane,lo,hi,vlo,vhi,hold⟩:=b;subst hj;have hc:0<=(j:Int)/\(j:Int).toNat<m.jd.length:=⟨c1,by simpa using c2⟩;rw[dif_pos hc];simp only[zf,zYi,ze]at hF hC;simp[z70,zf,zYi,ze,c3,hF,hC,zg,zH]
  ·have c3:¬b.lane<m.jd.length:=wA
   simp[z70,zf,zYi,ze,c1,c3,zg,zH]
 ·simp[z70,zf,zYi,ze,c1,zg,zH]
def Zbe{m:zD}(h:zcp m)(h1:zXl m)(v:Nat)(p:Pnt)(hp:zXq p=true)(l:List zk)(hl:l.length<=100000000000):R L Cs z3f [.c (.jb (zI l)),.c (.fn z8j [] [.ptr 0 0 0 0,.ptr 1 0 0 0])] [bx 5 (zf m),bxv v 3 (zYi p)]=some (.w (Bo (l.any (exB m p))),[bx 5 (zf m),bxv v 3 (zYi p)]):=by
 obtain⟨k,e1,e2⟩:=z5c l hl (.fn z8j [] [.ptr 0 0 0 0,.ptr 1 0 0 0]) (exB m p) [bx 5 (zf m),bxv v 3 (zYi p)] (fun b _=>by
  have h:=Zbj h h1 v p hp b
  simp_all [ze,zf,zYi])
 rw[zUa z3h rfl];simp only[zf,zYi]at e1;simp[z2O,e1,e2,zf,zYi]
def KNd.chk{m:zD}{k:zci}(h:KNd m k):zdf m k=0:=by
 refine zFv ?_ h.j.vb h.j.apt;have h1:=h.t;have h2:=h.j.ego.s;have h3:=h.j.ego.v;unfold ziI zsa;omega
def Zib(m:zD)(k:zci)(x:zZP):zci:=⟨k.tick,zXm m x.seen x.pts k.jZ,k.ego⟩
def KNd.upd{m:zD}{k:zci}(h:KNd m k)(x:zZP):KNd m (Zib m k x):=by
 obtain⟨h1,h2⟩:=zZj (seen:=x.seen) (pts:=x.pts) h.j.vb h.j.apt;exact⟨⟨h1,h2,h.j.ego⟩,h.t⟩
theorem KNd.own{S:StV}{k:zci}(h:KNd S.m k):KNd S.m (Zhv S k):=⟨⟨ztK _ _ _ _ h.j.vb,zFg _ _ _ _ _ h.j.apt,h.j.ego⟩,h.t⟩
def KNd.spd{m:zD}{k:zci}(h:KNd m k)(a b c:Int):KNd m (z9f k a b c).1:=by
 obtain⟨q1,q2,_⟩:=ZhO k a b c;exact⟨⟨by rw[q1];exact h.j.vb,by rw[q1];exact h.j.apt,Zj1 h.j.ego a b c⟩,by rw[q2];exact h.t⟩
def KNd.fix{m:zD}{k:zci}(h:KNd m k)(a b c:Int):KNd m (Zag k a b c).1:=by
 obtain⟨q1,q2,_⟩:=ZiV k a b c;exact⟨⟨by rw[q1];exact h.j.vb,by rw[q1];exact h.j.apt,ZkO h.j.ego a b c⟩,by rw[q2];exact h.t⟩
def KNd.C0{m:zD}:∀(l:List Mrk) {k:zci} (b:Bool),KNd m k->KNd m (ZhZ l (k,b)).1/\(ZhZ l (k,b)).1.tick=k.tick
 |[],k,b,h=>⟨h,rfl⟩
 |x::l,k,b,h=>by
  have e:=(ZhO k x.st x.lo x.hi).2.1;obtain⟨h1,h2⟩:=KNd.C0 l (b&&(z9f k x.st x.lo x.hi).2) (h.spd x.st x.lo x.hi);exact⟨h1,h2.trans e⟩
def KNd.fixs{m:zD}:∀(l:List Mrk) {k:zci} (b:Bool),KNd m k->KNd m (Zis l (k,b)).1/\(Zis l (k,b)).1.tick=k.tick
 |[],k,b,h=>⟨h,rfl⟩
 |x::l,k,b,h=>by
  have e:=(ZiV k x.st x.lo x.hi).2.1;obtain⟨h1,h2⟩:=KNd.fixs l (b&&(Zag k x.st x.lo x.hi).2) (h.fix x.st x.lo x.hi);exact⟨h1,h2.trans e⟩
def ZiS(m:zD)(k:zci)(pts:List Pnt):Bool:=(pts.filter zXq).all fun p=>k.jZ.any (exB m p)
def Zk6{m:zD}(h:zcp m)(h1:zXl m)(k:zci)(hk:k.jZ.length<=100000000000)(pts:List Pnt)(hp:pts.length<=1000):R L Cs z9x [.a (zf m),.a (zG k),.c (.jb (zWs pts))] []=some (.w (Bo (ZiS m k pts)),[]):=by
 have hC:=z0z pts hp;have hck:=h.chk;have hfl:=qx zXq pts;have hex':∀p∈pts.filter zXq,zXq p=true:=fun p hq=>(uO.1 hq).2
 unfold ZiS;generalize pts.filter zXq=q at *;have hlen:(zWs q).length=q.length:=by simp[zWs]
 have hL:=zxf (L:=L) (Cs:=Cs) (b:=z76) (live:=some [15,14,3,4,16]) (n0:=2) q (fun i=>[(15,.w (W q.length)),(14,.w (.c (.jb (zWs q)))),(3,.w (Pt 0)),(4,.w (Pt 1)),(16,.w (W i))]) [bx 5 (zf m),bx 6 (zG k)] (fun p=>!(k.jZ.any (exB m p)))
  (fun i=>(.ret,[(6,.w (Bo false))],[bx 5 (zf m),bx 6 (zG k),bxv 1 3 (zYi (q.getD i ⟨0,0,0⟩))])) (.exit 0,[(17,.w (Bo false)),(4,.w (Pt 1)),(3,.w (Pt 0)),(14,.w (.c (.jb (zWs q)))),(15,.w (W q.length)),(16,.w (W q.length))],[bx 5 (zf m),bx 6 (zG k)])
  (fun i hi hh=>by
   have hw:=zB (i:=i) wA;have hci:(i:Int)<q.length:=wA
   have hE:=Zbe h h1 1 q[i] (hex' _ (jf hi)) k.jZ hk;have hh:k.jZ.any (exB m q[i])=true:=by simpa using hh
   rw[hh]at hE;have kY:(zWs q)[i]?=some (zYi q[i]):=by simp[zWs,hi]
   generalize q[i]=p at *;simp only[zf,zYi,zG]at hE;rw[ZfM z76.eq_1];simp only[zYi]at kY;simp[zf,zG,zYi,hci,hw,hlen,kY,hE,zg,zH])
  (fun i hi hh=>by
   have hci:(i:Int)<q.length:=wA
   have hE:=Zbe h h1 1 q[i] (hex' _ (jf hi)) k.jZ hk;have hh:k.jZ.any (exB m q[i])=false:=by simpa using hh
   rw[hh]at hE;have kY:(zWs q)[i]?=some (zYi q[i]):=by simp[zWs,hi]
   have hd:q.getD i ⟨0,0,0⟩=q[i]:=by simp[hi]
   rw[hd];generalize q[i]=p at *;simp only[zf,zYi,zG]at hE;rw[ZfM z76.eq_1];simp only[zYi]at kY;simp[zf,zG,zYi,hci,hlen,kY,hE,zg,zH])
  (by rw[ZfM z76.eq_1];simp[zf,zG])
 simp only[zf,zG,jg]at hC hck hL;rw[zUa z9y rfl];cases hf:q.findIdx? (fun p=>!(k.jZ.any (exB m p)))with
 |none =>
  rw[hf]at hL;have ha:(q.all fun p=>k.jZ.any (exB m p))=true:=by
   rw[qM]at hf;exact jw.2 fun p hp=>by simpa using hf p hp
  rw[ha];simp[z8o,zf,zG,hC,hck,hlen,hL,zg,zH]
 |some i =>
  rw[hf]at hL;have ha:(q.all fun p=>k.jZ.any (exB m p))=false:=by
   obtain⟨h1,h2,_⟩:=j6.1 hf;exact List.all_eq_false.2 ⟨_,jf h1,by simpa using h2⟩
  rw[ha];simp[z8o,zf,zG,hC,hck,hlen,hL,zg,zH]
def ZiH(S:StV)(l:List zZP)(x:zci×Bool):zci×Bool:=l.foldl (fun q y=>(Zhv S (Zib S.m q.1 y),q.2&&ZiS S.m (Zhv S (Zib S.m q.1 y)) y.pts)) x
def KNd.scns{S:StV}:∀(l:List zZP) {k:zci} (b:Bool),KNd S.m k->KNd S.m (ZiH S l (k,b)).1/\(ZiH S l (k,b)).1.tick=k.tick
 |[],k,b,h=>⟨h,rfl⟩
 |x::l,k,b,h=>by
  obtain⟨h1,h2⟩:=KNd.scns l (b&&ZiS S.m (Zhv S (Zib S.m k x)) x.pts) (h.upd x).own;exact⟨h1,h2⟩
structure Zld(h:Hrd)(t:Int):Prop where
 n1:h.jD.length<=1000
 n2:h.jO.length<=1000
 n3:h.jP.length<=1000
 st:∀x∈h.jP,x.qd=t
 se:∀x∈h.jP,x.seen.length<=5000
 pt:∀x∈h.jP,x.pts.length<=1000
abbrev Zlk(l:List zZP)(i:Nat)(ok:Bool):Env:=[(6,.w (Bo ok)),(69,.w (W i)),(68,.w (W l.length)),(4,.w (Pt 4)),(67,.w (.c (.jb (ZlG l)))),(0,.w (Pt 0)),(3,.w (Pt 3))]
def Zj6{S:StV}{zs:List Zon}{ss:List Sgn}(hS:z6u S zs ss)(d:NdV)(g:RgV)(c:Int)(es:List Zou)(v w u:Nat)(l:List zZP)(t:Int)(hl:l.length<=1000)(hst:∀x∈l,x.qd=t)(hse:∀x∈l,x.seen.length<=5000)(hpt:∀x∈l,x.pts.length<=1000)(H:Hrd):∀(r:List zZP) (i:Nat) (k:zci) (ok:Bool) (vk:Nat),l.drop i=r->i<=l.length->KNd S.m k->k.tick=t ->
  ∃vk',Y L Cs Zhf (some [6,69,68,4,67,0,3]) 6 (Zlk l i ok) (fuM S d g c es v w u k vk H)=some (.exit 4,(70,.w (Bo false))::Zlk l l.length (ZiH S r (k,ok)).2,fuM S d g c es v w u (ZiH S r (k,ok)).1 vk' H)
 |[],i,k,ok,vk,hd,hi,hk,ht=>by
  have e:i=l.length:=by
   have:=congrArg List.length hd;simp at this;omega
  subst e;refine⟨vk,?_⟩;obtain⟨s0,s1,s2,s3,s4,n,ini,p⟩:=g;rw[ZfM Zhf.eq_1];cases ini<;>simp[ZiH,Zly]
 |x::r,i,k,ok,vk,hd,hi,hk,ht=>by
  have h1:i<l.length:=by
   have:=congrArg List.length hd;simp at this;omega
  have h2:l[i]=x:=by rw[jv h1]at hd;exact(ka hd).1
  have h3:l.drop (i+1)=r:=by rw[jv h1]at hd;exact(ka hd).2
  have hx:x∈l:=by rw[<-h2];exact jf h1
  have hw:=zB (i:=i) wA;have hci:(i:Int)<l.length:=wA
  have kY:(ZlG l)[i]?=some (zX6 x):=by rw[ZjE h1,h2]
  have hf:=hS.full.full;have hU:=Zal hf.qO hf.yn ⟨hf.one.one⟩ k hk.chk x (by rw[hst x hx,ht]) (hse x hx) (hpt x hx);have hk1:=hk.upd x;have hO:=ZjW hS d g c es v w u (k:=Zib S.m k x) (by have:=hk1.len hS;omega) hk1.j.ego;have hk2:=hk1.own;have hE:=Zk6 hf.qO ⟨hf.one.one⟩ (Zhv S (Zib S.m k x)) (by have:=hk2.len hS;omega) x.pts (hpt x hx);obtain⟨vk',ih⟩:=Zj6 hS d g c es v w u l t hl hst hse hpt H r (i+1) (Zhv S (Zib S.m k x)) (ok&&ZiS S.m (Zhv S (Zib S.m k x)) x.pts) (vk+1) h3 wA hk2 ht;refine⟨vk',?_⟩;have e:ZiH S (x::r) (k,ok)=ZiH S r (Zhv S (Zib S.m k x),ok&&ZiS S.m (Zhv S (Zib S.m k x)) x.pts):=rfl;rw[e,<-ih];have e2:Zib S.m k x=⟨k.tick,zXm S.m x.seen x.pts k.jZ,k.ego⟩:=rfl;rw[<-e2]at hU;generalize Zib S.m k x=k1 at *;generalize Zhv S k1=k2 at *;generalize ZiS S.m k2 x.pts=b at *;obtain⟨s0,s1,s2,s3,s4,n,ini,p⟩:=g;simp only[zf,zG,zX6]at hU hO hE;simp only[zX6]at kY;rw[ZfM Zhf.eq_1];cases ok<;>cases ini<;>simp[ndM,ndC,rgC,mpB,bxv]at hO<;>simp[hci,hw,kY,hU,hO,hE,zG,Zly,-Int.natCast_add]
def znB(n:Int):List Zou->Option Hrd
 |[]=>none
 |e::r=>if n=e.key then some e.hrd else znB n r
def ZiR(n:Int):List Zou->Nat->Option (Nat×Hrd)
 |[],_=>none
 |e::r,i=>if n=e.key then some (i,e.hrd) else ZiR n r (i+1)
def Zkr(n:Int):∀(es:List Zou) (i:Nat),(ZiR n es i).map Prod.snd=znB n es
 |[],_=>rfl
 |e::r,i=>by
  unfold ZiR znB;split
  ·rfl
  ·exact Zkr n r (i+1)
def ZiE(n:Int):∀(es:List Zou) (i:Nat),zta .i64 n (List.map Zly es) i=some ((ZiR n es i).map fun q=>(q.1,Zli q.2))
 |[],_=>rfl
 |e::r,i=>by
  show zta .i64 n ([I e.born,I e.key,_,_,_]::_) i=_;unfold zta ZiR;by_cases h:n=e.key
  ·grind
  ·simp only[↓reduceIte,h];exact ZiE n r (i+1)
def Zia{M:Mem}{c:Int}{es:List Zou}{u:Nat}{id:Nat}(h:M[id]?=some (mpB c es u)):zi4 M id=some ({ box:=true,esz:=1,rows:=[I c]::es.map Zly,gen:=0,fz:=false,ver:=u },c,es.map Zly):=by
 grind [zi4,Eng.look]
def Zih{M:Mem}{c:Int}{es:List Zou}{u:Nat}{id:Nat}(h:M[id]?=some (mpB c es u))(n:Int)(z:WV):znp M false true z [.c (.map id true),.c (.int .i64 n)]=some (.w (match znB n es with |some h=>.a (Zli h) |none=>z),M,.no):=by
 unfold znp;simp only[↓reduceIte,Zia h,ZiE,<-Zkr n es 0];cases ZiR n es 0 with
 |none=>rfl
 |some q=>rfl
def znE(S:StV)(h:Option Hrd)(k:zci):zci×Bool:=match h with
 |none=>(Zhv S k,true)
 |some h=>ZiH S h.jP (Zhv S (Zis h.jO (ZhZ h.jD (k,true))).1,(Zis h.jO (ZhZ h.jD (k,true))).2)
def KNd.A3{S:StV}{k:zci}(h:KNd S.m k)(q:Option Hrd):KNd S.m (znE S q k).1/\(znE S q k).1.tick=k.tick:=by
 cases q with
 |none=>exact⟨h.own,rfl⟩
 |some y =>
  obtain⟨a1,a2⟩:=h.C0 y.jD true;obtain⟨b1,b2⟩:=a1.fixs y.jO (ZhZ y.jD (k,true)).2;obtain⟨c1,c2⟩:=KNd.scns (S:=S) y.jP (Zis y.jO (ZhZ y.jD (k,true))).2 b1.own;exact⟨c1,c2.trans (b2.trans a2)⟩
def Zk2(ok:Bool)(M:Mem):Y L Cs Zhh (some [6,28,27,7,4,0,26,3]) 6 [(6,.w (Bo ok)),(28,.w (W 0)),(27,.w (W 0)),(7,.w (Pt 5)),(4,.w (Pt 4)),(0,.w (Pt 0)),(26,.w (.c .jc)),(3,.w (Pt 3))] M=some (.exit 0,[(29,.w (Bo false)),(6,.w (Bo ok)),(28,.w (W 0)),(27,.w (W 0)),(7,.w (Pt 5)),(4,.w (Pt 4)),(0,.w (Pt 0)),(26,.w (.c .jc)),(3,.w (Pt 3))],M):=by
 simp[ZfM,Zhh.eq_1]
def Zk1(ok:Bool)(M:Mem):Y L Cs Zhg (some [6,47,46,0,4,7,45,3]) 6 [(6,.w (Bo ok)),(47,.w (W 0)),(46,.w (W 0)),(0,.w (Pt 0)),(4,.w (Pt 4)),(7,.w (Pt 5)),(45,.w (.c .jc)),(3,.w (Pt 3))] M=some (.exit 2,[(48,.w (Bo false)),(6,.w (Bo ok)),(47,.w (W 0)),(46,.w (W 0)),(0,.w (Pt 0)),(4,.w (Pt 4)),(7,.w (Pt 5)),(45,.w (.c .jc)),(3,.w (Pt 3))],M):=by
 simp[ZfM,Zhg.eq_1]
def Zk0(ok:Bool)(M:Mem):Y L Cs Zhf (some [6,69,68,4,67,0,3]) 6 [(6,.w (Bo ok)),(69,.w (W 0)),(68,.w (W 0)),(4,.w (Pt 4)),(67,.w (.c .jc)),(0,.w (Pt 0)),(3,.w (Pt 3))] M=some (.exit 4,[(70,.w (Bo false)),(6,.w (Bo ok)),(69,.w (W 0)),(68,.w (W 0)),(4,.w (Pt 4)),(67,.w (.c .jc)),(0,.w (Pt 0)),(3,.w (Pt 3))],M):=by
 simp[ZfM,Zhf.eq_1]
def ZjM{S:StV}{zs:List Zon}{ss:List Sgn}(hS:z6u S zs ss)(d:NdV)(g:RgV)(c:Int)(es:List Zou)(v w u:Nat){k:zci}(hk:KNd S.m k)(hh:∀h,znB k.tick es=some h->Zld h k.tick) :
  R L Cs Zi4 [Pt 0,.a (zG k)] (ndM S d g c es v w u)=some (.t [.a (zG (znE S (znB k.tick es) k).1),Bo (znE S (znB k.tick es) k).2],ndM S d g c es v w u):=by
 have hG:∀(M:Mem),M[2]?=some (mpB c es u)->znp M false true (.a [.jc,.jc,.jc]) [.c (.map 2 true),.c (.int .i64 k.tick)]=_:=fun M h=>Zih h k.tick _
 cases hf:znB k.tick es with
 |none =>
  rw[hf]at hG;have hO:=ZjW hS d g c es v w u (k:=k) (by have:=hk.len hS;omega) hk.j.ego;unfold znE;simp only;generalize Zhv S k=k2 at *;obtain⟨s0,s1,s2,s3,s4,n,ini,p⟩:=g;simp only[zG]at hO;rw[zUa Zh6 rfl];cases ini<;>simp[ndM,ndC,rgC,mpB,bxv]at hO<;>simp[Zhx,hG,hO,Zk2,Zk1,Zk0,zG,Zly]
 |some y =>
  rw[hf]at hG;obtain⟨n1,n2,n3,st,se,pt⟩:=hh y hf;obtain⟨a1,a2⟩:=hk.C0 y.jD true;obtain⟨b1,b2⟩:=a1.fixs y.jO (ZhZ y.jD (k,true)).2;obtain⟨v1,h1⟩:=Zj8 S d g c es v w u y.jD n1 y y.jD 0 k true 0 rfl (jr _) (by have:=hk.len hS;omega);obtain⟨v2,h2⟩:=Zj7 S d g c es v w u y.jO n2 y y.jO 0 (ZhZ y.jD (k,true)).1 (ZhZ y.jD (k,true)).2 v1 rfl (jr _) (jT (a1.len hS) wD);have hO:=ZjW hS d g c es v w u (k:=(Zis y.jO (ZhZ y.jD (k,true))).1) (jT (b1.len hS) wD) b1.j.ego;obtain⟨v3,h3⟩:=Zj6 hS d g c es v w u y.jP k.tick n3 st se pt y y.jP 0 (Zhv S (Zis y.jO (ZhZ y.jD (k,true))).1) (Zis y.jO (ZhZ y.jD (k,true))).2 (v2+1) rfl (jr _) b1.own (b2.trans a2);unfold znE;simp only;generalize ZhZ y.jD (k,true)=q1 at *;obtain⟨k1,o1⟩:=q1;simp only at *;generalize Zis y.jO (k1,o1)=q2 at *;obtain⟨s0,s1,s2,s3,s4,n,ini,p⟩:=g;simp only[zG,jg]at hO h1 h2 h3;simp only[Zlm,Zll,Zlk,fuM,ndM,jh,je,zG,jg]at h1 h2 h3;rw[zUa Zh6 rfl];cases ini<;>simp[ndM,ndC,rgC,mpB,bxv]at hO<;>simp[Zhx,hG,hO,h1,h2,h3,zG,Zly]
def Zjv(d:NdV)(st:Int):Bool:=decide (st<=d.now)&&decide (max d.first (d.now-4)<=st)
def ZiY(S:StV)(d:NdV)(g:RgV)(c:Int)(es:List Zou)(v w u:Nat)(hn:0<=d.now/\d.now<=1099511627776)(st:Int):R L Cs ZiJ [Pt 0,W st] (ndM S d g c es v w u)=some (.w (Bo (Zjv d st)),ndM S d g c es v w u):=by
 have hw:IntKind.i64.wrap (d.now-4)=d.now-4:=zTd _ wA wA;obtain⟨s0,s1,s2,s3,s4,n,ini,p⟩:=g;rw[zUa ZiN rfl];unfold Zjv;by_cases h1:st<=d.now
 ·by_cases h2:max d.first (d.now-4)<=st
  ·cases ini<;>simp[Zhm,h1,h2,hw]
  ·cases ini<;>simp[Zhm,h1,h2,hw]
 ·cases ini<;>simp[Zhm,h1]
def Zij(l:List Mrk)(hl:l.length<=100000):R L Cs ZhV [.c (.jb (zb l))] []=some (.w (.c (sl 0 3 (zb l))),[some (own 3 (zb l))]):=by
 have hr:l.length*24<=140737488355328:=wA
 have h3:∀x,x∈zb l->x.length=3:=by
  intro x hx;obtain⟨y,_,rfl⟩:=jW.1 hx;rfl
 have hL:Cs.lookup ZhV=some (3,24,false):=by kernel_rfl
 rw[zrP rfl];simp[uv,hL,zuh,hr];exact h3
def ZjJ(l:List zZP)(hl:l.length<=100000):R L Cs ZhU [.c (.jb (ZlG l))] []=some (.w (.c (sl 0 3 (ZlG l))),[some (own 3 (ZlG l))]):=by
 have hr:l.length*56<=140737488355328:=wA
 have h3:∀x,x∈ZlG l->x.length=3:=by
  intro x hx;obtain⟨y,_,rfl⟩:=jW.1 hx;rfl
 have hL:Cs.lookup ZhU=some (3,56,false):=by kernel_rfl
 rw[zrP rfl];simp[uv,hL,zuh,hr];exact h3
def Zkh(l:List Spn)(hl:l.length<=100000):R L Cs ZhT [.c (.jb (zWx l))] []=some (.w (.c (.jb (zWx l))),[]):=by
 have hr:l.length*24<=140737488355328:=wA
 have h3:∀x,x∈zWx l->x.length=3:=by
  intro x hx;obtain⟨y,_,rfl⟩:=jW.1 hx;rfl
 have hL:Cs.lookup ZhT=some (3,24,true):=by kernel_rfl
 rw[zrP rfl];simp[uv,hL,zuh,hr];exact h3
def Zkb(l:List Pnt)(hl:l.length<=100000):R L Cs ZhQ [.c (.jb (zWs l))] []=some (.w (.c (.jb (zWs l))),[]):=by
 have hr:l.length*24<=140737488355328:=wA
 have h3:∀x,x∈zWs l->x.length=3:=by
  intro x hx;obtain⟨y,_,rfl⟩:=jW.1 hx;rfl
 have hlen:(zWs l).length=l.length:=by simp[zWs]
 have hL:Cs.lookup ZhQ=some (3,24,true):=by kernel_rfl
 rw[zrP rfl];simp[uv,hL,zuh,hr,hlen];exact h3
def Ziq(es:List Zou)(n:Int):Hrd:=(znB n es).getD ⟨[],[],[]⟩
def ZiZ(n:Int)(h:Hrd)(q:Int×List Zou):Int×List Zou:=match ZiR n q.2 0 with
 |some (i,_)=>(q.1,q.2.modify i fun e=>⟨e.born,n,h⟩)
 |none=>(q.1+1,q.2++[⟨q.1,n,h⟩])
def ZhM{M:Mem}{c:Int}{es:List Zou}{u:Nat}{id:Nat}(h:M[id]?=some (mpB c es u))(n:Int)(H:Hrd):zoJ M true [.c (.map id true),.c (.int .i64 n),.a [.jb (zb H.jD),.jb (zb H.jO),.jb (ZlG H.jP)]]=some (.u,M.set id (mpB (ZiZ n H (c,es)).1 (ZiZ n H (c,es)).2 (u+1)),.wr [(id,0,whole)]):=by
 unfold zoJ ZiZ;simp only[↓reduceIte,Zia h,ZiE,okW,zlW];cases ZiR n es 0 with
 |none=>simp[Zly,mpB]
 |some q =>
  have e:(List.map Zly es).modify q.1 (fun row=>row.take 1++.int .i64 n::[.jb (zb H.jD),.jb (zb H.jO),.jb (ZlG H.jP)])=List.map Zly (es.modify q.1 fun e=>⟨e.born,n,H⟩):=by
   apply qw;intro i;simp only[List.getElem?_modify,kO];by_cases hi:q.1=i
   ·simp only[hi,if_true];cases es[i]?<;>simp[Zly]
   ·simp only[hi,if_false];cases es[i]?<;>simp[Zly]
  simp[WV.cells,mpB,e]
@[simp] def ZiP(a b:List Mrk):zb (a++b)=zb a++zb b:=by simp[zb]
@[simp] def ZjN(a b:List zZP):ZlG (a++b)=ZlG a++ZlG b:=by simp[ZlG]
abbrev Zkx(t:Int)(sc:List zZP)(sp fx:List Mrk):List Cl:=[I t,.jb (ZlG sc),.jb (zb sp),.jb (zb fx)]
abbrev heM(S:StV)(d:NdV)(g:RgV)(q:Int×List Zou)(v w u:Nat)(X:List Cl):Mem:=ndM S d g q.1 q.2 v w u++[bx 4 X]
def he1(d:NdV)(q:Int×List Zou)(y:Mrk):Int×List Zou:=if Zjv d y.st then ZiZ y.st { Ziq q.2 y.st with jD:=(Ziq q.2 y.st).jD++[y] } q else q
def he2(d:NdV)(q:Int×List Zou)(y:Mrk):Int×List Zou:=if Zjv d y.st then ZiZ y.st { Ziq q.2 y.st with jO:=(Ziq q.2 y.st).jO++[y] } q else q
def he3(d:NdV)(q:Int×List Zou)(y:zZP):Int×List Zou:=if Zjv d y.qd then ZiZ y.qd { Ziq q.2 y.qd with jP:=(Ziq q.2 y.qd).jP++[y] } q else q
def Zlq(n:Nat)(es:List Zou):Prop:=∀t,(Ziq es t).jD.length<=n/\(Ziq es t).jO.length<=n/\(Ziq es t).jP.length<=n
def ZpS(n t:Int)(h:Hrd)(q:Int×List Zou):znB t (ZiZ n h q).2=if t=n then some h else znB t q.2:=by
 obtain⟨c,es⟩:=q;unfold ZiZ;have key:∀(es:List Zou) (k:Nat),match ZiR n es k with
   |some (i,_)=>k<=i/\znB t (es.modify (i-k) fun e=>⟨e.born,n,h⟩)=if t=n then some h else znB t es
   |none=>znB t (es++[⟨c,n,h⟩])=if t=n then some h else znB t es:=by
  intro es;induction es with
  |nil =>
   intro k;simp[ZiR,znB]
  |cons e r ih =>
   intro k;unfold ZiR;by_cases hk:n=e.key
   ·simp only[hk,if_true];refine⟨jm _,?_⟩;simp only[yF,List.modify_cons,if_true];by_cases ht:t=e.key<;>simp[znB,ht]
   ·simp only[hk,if_false];have h1:=ih (k+1);cases hf:ZiR n r (k+1)with
    |none =>
     rw[hf]at h1;simp only[jh];simp only[znB];rw[h1];by_cases ht:t=e.key
     ·have:t≠n:=fun q=>hk (q.symm.trans ht)
      simp[ht,this];intro q;exact absurd q.symm hk
     ·simp[ht]
    |some i =>
     rw[hf]at h1;obtain⟨h2,h3⟩:=h1;refine⟨wA,?_⟩;have e1:i.1-k=(i.1-(k+1))+1:=wA
     rw[e1];simp only[List.modify_cons,Nat.add_eq_zero_iff,jU,and_false,if_false,vN,znB];rw[h3];by_cases ht:t=e.key
     ·simp[ht];intro q;exact absurd q.symm hk
     ·simp[ht]
 have:=key es 0;simp only;cases hf:ZiR n es 0 with
 |none=>rw[hf]at this;exact this
 |some i=>rw[hf]at this;simpa using this.2
def Zo3(n t:Int)(h:Hrd)(q:Int×List Zou):Ziq (ZiZ n h q).2 t=if t=n then h else Ziq q.2 t:=by
 unfold Ziq;rw[ZpS];by_cases ht:t=n<;>simp[ht]
end Go.TrRun
