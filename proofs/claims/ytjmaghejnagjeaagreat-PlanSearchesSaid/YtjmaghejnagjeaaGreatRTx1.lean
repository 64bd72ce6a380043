/- This text proves what functions of this seat's program answer, run by the evaluator; no condition. -/
import Derived.Test.YtjmaghejnagjeaaGreatRTb2
set_option maxHeartbeats 8000000
set_option linter.unusedVariables false
set_option linter.unusedSimpArgs false
set_option linter.unusedSectionVars false
set_option maxRecDepth 10000
namespace Go.TrRun
open Go Go.Eng
theorem zL{α:Type}{l r:List α}{i:Nat}{x:α}(h:l.drop i=x::r):∃hi:i<l.length,l[i]=x/\l.drop (i+1)=r:=by
 have hi:i<l.length:=by
  have:=congrArg List.length h;simp at this;omega
 rw[ku hi]at h;exact⟨hi,(yG h).1,(yG h).2⟩
theorem zUb{α:Type}{l:List α}{i:Nat}(h:l.drop i=[])(hi:i<=l.length):i=l.length:=by
 have:=congrArg List.length h;simp at this;omega
theorem zB{i:Nat}(h:i<4000000000000000000):IntKind.i64.wrap ((i:Int)+1)=((i+1:Nat):Int):=by
 rw[zTd _ (by omega) (by omega)];simp
def zu(l:List Int):List (List Cl):=l.map fun x=>[I x]
@[simp] theorem zfq(l:List Int):(zu l).length=l.length:=by simp[zu]
@[simp] theorem zBj(l m:List Int):zu (l++m)=zu l++zu m:=by simp[zu]
@[simp] theorem zay:zu []=[]:=rfl
@[simp] theorem zaP(x:Int)(l:List Int):zu (x::l)=[I x]::zu l:=rfl
@[simp] theorem zCt(l:List Int):(zu l).take l.length=zu l:=jG (by simp)
@[simp] theorem zBd{l:List Int}{i:Nat}(h:i<(zu l).length):(zu l)[i]=[I (l[i]'(by simpa using h))]:=by simp[zu]
@[simp] theorem zCu(t:List Int):(∀x,x∈zu t->x.length=1)<->True:=by simp[zu]
structure zk where
 lane:Int
 lo:Int
 hi:Int
 vlo:Int
 vhi:Int
 hold:Int
 deriving DecidableEq
structure Ego where
 slo:Int
 shi:Int
 vlo:Int
 vhi:Int
 deriving DecidableEq
structure zci where
 tick:Int
 j8:List zk
 ego:Ego
def ze(b:zk):List Cl:=[I b.lane,I b.lo,I b.hi,I b.vlo,I b.vhi,I b.hold]
def zI(l:List zk):List (List Cl):=l.map ze
def zG(k:zci):List Cl:=[I k.tick,.jb (zI k.j8),I k.ego.slo,I k.ego.shi,I k.ego.vlo,I k.ego.vhi]
@[simp] theorem zgg(l:List zk):(zI l).length=l.length:=by simp[zI]
@[simp] theorem znQ(l m:List zk):zI (l++m)=zI l++zI m:=by simp[zI]
@[simp] theorem zic:zI []=[]:=rfl
@[simp] theorem zCy(x:zk)(l:List zk):zI (x::l)=ze x::zI l:=rfl
@[simp] theorem zCw(l:List zk):(zI l).take l.length=zI l:=jG (by simp)
@[simp] theorem zBe{l:List zk}{i:Nat}(h:i<(zI l).length):(zI l)[i]=ze (l[i]'(by simpa using h)):=by simp[zI]
@[simp] theorem zDd(b:zk):(ze b).length=6:=rfl
@[simp] theorem zCF(b:zk):(ze b).take 6=ze b:=rfl
@[simp] theorem zDb(t:List zk):(∀x,x∈zI t->x.length=6)<->True:=by simp[zI]
theorem zvv(l:List zk)(hl:l.length<=100000000000):R L Cs zmP [.c (.jb (zI l))] []=some (.w (.c (sl 0 6 (zI l))),[some (own 6 (zI l))]):=by
 have hr:l.length*48<=140737488355328:=by omega
 have hL:Cs.lookup zmP=some (6,48,false):=by kernel_rfl
 rw[zrP rfl];simp[vX,hL,zuh,hr]
end Go.TrRun
/- Plain laws of cars, ramps, stops and profiles: no program in sight. -/
namespace Go.PlanLaw
structure Car where
 len:Int
 kO:Int
 ky:Int
 qS:Int
 yV:Int
def Car.ok(c:Car):Prop:=300<=c.len/\c.len<=20000/\1<=c.kO/\c.kO<=30/\20<=c.ky/\c.ky<=90/\5<=c.qS/\c.qS<=120/\0<=c.yV/\c.yV<=5
instance(c:Car):Decidable c.ok:=by unfold Car.ok;infer_instance
def zVH(c:Car)(x:Int):Int:=max (-c.ky) (min x c.kO)
def zFX(c:Car)(last w:Int):Int:=max (zVH c last-c.qS) (min (zVH c w) (zVH c last+c.qS))
def doV(v x:Int):Int:=min (max (v+max (-2000) (min x 2000)) 0) 2000
theorem zG1(v x:Int):0<=doV v x/\doV v x<=2000:=by unfold doV;omega
theorem zG2{c:Car}(h:c.ok)(x:Int):-c.ky<=zVH c x/\zVH c x<=c.kO:=by
 obtain⟨h1,h2,h3,h4,h5,h6,h7,h8,h9,h10⟩:=h;unfold zVH;omega
theorem zNt{c:Car}(h:c.ok)(x w:Int):-c.ky<=zFX c x w/\zFX c x w<=c.kO:=by
 have h1:=zG2 h x;have h2:=zG2 h w;obtain⟨h1,h2,h3,h4,h5,h6,h7,h8,h9,h10⟩:=h;unfold zFX;omega
theorem zG3{c:Car}(h:c.ok){x:Int}(h1:-c.ky<=x)(h2:x<=c.kO):zVH c x=x:=by unfold zVH;omega
def zGI(c:Car):Nat->Bool->Int->Int->Option (List Int)
 |0,_,_,_=>none
 |m+1,f,last,v=>if f=true\/0<v\/0<last then(zGI c m false (zFX c last (-c.ky)) (doV v (zFX c last (-c.ky)))).map (zFX c last (-c.ky) :: ·) else some []
theorem zF7(c:Car)(m:Nat)(f:Bool)(last v:Int):zGI c (m+1) f last v=if(f=true\/0<v\/0<last) then(zGI c m false (zFX c last (-c.ky)) (doV v (zFX c last (-c.ky)))).map (zFX c last (-c.ky) :: ·) else some []:=rfl
theorem zG8(v x:Int)(hv:0<=v/\v<=2000)(hx:-100<=x/\x<=100):doV v x=max 0 (min 2000 (v+x)):=by unfold doV;omega
theorem zGx{c:Car}(h:c.ok)(last:Int):zFX c last (-c.ky)=max (zVH c last-c.qS) (-c.ky):=by
 obtain⟨h1,h2,h3,h4,h5,h6,h7,h8,h9,h10⟩:=h;unfold zFX zVH;omega
theorem zGM{c:Car}{last:Int}(h:c.ok)(h1:-c.ky<=last)(h2:last<=c.kO):zFX c last (-c.ky)=max (last-c.qS) (-c.ky):=by
 rw[zGx h last,zG3 h h1 h2]
theorem ends2{c:Car}(h:c.ok):∀(m:Nat) (last v:Int),-c.ky<=last->last<=-20->0<=v->v<=2000->v<=20*m->∃l,zGI c (m+1) false last v=some l/\l.length<=m
 |0,last,v,h1,h2,h3,h4,h5=>⟨[],by
   rw[zF7,if_neg (by simp;omega)],by simp⟩
 |m+1,last,v,h1,h2,h3,h4,h5=>by
  have AD:=h;obtain⟨q1,q2,q3,q4,q5,q6,q7,q8,q9,q10⟩:=AD;rw[zF7];split
  ·have hr:=zGM h h1 (by omega:last<=c.kO);have hd:=zG8 v (zFX c last (-c.ky)) ⟨h3,h4⟩ (by omega);obtain⟨l,hl,hn⟩:=ends2 h m (zFX c last (-c.ky)) (doV v (zFX c last (-c.ky))) (by omega) (by omega) (by omega) (by omega) (by omega);exact⟨_::l,by rw[hl];rfl,by simp;omega⟩
  ·exact⟨[],rfl,by simp⟩
theorem ends1{c:Car}(h:c.ok):∀(t:Nat) (last v:Int),-c.ky<=last->last<=c.kO->last<=5*t-20->0<=v->v<=2000->∃l,zGI c (101+t) false last v=some l/\l.length<=100+t
 |0,last,v,h1,h2,h3,h4,h5=>ends2 h 100 last v h1 (by omega) h4 h5 (by omega)
 |t+1,last,v,h1,h2,h3,h4,h5=>by
  have AD:=h;obtain⟨q1,q2,q3,q4,q5,q6,q7,q8,q9,q10⟩:=AD;rw[show 101+(t+1)=(101+t)+1 by omega,zF7];split
  ·have hr:=zGM h h1 h2;have hd:=zG1 v (zFX c last (-c.ky));obtain⟨l,hl,hn⟩:=ends1 h t (zFX c last (-c.ky)) (doV v (zFX c last (-c.ky))) (by omega) (by omega) (by omega) hd.1 hd.2;exact⟨_::l,by rw[hl];rfl,by simp;omega⟩
  ·exact⟨[],rfl,by simp⟩
theorem ends{c:Car}(h:c.ok)(last v:Int)(h4:0<=v)(h5:v<=2000):∃l,zGI c 111 true last v=some l/\0<l.length/\l.length<=110:=by
 have AD:=h;obtain⟨q1,q2,q3,q4,q5,q6,q7,q8,q9,q10⟩:=AD;have hr:=zGx h last;have hcl:=zG2 h last;have hd:=zG1 v (zFX c last (-c.ky));obtain⟨l,hl,hn⟩:=ends1 h 9 (zFX c last (-c.ky)) (doV v (zFX c last (-c.ky))) (by omega) (by omega) (by omega) hd.1 hd.2;refine⟨_::l,by rw[show 111=(101+9)+1 from rfl,zF7,if_pos (.inl rfl),hl];rfl,by simp,by simp;omega⟩
def stops(c:Car)(last v:Int):List Int:=(zGI c 111 true last v).getD []
theorem zMs{c:Car}(h:c.ok)(last v:Int)(h4:0<=v)(h5:v<=2000):zGI c 111 true last v=some (stops c last v)/\0<(stops c last v).length/\(stops c last v).length<=110:=by
 obtain⟨l,h1,h2,h3⟩:=ends h last v h4 h5;simp only[stops,h1,uc];exact⟨trivial,h2,h3⟩
def chain(c:Car):Int->List Int->Prop
 |_,[]=>True
 |a,x::xs=>(-c.ky<=x/\x<=c.kO)/\(-c.qS<=x-a/\x-a<=c.qS)/\chain c x xs
def zG0:Int->List Int->Int
 |a,[]=>a
 |_,x::xs=>zG0 x xs
def zHd:Int->List Int->Int
 |v,[]=>v
 |v,x::xs=>zHd (doV v x) xs
structure Drv where
 last:Int
 v:Int
 l:List Int
def Drv.qV(s:Drv)(a:Int):Drv:=⟨a,doV s.v a,s.l++[a]⟩
def Drv.qm(c:Car)(w:Int):Nat->Drv->Drv
 |0,s=>s
 |n+1,s=>Drv.qm c w n (s.qV (zFX c s.last w))
def Drv.queue:List Int->Drv->Drv
 |[],s=>s
 |x::xs,s=>Drv.queue xs (s.qV x)
def zJ2(c:Car)(q:List Int)(last v:Int)(up hold:Nat):List Int :=
 let s:=(((Drv.mk last v []).queue (q.take 5)) |>.qm c c.kO up) |>.qm c 0 hold
 s.l++stops c s.last s.v
def Drv.from(c:Car)(a:Int)(s:Drv):Prop:=chain c a s.l/\s.last=zG0 a s.l/\0<=s.v/\s.v<=2000
theorem Drv.vH{c:Car}{w:Int}:∀{n:Nat} {s:Drv},(Drv.qm c w n s).l.length=s.l.length+n
 |0,s=>rfl
 |n+1,s=>by rw[Drv.qm,Drv.vH];simp[Drv.qV];omega
theorem Drv.Ad:∀{q:List Int} {s:Drv},(Drv.queue q s).l.length=s.l.length+q.length
 |[],s=>rfl
 |x::q,s=>by rw[Drv.queue,Drv.Ad];simp[Drv.qV];omega
theorem Drv.B0:∀{q:List Int} {s:Drv},(Drv.queue q s).l=s.l++q
 |[],s=>by simp[Drv.queue]
 |x::q,s=>by rw[Drv.queue,Drv.B0];simp[Drv.qV]
def zLD(c:Car)(x:Int):Bool:=!(decide (-c.ky<=x)&&decide (x<=c.kO))
def zIY(c:Car):Int->List Int->Bool
 |_,[]=>false
 |l,x::xs=>!(decide (-c.qS<=x-l)&&decide (x-l<=c.qS))||zIY c x xs
def qy(c:Car)(l:List Int):Int :=
 if ¬c.ok then 2 else if l.length=0 then 6 else if 200<l.length then 5
 else if 0<l.getLastD 0 then 2 else if l.any (zLD c) then 2 else if zIY c (l.headD 0) l then 11 else 0
end Go.PlanLaw
namespace Go.TrRun.Pl
open Go Go.Eng Go.PlanLaw
def jH(c:Car):List Cl:=[I c.len,I c.kO,I c.ky,I c.qS,I c.yV]
theorem zF6(x a b:Int):R L Cs zGF [W x,W a,W b] []=some (.w (Bo (decide (a<=x)&&decide (x<=b))),[]):=by
 rw[zUa zGH rfl];by_cases h:a<=x<;>simp[zF3,h]
theorem zGS{c:Car}(h:c.ok):R L Cs zGe [.a (jH c)] []=some (.w (W 0),[]):=by
 obtain⟨h1,h2,h3,h4,h5,h6,h7,h8,h9,h10⟩:=h;rw[zUa zGf rfl];simp[zFN,jH,zF6,h1,h2,h3,h4,h5,h6,h7,h8,h9,h10]
theorem vQ{c:Car}(h:c.ok):R L Cs zFU [.a (jH c)] []=some (.w (W 0),[]):=by
 obtain⟨h1,h2,h3,h4,h5,h6,h7,h8,h9,h10⟩:=h;rw[zUa zFV rfl];simp[zFH,jH,qX.2 h1,qX.2 h2,qX.2 h3,qX.2 h4,qX.2 h5,qX.2 h6,qX.2 h7,qX.2 h8,qX.2 h9,qX.2 h10]
def dB(c:Car)(last v:Int)(jM:Cl)(ver:Nat):Blk:={ box:=true,esz:=8,rows:=[jH c++[I last,I v,jM]],gen:=0,fz:=false,ver }
def zI0(k:Nat):List Int->Cl
 |[]=>.jd
 |x::l=>sl (k+1) 1 (zu (x::l))
def zI1:List Int->Mem
 |[]=>[]
 |x::l=>[some (own 1 (zu (x::l)))]
def ki(k:Nat)(c:Car)(s:Drv):Mem:=some (dB c s.last s.v (zI0 k s.l) (3*s.l.length))::zI1 s.l
abbrev st(c:Car)(s:Drv):Mem:=ki 0 c s
abbrev P0:WV:=.c (.ptr 0 0 0 0)
theorem zP6{c:Car}(h:c.ok)(last v x:Int)(jM:Cl)(ver:Nat)(M:Mem):R L Cs zLJ [P0,W x] (some (dB c last v jM ver)::M)=some (.w (W (zVH c x)),some (dB c last v jM ver)::M):=by
 obtain⟨h1,h2,h3,h4,h5,h6,h7,h8,h9,h10⟩:=h;have hw:=kg (-c.ky);rw[zUa zLP rfl];simp[zGq,dB,jH,hw,zVH]
theorem zP5{c:Car}(h:c.ok)(s:Drv)(w:Int):R L Cs zK1 [P0,W w] (st c s)=some (.w (W (zFX c s.last w)),st c s):=by
 have hk1:=zG2 h s.last;have hk2:=zG2 h w;have CN:=fun x jM ver M=>zP6 h s.last s.v x jM ver M
 obtain⟨h1,h2,h3,h4,h5,h6,h7,h8,h9,h10⟩:=h;have w1:=kg (zVH c s.last-c.qS);have w2:=kg (zVH c s.last+c.qS);simp only[dB,jH,jh,jf]at CN;rw[zUa zLO rfl];obtain⟨last,v,l⟩:=s;cases l with
 |nil=>simp[ki,zI0,zI1,zGp,dB,jH,CN,w1,w2,zFX]
 |cons y l=>simp[ki,zI0,zI1,zGp,dB,jH,CN,w1,w2,zFX]
theorem zQF(c:Car)(s:Drv)(x:Int)(hv:0<=s.v/\s.v<=2000)(hn:s.l.length<=1000):R L Cs zLf [P0,W x] (st c s)=some (.t [],st c (s.qV x)):=by
 have w1:=kg (s.v+max (-2000) (min x 2000));obtain⟨last,v,l⟩:=s;simp only at hv hn w1;rw[zUa zMa rfl];cases l with
 |nil=>simp[ki,zI0,zI1,zGu,dB,jH,w1,Drv.qV,doV]
 |cons y l =>
  have hr:(l.length+1+1)*8<=140737488355328:=by simp at hn;omega
  simp[ki,zI0,zI1,zGu,dB,jH,w1,Drv.qV,doV,hr];omega
theorem zL6{α:Type}(p:List α)(x:α)(l:List α):(p++x::l)[p.length]?=some x:=by simp
theorem zLz{α:Type}(p:List α)(x y:α)(l:List α):(p++x::y::l)[p.length+1]?=some y:=by simp
theorem zL5{α:Type}(p:List α)(x z:α)(l:List α):(p++x::l).set p.length z=p++z::l:=by simp
theorem zLy{α:Type}(p:List α)(x y z:α)(l:List α):(p++x::y::l).set (p.length+1) z=p++x::z::l:=by simp
def zNy(k:Nat):List Int->FP
 |[]=>.wr [(k,0,whole)]
 |_::_=>.wr [(k,0,whole),(k+1,0,whole)]
theorem zMr(c:Car)(s:Drv)(x:Int)(hv:0<=s.v/\s.v<=2000)(hn:s.l.length<=1000)(p:Mem):zx (R L Cs) ⟨true⟩ (.c (.fn zLf [] [])) [.c (.ptr p.length 0 0 0),W x] (p++ki p.length c s)=some (.t [],p++ki p.length c (s.qV x),zNy p.length s.l):=by
 have hd:=zQF c s x hv hn;obtain⟨last,v,l⟩:=s;cases l with
 |nil =>
  simp[ki,zI0,zI1,dB,jH,Drv.qV]at hd;simp[ki,zI0,zI1,dB,jH,Drv.qV,hd,zL6,zLz,zL5,zLy,zNy]
 |cons y l =>
  have hne:¬3*(l.length+1+1)=3*(l.length+1):=by omega
  simp[ki,zI0,zI1,dB,jH,Drv.qV]at hd;simp[ki,zI0,zI1,dB,jH,Drv.qV,hd,zL6,zLz,zL5,zLy,zNy,hne]
theorem zL7{c:Car}(h:c.ok)(s:Drv)(w:Int)(p:Mem):zx (R L Cs) ⟨true⟩ (.c (.fn zK1 [] [])) [.c (.ptr p.length 0 0 0),W w] (p++ki p.length c s)=some (.w (W (zFX c s.last w)),p++ki p.length c s,.no):=by
 have hd:=zP5 h s w;obtain⟨last,v,l⟩:=s;cases l with
 |nil =>
  simp[ki,zI0,zI1,dB,jH,Drv.qV]at hd;simp[ki,zI0,zI1,dB,jH,Drv.qV,hd,zL6,zLz,zL5,zLy,zNy]
 |cons y l =>
  simp[ki,zI0,zI1,dB,jH,Drv.qV]at hd;simp[ki,zI0,zI1,dB,jH,Drv.qV,hd,zL6,zLz,zL5,zLy,zNy]
def Drv.run(s:Drv)(l:List Int):Drv:=⟨zG0 s.last l,zHd s.v l,s.l++l⟩
theorem Drv.CX(s:Drv):Drv.run s []=s:=by simp[Drv.run,zG0,zHd]
theorem Drv.Cv(s:Drv)(x:Int)(l:List Int):Drv.run s (x::l)=Drv.run (s.qV x) l:=by simp[Drv.run,Drv.qV,zG0,zHd]
@[simp] theorem zV8(k:Nat)(c:Car)(s:Drv):(ki k c s)[0]?=some (some (dB c s.last s.v (zI0 k s.l) (3*s.l.length))):=rfl
@[simp] theorem z5(c:Car)(s:Drv):(st c s)[0]?=some (some (dB c s.last s.v (zI0 0 s.l) (3*s.l.length))):=rfl
theorem zM7{n:Nat}{E:Env}{M:Mem}(h:M.length<=n):j6 n E M=M:=by unfold j6;rw[if_pos h]
theorem zLr(p:Mem)(c:Car)(s:Drv)(n:Nat)(E:Env)(hp:p.length+1<=n):j6 n E (p++ki p.length c s)=p++ki p.length c s:=by
 obtain⟨last,v,l⟩:=s;cases l with
 |nil=>exact zM7 (by simpa [ki,zI1]using hp)
 |cons y l =>
  by_cases h:p.length+2<=n
  ·exact zM7 (by simpa [ki,zI1]using h)
  ·obtain rfl:n=p.length+1:=by omega
   have ht:(p++ki p.length c ⟨last,v,y::l⟩).take (p.length+1)=p++[some (dB c last v (zI0 p.length (y::l)) (3*(y::l).length))]:=List.take_length_add_append 1;have hm:zH (p.length+1) (p++[some (dB c last v (zI0 p.length (y::l)) (3*(y::l).length))])=false:=by
    simp[zH,dB,zI0,jH]
   unfold j6;rw[ht,hm,if_neg (by simp[ki,zI1])];simp
theorem zM2{c:Car}(hc:c.ok)(n0:Nat)(hn0:1<=n0):∀(m:Nat) (s:Drv) (f:Bool) (l:List Int),zGI c m f s.last s.v=some l->s.l.length+l.length<=1000->0<=s.v/\s.v<=2000 ->
  ∃E',Y L Cs zGg (some [2,0]) n0 [(2,.w (Bo f)),(0,.w P0)] (st c s)=some (.exit 0,E',st c (Drv.run s l))
 |0,s,f,l,h,_,_=>by simp[zGI]at h
 |m+1,s,f,l,h,hl,hv=>by
  have hbr:=hc;obtain⟨h1,h2,h3,h4,h5,h6,h7,h8,h9,h10⟩:=hbr;have hw:=kg (-c.ky);rw[zF7]at h;split at h
  ·rename_i vR;simp only[ja]at h;obtain⟨l',h',rfl⟩:=h;have hr:=zL7 hc s (-c.ky) [];have hd:=zMr c s (zFX c s.last (-c.ky)) hv (by simp at hl;omega) [];obtain⟨E',hE⟩:=zM2 hc n0 hn0 m (s.qV (zFX c s.last (-c.ky))) false l' h' (by simp[Drv.qV]at hl ⊢;omega) (zG1 ..);refine⟨E',?_⟩;rw[Drv.Cv,<-hE];have hdr:=fun E=>zLr [] c (s.qV (zFX c s.last (-c.ky))) n0 E hn0
   refine zP2 (E':=[(2,.w (Bo false)),(0,.w P0)]) (M':=st c (s.qV (zFX c s.last (-c.ky)))) (s:=([(2,.w (Bo false)),(0,.w P0)],st c (s.qV (zFX c s.last (-c.ky))))) ?_ ?_
   ·simp only[jf,jp]at hr hd;cases f with
    |true=>simp[zGg,hr,hd,hw,dB,jH,-zx]
    |false =>
     by_cases hv0:0<s.v
     ·simp[zGg,hr,hd,hw,dB,jH,hv0,-zx]
     ·have hl0:0<s.last:=by simpa [hv0]using vR
      simp[zGg,hr,hd,hw,dB,jH,hv0,hl0,-zx]
   ·simp only[jf,jp]at hdr;simp[hdr,-j6]
  ·rename_i vR;cases h;simp only[not_or]at vR;obtain⟨q1,q2,q3⟩:=vR;cases f with
   |true=>exact absurd rfl q1
   |false =>
    rw[Drv.CX];refine⟨_,zhJ (r:=(.exit 0,[(17,.w (Bo false)),(0,.w P0)],st c s)) ?_ (by simp)⟩;simp[zGg,dB,jH,q2,q3]
theorem zOA(c:Car)(s s':Drv)(h:s.l=[]\/s'.l≠[]):finish (st c s).length (.t []) (st c s')=some (.t [],st c s'):=by
 obtain⟨last,v,l⟩:=s;obtain⟨last',v',l'⟩:=s';cases l with
 |nil=>cases l' with
  |nil=>exact zMe _ (st c ⟨last',v',[]⟩)
  |cons y l'=>simp[ki,zI1,zI0,dB,jH]
 |cons x l=>cases l' with
  |nil=>simp at h
  |cons y l'=>exact zMe _ (st c ⟨last',v',y::l'⟩)
theorem zP3{c:Car}(hc:c.ok)(s:Drv){l:List Int}(h:zGI c 111 true s.last s.v=some l)(hl:s.l.length+l.length<=1000)(hv:0<=s.v/\s.v<=2000):R L Cs zK0 [P0] (st c s)=some (.t [],st c (Drv.run s l)):=by
 obtain⟨E',hE⟩:=zM2 hc (st c s).length (by simp[ki]) 111 s true l h hl hv;have hdr:=fun E=>zLr [] c s (st c s).length E (by simp[ki])
 simp only[jf,jp]at hdr;rw[zUa zLN rfl];simp[zGo,hdr,hE,-j6,-finish];refine zOA c s _ ?_;cases hs:s.l with
 |nil=>exact .inl rfl
 |cons x t=>exact .inr (by simp[Drv.run,hs])
theorem zOD{c:Car}(hc:c.ok)(s:Drv){l:List Int}(h:zGI c 111 true s.last s.v=some l)(hl0:0<l.length)(hl:s.l.length+l.length<=1000)(hv:0<=s.v/\s.v<=2000)(p:Mem):zx (R L Cs) ⟨true⟩ (.c (.fn zK0 [] [])) [.c (.ptr p.length 0 0 0)] (p++ki p.length c s)=some (.t [],p++ki p.length c (Drv.run s l),zNy p.length s.l):=by
 have hd:=zP3 hc s h hl hv;cases l with
 |nil=>simp at hl0
 |cons z l =>
 obtain⟨last,v,a⟩:=s;cases a with
 |nil =>
  simp[ki,zI0,zI1,dB,jH,Drv.run]at hd;simp[ki,zI0,zI1,dB,jH,Drv.run,hd,zL6,zLz,zL5,zLy,zNy]
 |cons y a =>
  have hne:¬3*(a.length+(l.length+1)+1)=3*(a.length+1):=by omega
  have hne2:¬a.length+(l.length+1)+1=a.length+1:=by omega
  simp[ki,zI0,zI1,dB,jH,Drv.run]at hd;simp[ki,zI0,zI1,dB,jH,Drv.run,hd,zL6,zLz,zL5,zLy,zNy,hne,hne2]
theorem zOs{l:List Int}{i:Nat}(h:i<l.length):(zu l)[i]?=some [I l[i]]:=by simp[zu,h]
abbrev zKk(c:Car):Blk:={ box:=true,esz:=5,rows:=[jH c],gen:=0,fz:=false,ver:=0 }
abbrev fnB:WV:=.c (.fn zLp [] [.ptr 0 0 0 0])
theorem zOO{c:Car}(hc:c.ok)(x:Int):R L Cs zLp [W x,P0] [some (zKk c)]=some (.w (Bo (zLD c x)),[some (zKk c)]):=by
 obtain⟨h1,h2,h3,h4,h5,h6,h7,h8,h9,h10⟩:=hc;have hw:=kg (-c.ky);rw[zUa zMQ rfl];simp[zGB,jH,hw,zF6,zLD]
theorem zO5{c:Car}(hc:c.ok)(l:List Int)(hl:l.length<=1000):∀(r:List Int) (i:Nat),l.drop i=r->i<=l.length ->
  (r.any (zLD c)=false->∃E',Y L Cs zFZ (some [7,1,0,8]) 1 [(7,.w (W l.length)),(1,.w fnB),(0,.w (.c (.jb (zu l)))),(8,.w (W i))] [some (zKk c)]=some (.exit 0,E',[some (zKk c)])) /\
  (r.any (zLD c)=true->∃k:Nat,Y L Cs zFZ (some [7,1,0,8]) 1 [(7,.w (W l.length)),(1,.w fnB),(0,.w (.c (.jb (zu l)))),(8,.w (W i))] [some (zKk c)]=some (.ret,[(4,.w (W k))],[some (zKk c)])):=by
 intro r;induction r with
 |nil =>
  intro i hd hi;obtain rfl:=zUb hd hi;refine⟨fun _=>⟨_,zhJ (r:=(.exit 0,[(9,.w (Bo false)),(0,.w (.c (.jb (zu l)))),(1,.w fnB),(7,.w (W l.length)),(8,.w (W l.length))],[some (zKk c)])) ?_ (by simp)⟩,fun h=>by simp at h⟩;simp[zFZ]
 |cons x r ih =>
  intro i hd hi;obtain⟨hil,hx,hd'⟩:=zL hd;obtain⟨ih1,ih2⟩:=ih (i+1) hd' hil;have hch:=zOO hc x;have hw:=zB (i:=i) (by omega);have hg:=zOs hil;rw[hx]at hg;by_cases hb:zLD c x=true
  ·refine⟨fun h=>by simp[hb]at h,fun _=>⟨i,zhJ ?_ (by simp)⟩⟩;rw[hb]at hch;simp[zKk,jH]at hch;simp[zFZ,hil,hx,hch,zKk,jH]
  ·have hb:zLD c x=false:=by simpa using hb
   rw[hb]at hch;simp[zKk,jH]at hch;have ux:Y L Cs zFZ (some [7,1,0,8]) 1 [(7,.w (W l.length)),(1,.w fnB),(0,.w (.c (.jb (zu l)))),(8,.w (W i))] [some (zKk c)] =
     Y L Cs zFZ (some [7,1,0,8]) 1 [(7,.w (W l.length)),(1,.w fnB),(0,.w (.c (.jb (zu l)))),(8,.w (W (i+1:Nat)))] [some (zKk c)]:=by
    rw[zrL];simp[zFZ,hil,hx,hch,zKk,jH,hw]
   rw[ux];simp only[uN,hb,k8];exact⟨ih1,ih2⟩
theorem zvV{c:Car}(hc:c.ok)(l:List Int)(hl:l.length<=1000):∃k:Int,R L Cs zK9 [.c (.jb (zu l)),fnB] [some (zKk c)]=some (.w (W k),[some (zKk c)])/\(decide (0<=k)=l.any (zLD c)):=by
 obtain⟨h1,h2⟩:=zO5 hc l hl l 0 rfl (jt _);cases hb:l.any (zLD c)with
 |false =>
  obtain⟨E',hE⟩:=h1 hb;refine⟨-1,?_,by decide⟩;rw[zUa zKx rfl];simp at hE;simp[zF2,hE]
 |true =>
  obtain⟨k,hE⟩:=h2 hb;refine⟨k,?_,by simp⟩;rw[zUa zKx rfl];simp at hE;simp[zF2,hE]
theorem zMN{c:Car}(hc:c.ok)(l:List Int)(hl:l.length<=1000):R L Cs zKQ [.c (.jb (zu l)),fnB] [some (zKk c)]=some (.w (Bo (l.any (zLD c))),[some (zKk c)]):=by
 obtain⟨k,h1,h2⟩:=zvV hc l hl;rw[zUa zKT rfl];simp[zKk,jH]at h1;simp[zF0,h1,h2,zKk,jH]
abbrev zKp(l:List Int):Blk:={ box:=true,esz:=1,rows:=[[.jb (zu l)]],gen:=0,fz:=false,ver:=0 }
theorem zw9{c:Car}(hc:c.ok)(l:List Int)(hl:l.length<=1000)(hr:∀x∈l,-1000<=x/\x<=1000):∀(r:List Int) (i:Nat) (a:Int),-1000<=a/\a<=1000->l.drop i=r->i<=l.length ->
  (zIY c a r=false->∃E',Y L Cs zGw (some [7,44,43,2,45]) 2 [(7,.w (W a)),(44,.w (W l.length)),(43,.w (.c (.jb (zu l)))),(2,.w P0),(45,.w (W i))] [some (zKk c),some (zKp l)]=some (.exit 1,E',[some (zKk c),some (zKp l)])) /\
  (zIY c a r=true->Y L Cs zGw (some [7,44,43,2,45]) 2 [(7,.w (W a)),(44,.w (W l.length)),(43,.w (.c (.jb (zu l)))),(2,.w P0),(45,.w (W i))] [some (zKk c),some (zKp l)]=some (.ret,[(4,.w (W 11))],[some (zKk c),some (zKp l)])):=by
 intro r;have hcc:=hc;obtain⟨q1,q2,q3,q4,q5,q6,q7,q8,q9,q10⟩:=hcc;have hwr:=kg (-c.qS);induction r with
 |nil =>
  intro i a ha hd hi;obtain rfl:=zUb hd hi;refine⟨fun _=>⟨_,zhJ (r:=(.exit 1,[(46,.w (Bo false)),(7,.w (W a)),(2,.w P0),(43,.w (.c (.jb (zu l)))),(44,.w (W l.length)),(45,.w (W l.length))],[some (zKk c),some (zKp l)])) ?_ (by simp)⟩,fun h=>by simp[zIY]at h⟩;simp[zGw]
 |cons x r ih =>
  intro i a ha hd hi;obtain⟨hil,hx,hd'⟩:=zL hd;have hxr:=hr x (by rw[<-hx];exact je hil);obtain⟨ih1,ih2⟩:=ih (i+1) x hxr hd' hil;have hw:=zB (i:=i) (by omega);have hws:=kg (x-a);have hwi:=zF6 (x-a) (-c.qS) c.qS;by_cases hb:(decide (-c.qS<=x-a)&&decide (x-a<=c.qS))=true
  ·rw[hb]at hwi;have ux:Y L Cs zGw (some [7,44,43,2,45]) 2 [(7,.w (W a)),(44,.w (W l.length)),(43,.w (.c (.jb (zu l)))),(2,.w P0),(45,.w (W i))] [some (zKk c),some (zKp l)] =
     Y L Cs zGw (some [7,44,43,2,45]) 2 [(7,.w (W x)),(44,.w (W l.length)),(43,.w (.c (.jb (zu l)))),(2,.w P0),(45,.w (W (i+1:Nat)))] [some (zKk c),some (zKp l)]:=by
    rw[zrL];simp[zGw,hil,hx,zKk,jH,hw,hws,hwr,hwi]
   rw[ux];simp only[zIY,hb,Bool.not_true,k8];exact⟨ih1,ih2⟩
  ·have hb:(decide (-c.qS<=x-a)&&decide (x-a<=c.qS))=false:=by simpa using hb
   rw[hb]at hwi;refine⟨fun h=>(by simp only[zIY,hb,Aa,Bool.true_or]at h;cases h),fun _=>zhJ ?_ (by simp)⟩;simp[zGw,hil,hx,zKk,jH,hw,hws,hwr,hwi]
theorem zPK{c:Car}(hc:c.ok)(l:List Int)(hl:l.length<=1000):R L Cs zLZ [.a (jH c),.a [.jb (zu l)]] []=some (.w (W (qy c l)),[]):=by
 have hck:=zGS hc;have hcf:=zMN hc l hl;simp[zKk,jH]at hck hcf;rw[zUa zL3 rfl];cases l with
 |nil=>simp[zGK,jH,hck,qy,hc]
 |cons x r =>
 simp only[zaP]at hcf;have hne:¬((r.length:Int)+1=0):=by omega
 by_cases h200:200<r.length+1
 ·have yL:(200:Int)<(r.length:Int)+1:=by omega
  simp[zGK,jH,hck,qy,hc,hne,h200,yL]
 have yL:¬(200:Int)<(r.length:Int)+1:=by omega
 have qZ:∀h,([I x]::zu r)[r.length]'h=[I ((x::r).getLastD 0)]:=by
  intro h;have e:[I x]::zu r=zu (x::r):=rfl;simp only[e,zBd];simp[yw,yx]
 have hw:IntKind.i64.wrap (r.length:Int)=r.length:=zTd _ (by omega) (by omega);simp only[uY]at qZ;have hlt:(r.length:Int)<(r.length:Int)+1:=by omega
 have hF:qy c (x::r)=if 0<r.getLastD x then 2 else if(x::r).any (zLD c)=true then 2 else if zIY c x (x::r)=true then 11 else 0:=by
  unfold qy;rw[if_neg (by simp[hc]),if_neg (by simp),if_neg (by simpa using h200),uY,List.headD_cons]
 rw[hF];generalize r.getLastD x=z at qZ;by_cases hp:0<z
 ·simp[zGK,jH,hck,hne,yL,hlt,qZ,hw,hp]
 have hlen:((r.length:Int)+1)=((x::r).length:Nat):=by simp
 by_cases hb:(x::r).any (zLD c)=true
 ·rw[hb]at hcf;simp only[uN]at hb;simp[zGK,jH,hck,hne,yL,hlt,qZ,hw,hp,hcf,hb]
 ·have hb:(x::r).any (zLD c)=false:=by simpa using hb
  have hr:∀y∈(x::r),-1000<=y/\y<=1000:=by
   intro y hy;have h1:=vq.1 hb y hy;obtain⟨q1,q2,q3,q4,q5,q6,q7,q8,q9,q10⟩:=hc;simp[zLD]at h1;omega
  obtain⟨h1,h2⟩:=zw9 hc (x::r) hl hr (x::r) 0 x (hr x (jr ..)) rfl (jt _);rw[hb]at hcf;cases hs:zIY c x (x::r)with
  |false =>
   obtain⟨E',h1⟩:=h1 hs;simp[zKk,jH,zKp]at h1;simp[zGK,jH,hck,hne,yL,hlt,qZ,hw,hp,hcf,hb,hs,h1]
   |true =>
   have h2:=h2 hs;simp[zKk,jH,zKp]at h2;simp[zGK,jH,hck,hne,yL,hlt,qZ,hw,hp,hcf,hb,hs,h2]
 end Go.TrRun.Pl
namespace Go.TrRun.Pl
open Go Go.Eng Go.PlanLaw
@[simp] theorem z4(k:Nat)(c:Car)(s:Drv)(A B:Option Blk):(A::B::ki k c s)[2]?=some (some (dB c s.last s.v (zI0 k s.l) (3*s.l.length))):=rfl
theorem Cb:R L Cs zF9 [] []=some (.w (Bo true),[]):=zah.2 ⟨200,by kernel_rfl⟩
theorem AE{c:Car}(h:c.ok)(a w:Int):R L Cs zSz [.a (jH c),W a,W w] []=some (.w (W (zFX c a w)),[]):=by
 have hk1:=zG2 h a;have hk2:=zG2 h w;obtain⟨h1,h2,h3,h4,h5,h6,h7,h8,h9,h10⟩:=h;have w0:=kg (-c.ky);have w1:=kg (zVH c a-c.qS);have w2:=kg (zVH c a+c.qS);simp only[zVH]at w1 w2;rw[zUa zSA rfl];simp[zSm,jH,w0,w1,w2,zFX,zVH]
abbrev Pt(k:Nat):WV:=.c (.ptr k 0 0 0)
theorem zNR{c:Car}(q:List Int)(hq:q.length<=5)(A B:Blk)(up hold:Int):∀(r:List Int) (i:Nat) (s:Drv),q.drop i=r->i<=q.length->s.l.length<=i->0<=s.v/\s.v<=2000 ->
  Y L Cs zGt (some [29,28,6,5,12,4,27,13]) 3 [(29,.w (W i)),(28,.w (W q.length)),(6,.w (Pt 0)),(5,.w (W hold)),(12,.w (Pt 1)),(4,.w (W up)),(27,.w (.c (.jb (zu q)))),(13,.w (Pt 2))] (some A::some B::ki 2 c s) =
    some (.exit 0,[(30,.w (Bo false)),(29,.w (W q.length)),(28,.w (W q.length)),(6,.w (Pt 0)),(5,.w (W hold)),(12,.w (Pt 1)),(4,.w (W up)),(27,.w (.c (.jb (zu q)))),(13,.w (Pt 2))],some A::some B::ki 2 c (Drv.queue r s)):=by
 intro r;induction r with
 |nil =>
  intro i s hd hi hs hv;obtain rfl:=zUb hd hi;refine zhJ ?_ (by simp);simp[zGt,Drv.queue]
 |cons x r ih =>
  intro i s hd hi hs hv;obtain⟨hil,hx,hd'⟩:=zL hd;have u0:=ih (i+1) (s.qV x) hd' hil (by simp[Drv.qV];omega) (zG1 ..);have hw:=zB (i:=i) (by omega);have k7:=zMr c s x hv (by omega) [some A,some B];have hdr:=fun E=>zLr [some A,some B] c (s.qV x) 3 E (by simp)
  simp only[jh,jf,jk,jp,Nat.reduceAdd]at k7 hdr;rw[Drv.queue,<-u0,zrL];simp[zGt,hil,hx,k7,hw,hdr,-zx,-j6]
theorem zNQ{c:Car}(hc:c.ok)(B:Blk)(hold:Int)(n:Nat)(hn:n<=20)(n0:Nat)(hn0:3<=n0):∀(m i:Nat) (s:Drv),i+m=n->s.l.length<=5+i->0<=s.v/\s.v<=2000 ->
  Y L Cs zGs (some [40,39,12,5,13,6]) n0 [(40,.w (W i)),(39,.w (W n)),(12,.w (Pt 1)),(5,.w (W hold)),(13,.w (Pt 2)),(6,.w (Pt 0))] (some (zKk c)::some B::ki 2 c s) =
    some (.exit 2,[(41,.w (Bo false)),(40,.w (W n)),(39,.w (W n)),(12,.w (Pt 1)),(5,.w (W hold)),(13,.w (Pt 2)),(6,.w (Pt 0))],some (zKk c)::some B::ki 2 c (Drv.qm c c.kO m s)):=by
 intro m;induction m with
 |zero =>
  intro i s hi hs hv;obtain rfl:i=n:=by omega
  refine zhJ ?_ (by simp);simp[zGs,Drv.qm]
 |succ m ih =>
  intro i s hi hs hv;have hil:(i:Int)<n:=by omega
  have u0:=ih (i+1) (s.qV (zFX c s.last c.kO)) (by omega) (by simp[Drv.qV];omega) (zG1 ..);have hw:=zB (i:=i) (by omega);have Bg:=zL7 hc s c.kO [some (zKk c),some B];have k7:=zMr c s (zFX c s.last c.kO) hv (by omega) [some (zKk c),some B];have hdr:=fun E=>zLr [some (zKk c),some B] c (s.qV (zFX c s.last c.kO)) n0 E hn0
  simp only[jh,jf,jk,jp,Nat.reduceAdd]at k7 Bg hdr;simp only[zKk,jH]at k7 Bg hdr u0 ⊢;rw[Drv.qm,<-u0,zrL];simp[zGs,hil,k7,Bg,hw,hdr,-zx,-j6]
theorem zNP{c:Car}(hc:c.ok)(A B:Blk)(n:Nat)(hn:n<=20)(n0:Nat)(hn0:3<=n0):∀(m i:Nat) (s:Drv),i+m=n->s.l.length<=25+i->0<=s.v/\s.v<=2000 ->
  Y L Cs zGr (some [52,51,12,13]) n0 [(52,.w (W i)),(51,.w (W n)),(12,.w (Pt 1)),(13,.w (Pt 2))] (some A::some B::ki 2 c s) =
    some (.exit 4,[(53,.w (Bo false)),(52,.w (W n)),(51,.w (W n)),(12,.w (Pt 1)),(13,.w (Pt 2))],some A::some B::ki 2 c (Drv.qm c 0 m s)):=by
 intro m;induction m with
 |zero =>
  intro i s hi hs hv;obtain rfl:i=n:=by omega
  refine zhJ ?_ (by simp);simp[zGr,Drv.qm]
 |succ m ih =>
  intro i s hi hs hv;have hil:(i:Int)<n:=by omega
  have u0:=ih (i+1) (s.qV (zFX c s.last 0)) (by omega) (by simp[Drv.qV];omega) (zG1 ..);have hw:=zB (i:=i) (by omega);have Bg:=zL7 hc s 0 [some A,some B];have k7:=zMr c s (zFX c s.last 0) hv (by omega) [some A,some B];have hdr:=fun E=>zLr [some A,some B] c (s.qV (zFX c s.last 0)) n0 E hn0
  simp only[jh,jf,jk,jp,Nat.reduceAdd]at k7 Bg hdr;rw[Drv.qm,<-u0,zrL];simp[zGr,hil,k7,Bg,hw,hdr,-zx,-j6]
theorem zOn(k:Nat)(c:Car)(s:Drv)(h:s.l≠[]):ki k c s=[some (dB c s.last s.v (sl (k+1) 1 (zu s.l)) (3*s.l.length)),some (own 1 (zu s.l))]:=by
 obtain⟨last,v,l⟩:=s;cases l with
 |nil=>exact absurd rfl h
 |cons x l=>rfl
theorem zOI{c:Car}(hc:c.ok)(q:List Int)(hq:q.length<=5)(last v up hold:Int):R L Cs zMD [.a (jH c),.c (.jb (zu q)),W last,W v,W up,W hold] [] =
  some (.w (.a [.jb (zu (zJ2 c q last (max 0 (min v 2000)) (max 0 (min up 20)).toNat (max 0 (min hold 20)).toNat))]),[]):=by
 have hu:((max 0 (min up 20)).toNat:Int)=max 0 (min up 20):=by omega
 have hh:((max 0 (min hold 20)).toNat:Int)=max 0 (min hold 20):=by omega
 have hun:(max 0 (min up 20)).toNat<=20:=by omega
 have hhn:(max 0 (min hold 20)).toNat<=20:=by omega
 generalize (max 0 (min up 20)).toNat=nu at *;generalize (max 0 (min hold 20)).toNat=nh at *;have hv:0<=max 0 (min v 2000)/\max 0 (min v 2000)<=2000:=by omega
 generalize hv':max 0 (min v 2000)=v' at *;have l1:=zNR (c:=c) q hq (zKk c) { box:=true,esz:=1,rows:=[[.jd]],gen:=0,fz:=false,ver:=0 } up hold q 0 ⟨last,v',[]⟩ rfl (jt _) (by simp) hv;have n1:(Drv.queue q ⟨last,v',[]⟩).l.length=q.length:=by rw[Drv.Ad];simp
 have vv:∀(q:List Int) (s:Drv),0<=s.v/\s.v<=2000->0<=(Drv.queue q s).v/\(Drv.queue q s).v<=2000:=by
  intro q;induction q with
  |nil=>intro s h;exact h
  |cons x q ih=>intro s h;exact ih _ (zG1 ..)
 have vr:∀(n:Nat) (w:Int) (s:Drv),0<=s.v/\s.v<=2000->0<=(Drv.qm c w n s).v/\(Drv.qm c w n s).v<=2000:=by
  intro n w;induction n with
  |zero=>intro s h;exact h
  |succ n ih=>intro s h;exact ih _ (zG1 ..)
 have v1:=vv q ⟨last,v',[]⟩ hv;have l2:=zNQ hc { box:=true,esz:=1,rows:=[[.jd]],gen:=0,fz:=false,ver:=0 } hold nu hun ((ki 2 c (Drv.queue q ⟨last,v',[]⟩)).length+1+1) (by simp[ki]) nu 0 (Drv.queue q ⟨last,v',[]⟩) (by omega) (by omega) v1;have n2:=Drv.vH (c:=c) (w:=c.kO) (n:=nu) (s:=Drv.queue q ⟨last,v',[]⟩);have v2:=vr nu c.kO _ v1;have hprof:zJ2 c q last v' nu nh=(Drv.qm c 0 nh (Drv.qm c c.kO nu (Drv.queue q ⟨last,v',[]⟩))).l++stops c (Drv.qm c 0 nh (Drv.qm c c.kO nu (Drv.queue q ⟨last,v',[]⟩))).last (Drv.qm c 0 nh (Drv.qm c c.kO nu (Drv.queue q ⟨last,v',[]⟩))).v:=by
  simp only[zJ2];rw[jG hq]
 generalize Drv.qm c c.kO nu (Drv.queue q ⟨last,v',[]⟩)=s2 at *;generalize Drv.queue q ⟨last,v',[]⟩=s1 at *;have l3:=zNP hc (zKk c) { box:=true,esz:=1,rows:=[[.jd]],gen:=0,fz:=false,ver:=0 } nh hhn ((ki 2 c s2).length+1+1) (by simp[ki]) nh 0 s2 (by omega) (by omega) v2;have n3:=Drv.vH (c:=c) (w:=0) (n:=nh) (s:=s2);have v3:=vr nh 0 s2 v2;generalize Drv.qm c 0 nh s2=s3 at *;obtain⟨e1,e2,e3⟩:=zMs hc s3.last s3.v v3.1 v3.2;have hst:=zOD hc s3 e1 e2 (by omega) v3 [some (zKk c),some { box:=true,esz:=1,rows:=[[.jd]],gen:=0,fz:=false,ver:=0 }];have hne:(Drv.run s3 (stops c s3.last s3.v)).l≠[]:=by
  intro h;have:=congrArg List.length h;simp[Drv.run]at this;rw[this.2]at e2;simp at e2
 have hl:(Drv.run s3 (stops c s3.last s3.v)).l=zJ2 c q last v' nu nh:=hprof.symm;rw[zOn _ c _ hne,hl]at hst;generalize zJ2 c q last v' nu nh=l at *;simp only[jh,jf,jk,jp,Nat.reduceAdd]at hst;have h0:ki 2 c ⟨last,v',[]⟩=[some { box:=true,esz:=8,rows:=[[I c.len,I c.kO,I c.ky,I c.qS,I c.yV,I last,I v',.jd]],gen:=0,fz:=false,ver:=0 }]:=rfl;rw[h0]at l1;clear h0;simp only[zKk,jH,dB,jh,jf,sl,own,zfq]at l1 l2 l3 hst;have hmin:min (q.length:Int) 5=q.length:=by omega
 have uW:(zu q).all (fun r=>r.length==1)=true:=by simp[zu]
 simp only[hu,hh,jg]at l1 l2 l3;rw[zUa zMP rfl];simp[zGz,jH,hv',l1,l2,l3,hst,hmin,uW,znj,sliceB,zcy,zgN,zxn,-zx]
abbrev qj(ps:List (List Int)):List (List Cl):=ps.map fun p=>[.jb (zu p)]
def zM5:List Cl:=[I 6,I 4,I 6,I 0,I 3,I 4,I 3,I 0,I 1,I 4,I 1,I 0,I 0,I 4,I 0,I 0]
abbrev zME(c:Car)(ps:List (List Int)):Mem:=[some (zKk c),some { box:=false,esz:=1,rows:=[],gen:=0,fz:=false,ver:=0 },some { box:=true,esz:=16,rows:=[zM5],gen:=0,fz:=false,ver:=1 },some (own 1 (qj ps))]
abbrev zNE(q:List Int)(last v:Int)(i:Nat)(ps:List (List Int)):Env:=[(10,.w (.c (sl 3 1 (qj ps)))),(26,.w (W i)),(25,.w (.a zM5)),(4,.w (Pt 0)),(1,.w (.c (.jb (zu q)))),(2,.w (W last)),(3,.w (W v))]
theorem zOB{c:Car}(hc:c.ok)(q:List Int)(hq:q.length<=5)(last v up hold:Int)(ps:List (List Int))(hi:ps.length<8)(AC:Eng.cut zM5 (ps.length*2) 2=some [I up,I hold]) :
  Y L Cs zH0 (some [10,26,25,4,1,2,3]) 4 (zNE q last v ps.length ps) (zME c ps) =
  Y L Cs zH0 (some [10,26,25,4,1,2,3]) 4 (zNE q last v (ps.length+1) (ps++[zJ2 c q last (max 0 (min v 2000)) (max 0 (min up 20)).toNat (max 0 (min hold 20)).toNat])) (zME c (ps++[zJ2 c q last (max 0 (min v 2000)) (max 0 (min up 20)).toNat (max 0 (min hold 20)).toNat])):=by
 have h2:=zOI hc q hq last v up hold;generalize zJ2 c q last (max 0 (min v 2000)) (max 0 (min up 20)).toNat (max 0 (min hold 20)).toNat=l at *;simp only[jH]at h2;have hw:=zB (i:=ps.length) (by omega);have hi':(ps.length:Int)<8:=by omega
 have hr:(ps.length+1)*24<=140737488355328:=by omega
 have htake:(ps.map fun p=>([.jb (zu p)]:List Cl)).take ps.length=ps.map fun p=>[.jb (zu p)]:=jG (by simp)
 have hbelow:zM5.all (Eng.below 4)=true:=by decide
 simp only[Eng.cut]at AC
 conv=>lhs;rw[zrL]
 simp[zH0,hi',hw,h2,AC,zNE,zME,qj,zKk,jH,hr,htake,hbelow]
def uy(c:Car)(q:List Int)(last v:Int):List (List Int):=[zJ2 c q last v 6 4,zJ2 c q last v 6 0,zJ2 c q last v 3 4,zJ2 c q last v 3 0,zJ2 c q last v 1 4,zJ2 c q last v 1 0,zJ2 c q last v 0 4,zJ2 c q last v 0 0]
theorem zOC{c:Car}(hc:c.ok)(q:List Int)(hq:q.length<=5)(last v:Int):∃E',Y L Cs zH0 (some [10,26,25,4,1,2,3]) 4 (zNE q last v 0 []) (zME c [])=some (.exit 0,E',zME c (uy c q last (max 0 (min v 2000))))/\E'.get 10=some (.w (.c (sl 3 1 (qj (uy c q last (max 0 (min v 2000))))))):=by
 have s:=fun up hold ps hi AC=>zOB hc q hq last v up hold ps hi AC
 have s0:=s 6 4 [] (by simp) rfl;simp only[jp]at s0;rw[s0];simp only[jf,jB];rw[show(max 0 (min (6:Int) 20)).toNat=6 from rfl,show(max 0 (min (4:Int) 20)).toNat=4 from rfl];have s1:=s 6 0 [zJ2 c q last (max 0 (min v 2000)) 6 4] (by simp) rfl;simp only[jk,jp,jB]at s1;rw[s1];simp only[jh,jf,Nat.reduceAdd];rw[show(max 0 (min (6:Int) 20)).toNat=6 from rfl,show(max 0 (min (0:Int) 20)).toNat=0 from rfl];have s2:=s 3 4 [zJ2 c q last (max 0 (min v 2000)) 6 4,zJ2 c q last (max 0 (min v 2000)) 6 0] (by simp) rfl;simp only[jk,jp,Nat.reduceAdd]at s2;rw[s2];simp only[jh,jf,Nat.reduceAdd];rw[show(max 0 (min (3:Int) 20)).toNat=3 from rfl,show(max 0 (min (4:Int) 20)).toNat=4 from rfl];have s3:=s 3 0 [zJ2 c q last (max 0 (min v 2000)) 6 4,zJ2 c q last (max 0 (min v 2000)) 6 0,zJ2 c q last (max 0 (min v 2000)) 3 4] (by simp) rfl;simp only[jk,jp,Nat.reduceAdd]at s3;rw[s3];simp only[jh,jf,Nat.reduceAdd];rw[show(max 0 (min (3:Int) 20)).toNat=3 from rfl,show(max 0 (min (0:Int) 20)).toNat=0 from rfl];have s4:=s 1 4 [zJ2 c q last (max 0 (min v 2000)) 6 4,zJ2 c q last (max 0 (min v 2000)) 6 0,zJ2 c q last (max 0 (min v 2000)) 3 4,zJ2 c q last (max 0 (min v 2000)) 3 0] (by simp) rfl;simp only[jk,jp,Nat.reduceAdd]at s4;rw[s4];simp only[jh,jf,Nat.reduceAdd];rw[show(max 0 (min (1:Int) 20)).toNat=1 from rfl,show(max 0 (min (4:Int) 20)).toNat=4 from rfl];have s5:=s 1 0 [zJ2 c q last (max 0 (min v 2000)) 6 4,zJ2 c q last (max 0 (min v 2000)) 6 0,zJ2 c q last (max 0 (min v 2000)) 3 4,zJ2 c q last (max 0 (min v 2000)) 3 0,zJ2 c q last (max 0 (min v 2000)) 1 4] (by simp) rfl;simp only[jk,jp,Nat.reduceAdd]at s5;rw[s5];simp only[jh,jf,Nat.reduceAdd];rw[show(max 0 (min (1:Int) 20)).toNat=1 from rfl,show(max 0 (min (0:Int) 20)).toNat=0 from rfl];have s6:=s 0 4 [zJ2 c q last (max 0 (min v 2000)) 6 4,zJ2 c q last (max 0 (min v 2000)) 6 0,zJ2 c q last (max 0 (min v 2000)) 3 4,zJ2 c q last (max 0 (min v 2000)) 3 0,zJ2 c q last (max 0 (min v 2000)) 1 4,zJ2 c q last (max 0 (min v 2000)) 1 0] (by simp) rfl;simp only[jk,jp,Nat.reduceAdd]at s6;rw[s6];simp only[jh,jf,Nat.reduceAdd];rw[show(max 0 (min (0:Int) 20)).toNat=0 from rfl,show(max 0 (min (4:Int) 20)).toNat=4 from rfl];have s7:=s 0 0 [zJ2 c q last (max 0 (min v 2000)) 6 4,zJ2 c q last (max 0 (min v 2000)) 6 0,zJ2 c q last (max 0 (min v 2000)) 3 4,zJ2 c q last (max 0 (min v 2000)) 3 0,zJ2 c q last (max 0 (min v 2000)) 1 4,zJ2 c q last (max 0 (min v 2000)) 1 0,zJ2 c q last (max 0 (min v 2000)) 0 4] (by simp) rfl;simp only[jk,jp,Nat.reduceAdd]at s7;rw[s7];simp only[jh,jf,Nat.reduceAdd];rw[show(max 0 (min (0:Int) 20)).toNat=0 from rfl];refine⟨_,zhJ (r:=(.exit 0,[(27,.w (Bo false)),(10,.w (.c (sl 3 1 (qj (uy c q last (max 0 (min v 2000))))))),(26,.w (W 8)),(25,.w (.a zM5)),(4,.w (Pt 0)),(1,.w (.c (.jb (zu q)))),(2,.w (W last)),(3,.w (W v))],zME c (uy c q last (max 0 (min v 2000))))) ?_ (by simp),rfl⟩;simp[zH0,uy]
theorem Bx{c:Car}(hc:c.ok)(q:List Int)(hq:q.length<=5)(last v:Int):R L Cs zL0 [.a (jH c),.c (.jb (zu q)),W last,W v] [] =
  some (.w (.c (.jb (qj (uy c q last (max 0 (min v 2000)))))),[]):=by
 have h1:=zGS hc;obtain⟨E',hE,hg⟩:=zOC hc q hq last v;have hlen:(uy c q last (max 0 (min v 2000))).length=8:=rfl;generalize uy c q last (max 0 (min v 2000))=ps at *;simp only[jH,zNE,zME,zKk,zM5,sl,own,vk,jp,jg,qr,hlen]at h1 hE hg;have htk:List.take 8 (qj ps)=qj ps:=jG (by simp[qj,hlen]);rw[zUa zL4 rfl];simp[zIl,jH,h1,hE,hg,hlen,htk,zX,zg]
def yS(c:Car):Int:=if c.ok then 0 else 2
theorem yl(c:Car):R L Cs zGe [.a (jH c)] []=some (.w (W (yS c)),[]):=by
 by_cases h:c.ok
 ·rw[yS,if_pos h];exact zGS h
 rw[yS,if_neg h,zUa zGf rfl];have e:¬(((decide (300<=c.len)&&decide (c.len<=20000))=true)/\((decide (1<=c.kO)&&decide (c.kO<=30))=true)/\((decide (20<=c.ky)&&decide (c.ky<=90))=true)/\((decide (5<=c.qS)&&decide (c.qS<=120))=true)/\((decide (0<=c.yV)&&decide (c.yV<=5))=true)):=by
  intro e;simp only[jl,decide_eq_true_eq]at e;exact h (by simp only[Car.ok];omega)
 have w1:=zF6 c.len 300 20000;have w2:=zF6 c.kO 1 30;have w3:=zF6 c.ky 20 90;have w4:=zF6 c.qS 5 120;have w5:=zF6 c.yV 0 5;generalize (decide (300<=c.len)&&decide (c.len<=20000))=b1 at *;generalize (decide (1<=c.kO)&&decide (c.kO<=30))=b2 at *;generalize (decide (20<=c.ky)&&decide (c.ky<=90))=b3 at *;generalize (decide (5<=c.qS)&&decide (c.qS<=120))=b4 at *;generalize (decide (0<=c.yV)&&decide (c.yV<=5))=b5 at *;cases b1 with
 |false=>simp[zFN,jH,w1]
 |true=>cases b2 with
  |false=>simp[zFN,jH,w1,w2]
  |true=>cases b3 with
   |false=>simp[zFN,jH,w1,w2,w3]
   |true=>cases b4 with
    |false=>simp[zFN,jH,w1,w2,w3,w4]
    |true=>cases b5 with
     |false=>simp[zFN,jH,w1,w2,w3,w4,w5]
     |true=>simp at e
theorem uz(c:Car):R L Cs zFU [.a (jH c)] []=some (.w (W (yS c)),[]):=by
 by_cases h:c.ok
 ·rw[yS,if_pos h];exact vQ h
 rw[yS,if_neg h,zUa zFV rfl];by_cases h1:c.len<300
 ·simp[zFH,jH,h1]
 by_cases h2:20000<c.len
 ·simp[zFH,jH,h1,h2]
 by_cases h3:c.kO<1
 ·simp[zFH,jH,h1,h2,h3]
 by_cases h4:30<c.kO
 ·simp[zFH,jH,h1,h2,h3,h4]
 by_cases h5:c.ky<20
 ·simp[zFH,jH,h1,h2,h3,h4,h5]
 by_cases h6:90<c.ky
 ·simp[zFH,jH,h1,h2,h3,h4,h5,h6]
 by_cases h7:c.qS<5
 ·simp[zFH,jH,h1,h2,h3,h4,h5,h6,h7]
 by_cases h8:120<c.qS
 ·simp[zFH,jH,h1,h2,h3,h4,h5,h6,h7,h8]
 by_cases h9:c.yV<0
 ·simp[zFH,jH,h1,h2,h3,h4,h5,h6,h7,h8,h9]
 by_cases h10:5<c.yV
 ·simp[zFH,jH,h1,h2,h3,h4,h5,h6,h7,h8,h9,h10]
 exact absurd (by simp only[Car.ok];omega) h
theorem BN(c:Car)(l:List Int)(hl:l.length<=1000):R L Cs zLZ [.a (jH c),.a [.jb (zu l)]] []=some (.w (W (qy c l)),[]):=by
 by_cases h:c.ok
 ·exact zPK h l hl
 have h1:=yl c;rw[yS,if_neg h]at h1;simp only[jH]at h1;rw[qy,if_pos h,zUa zL3 rfl];simp[zGK,jH,h1]
def pre:List Int->List Int->Bool
 |[],_=>true
 |_,[]=>true
 |x::xs,y::ys=>x==y&&pre xs ys
theorem zOX:∀{a b:List Int},(pre a b&&decide (a.length=b.length))=decide (a=b)
 |[],[]=>by simp[pre]
 |[],y::b=>by simp[pre]
 |x::a,[]=>by simp[pre]
 |x::a,y::b=>by
  have h:=zOX (a:=a) (b:=b);by_cases hx:x=y
  ·subst hx;simpa [pre]using h
  ·simp[pre,hx]
theorem zNg(a b:List Int)(ha:a.length<=1000)(hb:b.length<=1000):∀(ra rb:List Int) (i:Nat),a.drop i=ra->b.drop i=rb->i<=a.length->i<=b.length ->
  (pre ra rb=true->∃k:Nat,Y L Cs zF4 (some [2,3,5]) 2 [(2,.w (Pt 0)),(3,.w (Pt 1)),(5,.w (W i))] [some (zKp a),some (zKp b)]=some (.exit 0,[(17,.w (Bo false)),(3,.w (Pt 1)),(2,.w (Pt 0)),(5,.w (W k))],[some (zKp a),some (zKp b)])) /\
  (pre ra rb=false->Y L Cs zF4 (some [2,3,5]) 2 [(2,.w (Pt 0)),(3,.w (Pt 1)),(5,.w (W i))] [some (zKp a),some (zKp b)]=some (.ret,[(4,.w (Bo false))],[some (zKp a),some (zKp b)])):=by
 intro ra;induction ra with
 |nil =>
  intro rb i hda hdb hia hib;obtain rfl:=zUb hda hia;refine⟨fun _=>⟨a.length,zhJ ?_ (by simp)⟩,fun h=>by simp[pre]at h⟩;simp[zF4,zKp]
 |cons x ra ih =>
  intro rb i hda hdb hia hib;obtain⟨hila,hxa,hda'⟩:=zL hda;cases rb with
  |nil =>
   obtain rfl:=zUb hdb hib;refine⟨fun _=>⟨b.length,zhJ ?_ (by simp)⟩,fun h=>by simp[pre]at h⟩;simp[zF4,zKp,hila]
  |cons y rb =>
   obtain⟨hilb,hxb,hdb'⟩:=zL hdb;have hw:=zB (i:=i) (by omega);by_cases hxy:x=y
   ·have hne:(x !=y)=false:=by simp[hxy]
    have ux:Y L Cs zF4 (some [2,3,5]) 2 [(2,.w (Pt 0)),(3,.w (Pt 1)),(5,.w (W i))] [some (zKp a),some (zKp b)]=Y L Cs zF4 (some [2,3,5]) 2 [(2,.w (Pt 0)),(3,.w (Pt 1)),(5,.w (W (i+1:Nat)))] [some (zKp a),some (zKp b)]:=by
     rw[zrL];simp[zF4,zKp,hila,hilb,hxa,hxb,hne,hw]
    rw[ux];have:=ih rb (i+1) hda' hdb' hila hilb;simpa [pre,hxy]using this
   ·have hne:(x !=y)=true:=by simp[hxy]
    refine⟨fun h=>by simp[pre,hxy]at h,fun _=>zhJ ?_ (by simp)⟩;simp[zF4,zKp,hila,hilb,hxa,hxb,hne]
theorem Bl(a b:List Int)(ha:a.length<=1000)(hb:b.length<=1000):R L Cs zKD [.a [.jb (zu a)],.a [.jb (zu b)]] []=some (.w (Bo (decide (a=b))),[]):=by
 obtain⟨h1,h2⟩:=zNg a b ha hb a b 0 rfl rfl (jt _) (jt _);rw[<-zOX];rw[zUa zLn rfl];cases hp:pre a b with
 |true =>
  obtain⟨k,h1⟩:=h1 hp;simp[zKp]at h1;have hl:((a.length:Int)==(b.length:Int))=decide (a.length=b.length):=by
   by_cases h:a.length=b.length<;>simp[h];omega
  simp[zGh,h1,hl]
 |false =>
  have h2:=h2 hp;simp[zKp]at h2;simp[zGh,h2]
theorem zRm{c:Car}(hc:c.ok)(l:List Int)(hl:l.length<=1000):∀(r:List Int) (i:Nat),l.drop i=r->i<=l.length ->
  (r.any (zLD c)=false->Y L Cs zJz (some [3,2,6]) 2 [(3,.w (Pt 1)),(2,.w (Pt 0)),(6,.w (W i))] [some (zKk c),some (zKp l)]=some (.exit 0,[(26,.w (Bo false)),(2,.w (Pt 0)),(3,.w (Pt 1)),(6,.w (W l.length))],[some (zKk c),some (zKp l)])) /\
  (r.any (zLD c)=true->Y L Cs zJz (some [3,2,6]) 2 [(3,.w (Pt 1)),(2,.w (Pt 0)),(6,.w (W i))] [some (zKk c),some (zKp l)]=some (.ret,[(4,.w (W 2))],[some (zKk c),some (zKp l)])):=by
 intro r;have hcc:=hc;obtain⟨q1,q2,q3,q4,q5,q6,q7,q8,q9,q10⟩:=hcc;have hwb:=kg (-c.ky);induction r with
 |nil =>
  intro i hd hi;obtain rfl:=zUb hd hi;refine⟨fun _=>zhJ ?_ (by simp),fun h=>by simp at h⟩;simp[zJz,zKp]
 |cons x r ih =>
  intro i hd hi;obtain⟨hil,hx,hd'⟩:=zL hd;obtain⟨ih1,ih2⟩:=ih (i+1) hd' hil;have hw:=zB (i:=i) (by omega);by_cases hb:zLD c x=true
  ·refine⟨fun h=>by simp[hb]at h,fun _=>zhJ ?_ (by simp)⟩;simp[zLD]at hb;by_cases h1:x < -c.ky
   ·simp[zJz,hil,hx,zKp,zKk,jH,hwb,h1]
   ·have h2:c.kO<x:=by omega
    simp[zJz,hil,hx,zKp,zKk,jH,hwb,h1,h2]
  ·have hb':zLD c x=false:=by simpa using hb
   have h1:¬x < -c.ky:=by simp[zLD]at hb';omega
   have h2:¬c.kO<x:=by simp[zLD]at hb';omega
   have ux:Y L Cs zJz (some [3,2,6]) 2 [(3,.w (Pt 1)),(2,.w (Pt 0)),(6,.w (W i))] [some (zKk c),some (zKp l)]=Y L Cs zJz (some [3,2,6]) 2 [(3,.w (Pt 1)),(2,.w (Pt 0)),(6,.w (W (i+1:Nat)))] [some (zKk c),some (zKp l)]:=by
    rw[zrL];simp[zJz,hil,hx,zKp,zKk,jH,hwb,h1,h2,hw]
   rw[ux];simp only[uN,hb',k8];exact⟨ih1,ih2⟩
theorem zRl{c:Car}(hc:c.ok)(l:List Int)(hl:l.length<=1000)(hr:∀x∈l,-1000<=x/\x<=1000):∀(r:List Int) (i:Nat) (a:Int),l.drop i=a::r->i<l.length ->
  (zIY c a r=false->Y L Cs zJy (some [3,2,7]) 2 [(3,.w (Pt 1)),(2,.w (Pt 0)),(7,.w (W (i+1:Nat)))] [some (zKk c),some (zKp l)]=some (.exit 2,[(61,.w (Bo false)),(2,.w (Pt 0)),(3,.w (Pt 1)),(7,.w (W l.length))],[some (zKk c),some (zKp l)])) /\
  (zIY c a r=true->Y L Cs zJy (some [3,2,7]) 2 [(3,.w (Pt 1)),(2,.w (Pt 0)),(7,.w (W (i+1:Nat)))] [some (zKk c),some (zKp l)]=some (.ret,[(4,.w (W 11))],[some (zKk c),some (zKp l)])):=by
 intro r;have hcc:=hc;obtain⟨q1,q2,q3,q4,q5,q6,q7,q8,q9,q10⟩:=hcc;induction r with
 |nil =>
  intro i a hd hi;obtain⟨hil,hx,hd'⟩:=zL hd;have hlen:=zUb hd' hil;rw[hlen];refine⟨fun _=>zhJ ?_ (by simp),fun h=>by simp[zIY]at h⟩;simp[zJy,zKp]
 |cons x r ih =>
  intro i a hd hi;obtain⟨hil,hx,hd'⟩:=zL hd;obtain⟨AA,hx2,_⟩:=zL hd';obtain⟨ih1,ih2⟩:=ih (i+1) x hd' AA;have hxr:=hr x (by rw[<-hx2];exact je AA);have har:=hr a (by rw[<-hx];exact je hil);have hw:=zB (i:=i+1) (by omega);have hws:=kg (x-a);have hwn:=kg (-(x-a));have hwi:IntKind.i64.wrap (((i+1:Nat):Int)-1)=(i:Int):=by rw[zTd _ (by omega) (by omega)];omega
  have hlt:((i:Int)+1<l.length):=by omega
  have Cj:IntKind.i64.wrap (i:Int)=(i:Int):=zTd _ (by omega) (by omega);have h0:(0:Int)<=(i:Int)+1:=by omega
  have ht:((i:Int)+1).toNat=i+1:=by omega
  have hw2:=kg ((i:Int)+1+1);by_cases hb:(decide (-c.qS<=x-a)&&decide (x-a<=c.qS))=true
  ·have hb2:=hb;simp only[jl,decide_eq_true_eq]at hb2;have h1:¬c.qS<x-a:=by omega
   have h2:¬c.qS < -(x-a):=by omega
   have ux:Y L Cs zJy (some [3,2,7]) 2 [(3,.w (Pt 1)),(2,.w (Pt 0)),(7,.w (W (i+1:Nat)))] [some (zKk c),some (zKp l)]=Y L Cs zJy (some [3,2,7]) 2 [(3,.w (Pt 1)),(2,.w (Pt 0)),(7,.w (W (i+1+1:Nat)))] [some (zKk c),some (zKp l)]:=by
    rw[zrL];simp[zJy,hil,AA,hx,hx2,zKp,zKk,jH,hws,hwn,Cj,h1,h2,hw2,hlt,h0,ht]
   rw[ux];simp only[zIY,hb,Bool.not_true,k8];exact⟨ih1,ih2⟩
  ·have hb':(decide (-c.qS<=x-a)&&decide (x-a<=c.qS))=false:=by simpa using hb
   refine⟨fun h=>(by simp only[zIY,hb',Aa,Bool.true_or]at h;cases h),fun _=>zhJ ?_ (by simp)⟩;simp only[jl,decide_eq_true_eq]at hb;by_cases h1:c.qS<x-a
   ·simp[zJy,hil,AA,hx,hx2,zKp,zKk,jH,hws,hwn,Cj,h1,hw2,hlt,h0,ht]
   ·have h2:c.qS < -(x-a):=by omega
    simp[zJy,hil,AA,hx,hx2,zKp,zKk,jH,hws,hwn,Cj,h1,h2,hw2,hlt,h0,ht]
theorem yT(c:Car)(l:List Int)(hl:l.length<=1000):R L Cs zQ9 [.a (jH c),.a [.jb (zu l)]] []=some (.w (W (qy c l)),[]):=by
 have hck:=uz c;simp only[jH]at hck;rw[zUa zRc rfl];by_cases hc:¬c.ok
 ·rw[yS,if_neg hc]at hck;rw[qy,if_pos hc];simp[zJP,jH,hck]
 have hc:c.ok:=yD.1 hc;rw[yS,if_pos hc]at hck;cases l with
 |nil=>simp[zJP,jH,hck,qy,hc]
 |cons x r =>
 have hne:((r.length:Int)+1==0)=false:=by simp;omega
 by_cases h200:200<r.length+1
 ·have yL:(200:Int)<(r.length:Int)+1:=by omega
  simp[zJP,jH,hck,qy,hc,hne,h200,yL]
 have yL:¬(200:Int)<(r.length:Int)+1:=by omega
 have qZ:∀h,([I x]::zu r)[r.length]'h=[I ((x::r).getLastD 0)]:=by
  intro h;have e:[I x]::zu r=zu (x::r):=rfl;simp only[e,zBd];simp[yw,yx]
 simp only[uY]at qZ;have hw:IntKind.i64.wrap (r.length:Int)=r.length:=zTd _ (by omega) (by omega);have hlt:(r.length:Int)<(r.length:Int)+1:=by omega
 have hF:qy c (x::r)=if 0<r.getLastD x then 2 else if(x::r).any (zLD c)=true then 2 else if zIY c x (x::r)=true then 11 else 0:=by
  unfold qy;rw[if_neg (by simp[hc]),if_neg (by simp),if_neg (by simpa using h200),uY,List.headD_cons]
 rw[hF];generalize r.getLastD x=z at qZ;obtain⟨l1,l2⟩:=zRm hc (x::r) hl (x::r) 0 rfl (jt _);by_cases hb:(x::r).any (zLD c)=true
 ·have l2:=l2 hb;simp[zKk,jH,zKp]at l2;have h2:(if 0<z then(2:Int) else if(x::r).any (zLD c)=true then 2 else if zIY c x (x::r)=true then 11 else 0)=2:=by split<;>simp[hb]
  rw[h2];simp[zJP,jH,hck,hne,yL,l2]
 ·have hb:(x::r).any (zLD c)=false:=by simpa using hb
  have l1:=l1 hb;simp[zKk,jH,zKp]at l1;have hr:∀y∈(x::r),-1000<=y/\y<=1000:=by
   intro y hy;have h1:=vq.1 hb y hy;obtain⟨q1,q2,q3,q4,q5,q6,q7,q8,q9,q10⟩:=hc;simp[zLD]at h1;omega
  by_cases hz:0<z
  ·rw[if_pos hz];simp[zJP,jH,hck,hne,yL,l1,hw,hlt,qZ,hz]
  ·rw[if_neg hz,if_neg (show ¬(x::r).any (zLD c)=true by rw[hb];simp)];obtain⟨k1,k2⟩:=zRl hc (x::r) hl hr r 0 x rfl (by simp);have hs:zIY c x (x::r)=zIY c x r:=by
    obtain⟨h1,h2,h3,h4,h5,h6,h7,h8,h9,h10⟩:=hc;have e1:decide (-c.qS<=x-x)=true:=decide_eq_true (by omega);have e2:decide (x-x<=c.qS)=true:=decide_eq_true (by omega);simp only[zIY,e1,e2,Bool.and_self,Bool.not_true,k8]
   rw[hs];cases hbs:zIY c x r with
   |false =>
    have k1:=k1 hbs;simp[zKk,jH,zKp]at k1;simp[zJP,jH,hck,hne,yL,l1,hw,hlt,qZ,hz,k1]
   |true =>
    have k2:=k2 hbs;simp[zKk,jH,zKp]at k2;simp[zJP,jH,hck,hne,yL,l1,hw,hlt,qZ,hz,k2]
end Go.TrRun.Pl
namespace Go.TrRun
open Go Go.Eng
def zgQ(a b:Int):Int:=if a<b then -1 else if b<a then 1 else 0
theorem zpH(a:Int):R L Cs zlc [W a] []=some (.w (Bo false),[]):=by
 rw[zUa zle rfl];simp[zfU]
theorem zjw(a:Int):R L Cs zi5 [W a] []=some (.w (Bo false),[]):=by
 rw[zUa zi9 rfl];simp[ze6]
theorem zsr(a b:Int):R L Cs zi6 [W a,W b] []=some (.w (W (zgQ a b)),[]):=by
 rw[zUa zja rfl];have h1:=zpH a;have h2:=zpH b;by_cases h:a<b
 ·simp[zb3,h1,h2,h,zgQ]
 ·by_cases h':b<a
  ·simp[zb3,h1,h2,h,h',zgQ]
  ·simp[zb3,h1,h2,h,h',zgQ]
theorem zp1(a b:Int):R L Cs zhQ [W a,W b] []=some (.w (W (zgQ a b)),[]):=by
 rw[zUa zhS rfl];have h1:=zjw a;have h2:=zjw b;by_cases h:a<b
 ·simp[zbq,h1,h2,h,zgQ]
 ·by_cases h':b<a
  ·simp[zbq,h1,h2,h,h',zgQ]
  ·simp[zbq,h1,h2,h,h',zgQ]
theorem zBq(l:List Int)(hl:l.length<=1000):Y L Cs zab (some [7,6,3,8]) 0 [(7,.w (W l.length)),(6,.w (.c (.jb (zu l)))),(3,.w (W 0)),(8,.w (W (0:Nat)))] [] =
  some (match l.findIdx? (fun x=>x !=0)with |some i=>(.ret,[(2,.w (W ((l[i]?).getD 0)))],[]) |none=>(.exit 0,[(9,.w (Bo false)),(3,.w (W 0)),(6,.w (.c (.jb (zu l)))),(7,.w (W l.length)),(8,.w (W l.length))],[])):=by
 refine zxf l (fun i=>[(7,.w (W l.length)),(6,.w (.c (.jb (zu l)))),(3,.w (W 0)),(8,.w (W i))]) _ _ _ _ ?_ ?_ ?_
 ·intro i h hp;have hw:=zB (i:=i) (by omega);simp at hp;rw[zj zab.eq_1];simp[h,hw,hp]
 ·intro i h hp;rw[zj zab.eq_1];simp[h,hp]
 ·rw[zj zab.eq_1];simp
theorem zA0(x y:Int):R L Cs zob [.c (.jb (zu [x,y]))] []=some (.w (W (if x≠0 then x else y)),[]):=by
 have h:=zBq [x,y] (by simp);simp only[jg,zaP,zay,jk,jp]at h;rw[zUa zow rfl];by_cases hx:x=0
 ·by_cases hy:y=0
  ·simp[hx,hy,qO]at h;simp[zfw,h,hx,hy]
  ·have hb:(y !=0)=true:=by simp[hy]
   simp[hx,hy,hb,qO]at h;simp[zfw,h,hx,hy]
 ·have hb:(x !=0)=true:=by simp[hx]
  simp[hx,hb,qO]at h;simp[zfw,h,hx]
def ziK(a b:zk):Int:=if zgQ a.lane b.lane≠0 then zgQ a.lane b.lane else zgQ a.lo b.lo
theorem zrR(b:zk):R L Cs zct [.a (ze b)] []=some (.w (Bo (decide (b.hi<b.lo))),[]):=by
 rw[zUa zp6 rfl];simp[zhH,ze]
theorem zop(a b:zk):R L Cs zdc [.a (ze a),.a (ze b)] []=some (.w (W (ziK a b)),[]):=by
 have h:=zA0 (zgQ a.lane b.lane) (zgQ a.lo b.lo);have h1:=zsr a.lane b.lane;have h2:=zp1 a.lo b.lo;simp only[zaP,zay]at h;rw[zUa zp5 rfl];simp[zhG,ze,h1,h2,h,ziK,zX]
theorem zpv(l:List Int)(x:Int)(hl:l.length<=100000):∀(r:List Int) (i:Nat),l.drop i=r->i<=l.length ->
  (x∉r->∃E',Y L Cs za7 (some [7,1,0,8]) 0 [(7,.w (W l.length)),(1,.w (W x)),(0,.w (.c (.jb (zu l)))),(8,.w (W i))] []=some (.exit 0,E',[])) /\
  (x∈r->∃k:Nat,Y L Cs za7 (some [7,1,0,8]) 0 [(7,.w (W l.length)),(1,.w (W x)),(0,.w (.c (.jb (zu l)))),(8,.w (W i))] []=some (.ret,[(4,.w (W k))],[])/\l[k]?=some x/\∀m,i<=m->m<k->l[m]?≠some x):=by
 intro r;induction r with
 |nil =>
  intro i hd hi;obtain rfl:=zUb hd hi;refine⟨fun _=>⟨_,zhJ (r:=(.exit 0,[(9,.w (Bo false)),(0,.w (.c (.jb (zu l)))),(1,.w (W x)),(7,.w (W l.length)),(8,.w (W l.length))],[])) ?_ (by simp)⟩,fun h=>by simp at h⟩;simp[za7]
 |cons y r ih =>
  intro i hd hi;obtain⟨hil,hy,hd'⟩:=zL hd;obtain⟨ih1,ih2⟩:=ih (i+1) hd' hil;have hw:=zB (i:=i) (by omega);by_cases hxy:x=y
  ·refine⟨fun h=>by simp[hxy]at h,fun _=>⟨i,zhJ ?_ (by simp),?_,?_⟩⟩
   ·have hb:(x==y)=true:=by simp[hxy]
    simp[za7,hil,hy,hb]
   ·rw[jq hil,hy,hxy]
   ·intro m h1 h2;omega
  ·have hb:(x==y)=false:=by simp[hxy]
   have ux:Y L Cs za7 (some [7,1,0,8]) 0 [(7,.w (W l.length)),(1,.w (W x)),(0,.w (.c (.jb (zu l)))),(8,.w (W i))] []=Y L Cs za7 (some [7,1,0,8]) 0 [(7,.w (W l.length)),(1,.w (W x)),(0,.w (.c (.jb (zu l)))),(8,.w (W (i+1:Nat)))] []:=by
    rw[zrL];simp[za7,hil,hy,hb,hw]
   rw[ux];refine⟨fun h=>ih1 (fun h'=>h (jv _ h')),fun h=>?_⟩;have h:x∈r:=by rcases jy.1 h with h |h;exact absurd h hxy;exact h
   obtain⟨k,h1,h2,h3⟩:=ih2 h;refine⟨k,h1,h2,fun m h4 h5=>?_⟩;rcases Nat.eq_or_lt_of_le h4 with rfl|h6
   ·rw[jq hil,hy];intro h;exact hxy (v5 h).symm
   ·exact h3 m h6 h5
theorem znC(l:List Int)(x:Int)(hl:l.length<=100000):R L Cs zli [.c (.jb (zu l)),W x] []=some (.w (Bo (decide (x∈l))),[]):=by
 obtain⟨h1,h2⟩:=zpv l x hl l 0 rfl (jt _);simp only[jg]at h1 h2;have key:∃k:Int,R L Cs zf1 [.c (.jb (zu l)),W x] []=some (.w (W k),[])/\(decide (0<=k)=decide (x∈l)):=by
  by_cases h:x∈l
  ·obtain⟨k,hk,_,_⟩:=h2 h;refine⟨k,?_,by simp[h]⟩;rw[zUa zeL rfl];simp[zcI,hk]
  ·obtain⟨E',hE⟩:=h1 h;refine⟨-1,?_,by simp[h]⟩;rw[zUa zeL rfl];simp[zcI,hE]
 obtain⟨k,hk,hd⟩:=key;rw[zUa zlu rfl];simp[zeW,hk,hd]
structure zfn where
 kind:Int
 pts:List (Int×Int)
 half:Int
 vC:Int
 next:List Int
 len:Int
structure zCP where
 lane:Int
 lo:Int
 hi:Int
 Bw:Int
 ends:Int
 vC:Int
structure zD where
 version:Int
 jc:List zfn
 qE:List (List Cl)
 signals:List (List Cl)
 kE:List zCP
def zo(l:zfn):List Cl:=[I l.kind,.jb (l.pts.map fun p=>[I p.1,I p.2]),I l.half,I l.vC,.jb (zu l.next)]
def zaL(w:zCP):List Cl:=[I w.lane,I w.lo,I w.hi,I w.Bw,I w.ends,I w.vC]
def zf(m:zD):List Cl:=[I m.version,.jb (m.jc.map zo),.jb m.qE,.jb m.signals,.jb (m.kE.map zaL)]
def zes(x:Int):Nat->List zfn->List Int
 |_,[]=>[]
 |k,l::ls=>if x∈l.next then(k:Int)::zes x (k+1) ls else zes x (k+1) ls
theorem zvG(m:zD)(x:Int)(hn:m.jc.length<=100)(hx:∀l∈m.jc,l.next.length<=1000):∀(r:List zfn) (i:Nat) (out:List Int),m.jc.drop i=r->i<=m.jc.length->out.length<=i ->
  Y L Cs zdU (some [5,11,10,9,1]) 3 [(5,.w (.c (sl 2 1 (zu out)))),(11,.w (W i)),(10,.w (W m.jc.length)),(9,.w (.c (.jb (m.jc.map zo)))),(1,.w (W x))] [some { box:=true,esz:=5,rows:=[zf m],gen:=0,fz:=false,ver:=0 },some { box:=false,esz:=1,rows:=[],gen:=0,fz:=false,ver:=0 },some (own 1 (zu out))] =
    some (.exit 0,[(12,.w (Bo false)),(5,.w (.c (sl 2 1 (zu (out++zes x i r))))),(11,.w (W m.jc.length)),(10,.w (W m.jc.length)),(9,.w (.c (.jb (m.jc.map zo)))),(1,.w (W x))],[some { box:=true,esz:=5,rows:=[zf m],gen:=0,fz:=false,ver:=0 },some { box:=false,esz:=1,rows:=[],gen:=0,fz:=false,ver:=0 },some (own 1 (zu (out++zes x i r)))]):=by
 intro r;induction r with
 |nil =>
  intro i out hd hi ho;obtain rfl:=zUb hd hi;refine zhJ ?_ (by simp);simp[zdU,zes]
 |cons l r ih =>
  intro i out hd hi ho;obtain⟨hil,hl,hd'⟩:=zL hd;have hw:=zB (i:=i) (by omega);have hc:=znC l.next x (by have:=hx l (by rw[<-hl];exact je hil);omega);have jX:(out.length+1)*8<=140737488355328:=by omega
  by_cases hb:x∈l.next
  ·have u0:=ih (i+1) (out++[(i:Int)]) hd' hil (by simp;omega);rw[zes,if_pos hb,show out++(i:Int)::zes x (i+1) r=(out++[(i:Int)])++zes x (i+1) r by simp,<-u0,zrL];simp[hb]at hc;simp[zdU,hil,hl,zo,zf,hc,hw,jX]
  ·have u0:=ih (i+1) out hd' hil (by omega);rw[zes,if_neg hb,<-u0,zrL];simp[hb]at hc;simp[zdU,hil,hl,zo,zf,hc,hw]
theorem zvT(m:zD)(x:Int)(hn:m.jc.length<=100)(hx:∀l∈m.jc,l.next.length<=1000):R L Cs zrg [.a (zf m),W x] []=some (.w (.c (.jb (zu (zes x 0 m.jc)))),[]):=by
 have h:=zvG m x hn hx m.jc 0 [] rfl (jt _) (jt _);simp only[jg,jf,zf,zay,sl,own,jp,zfq]at h;rw[zUa zrW rfl];simp[zis,zf,h]
theorem zAo(l:List Int)(x:Int)(hl:l.length<=100000):∀(r:List Int) (i:Nat),l.drop i=r->i<=l.length ->
  (x∉r->Y L Cs zaT (some [0,1,5]) 0 [(0,.w (.c (.jb (zu l)))),(1,.w (W x)),(5,.w (W i))] []=some (.exit 0,[(9,.w (Bo false)),(1,.w (W x)),(0,.w (.c (.jb (zu l)))),(5,.w (W l.length))],[])) /\
  (x∈r->Y L Cs zaT (some [0,1,5]) 0 [(0,.w (.c (.jb (zu l)))),(1,.w (W x)),(5,.w (W i))] []=some (.ret,[(4,.w (Bo true))],[])):=by
 intro r;induction r with
 |nil =>
  intro i hd hi;obtain rfl:=zUb hd hi;refine⟨fun _=>zhJ ?_ (by simp),fun h=>by simp at h⟩;simp[zaT]
 |cons y r ih =>
  intro i hd hi;obtain⟨hil,hy,hd'⟩:=zL hd;obtain⟨ih1,ih2⟩:=ih (i+1) hd' hil;have hw:=zB (i:=i) (by omega);by_cases hxy:y=x
  ·refine⟨fun h=>by simp[hxy]at h,fun _=>zhJ ?_ (by simp)⟩;have hb:(y==x)=true:=by simp[hxy]
   simp[zaT,hil,hy,hb]
  ·have hb:(y==x)=false:=by simp[hxy]
   have ux:Y L Cs zaT (some [0,1,5]) 0 [(0,.w (.c (.jb (zu l)))),(1,.w (W x)),(5,.w (W i))] []=Y L Cs zaT (some [0,1,5]) 0 [(0,.w (.c (.jb (zu l)))),(1,.w (W x)),(5,.w (W (i+1:Nat)))] []:=by
    rw[zrL];simp[zaT,hil,hy,hb,hw]
   rw[ux];refine⟨fun h=>ih1 (fun h'=>h (jv _ h')),fun h=>ih2 ?_⟩;rcases jy.1 h with h|h
   ·exact absurd h.symm hxy
   ·exact h
theorem zAX(l:List Int)(x:Int)(hl:l.length<=100000):R L Cs zmb [.c (.jb (zu l)),W x] []=some (.w (Bo (decide (x∈l))),[]):=by
 obtain⟨h1,h2⟩:=zAo l x hl l 0 rfl (jt _);simp only[jg]at h1 h2;rw[zUa zmu rfl];by_cases h:x∈l
 ·simp[zdY,h2 h,h]
 ·simp[zdY,h1 h,h]
theorem zqI(m:zD)(x:Int)(hn:m.jc.length<=100)(hx:∀l∈m.jc,l.next.length<=1000):∀(r:List zfn) (i:Nat) (out:List Int),m.jc.drop i=r->i<=m.jc.length->out.length<=i ->
  Y L Cs zbI (some [5,6,2,1]) 3 [(5,.w (.c (sl 2 1 (zu out)))),(6,.w (W i)),(2,.w (Pt 0)),(1,.w (W x))] [some { box:=true,esz:=5,rows:=[zf m],gen:=0,fz:=false,ver:=0 },some { box:=false,esz:=1,rows:=[],gen:=0,fz:=false,ver:=0 },some (own 1 (zu out))] =
    some (.exit 0,[(11,.w (Bo false)),(5,.w (.c (sl 2 1 (zu (out++zes x i r))))),(6,.w (W m.jc.length)),(2,.w (Pt 0)),(1,.w (W x))],[some { box:=true,esz:=5,rows:=[zf m],gen:=0,fz:=false,ver:=0 },some { box:=false,esz:=1,rows:=[],gen:=0,fz:=false,ver:=0 },some (own 1 (zu (out++zes x i r)))]):=by
 intro r;induction r with
 |nil =>
  intro i out hd hi ho;obtain rfl:=zUb hd hi;refine zhJ ?_ (by simp);simp[zbI,zes,zf]
 |cons l r ih =>
  intro i out hd hi ho;obtain⟨hil,hl,hd'⟩:=zL hd;have hw:=zB (i:=i) (by omega);have hc:=zAX l.next x (by have:=hx l (by rw[<-hl];exact je hil);omega);have jX:(out.length+1)*8<=140737488355328:=by omega
  by_cases hb:x∈l.next
  ·have u0:=ih (i+1) (out++[(i:Int)]) hd' hil (by simp;omega);rw[zes,if_pos hb,show out++(i:Int)::zes x (i+1) r=(out++[(i:Int)])++zes x (i+1) r by simp,<-u0,zrL];simp[hb]at hc;simp[zbI,hil,hl,zo,zf,hc,hw,jX]
  ·have u0:=ih (i+1) out hd' hil (by omega);rw[zes,if_neg hb,<-u0,zrL];simp[hb]at hc;simp[zbI,hil,hl,zo,zf,hc,hw]
theorem zpG(m:zD)(x:Int)(hn:m.jc.length<=100)(hx:∀l∈m.jc,l.next.length<=1000):R L Cs zjP [.a (zf m),W x] []=some (.w (.c (.jb (zu (zes x 0 m.jc)))),[]):=by
 have h:=zqI m x hn hx m.jc 0 [] rfl (jt _) (jt _);simp only[jg,jf,zf,zay,sl,own,jp,zfq]at h;rw[zUa zkb rfl];simp[zeo,zf,h]
def goF(m:zD):Int->List Int->Bool
 |_,[]=>true
 |a,x::xs=>decide (x∈((m.jc[a.toNat]?).map zfn.next).getD [])&&goF m x xs
structure zvM(m:zD):Prop where
 jc:m.jc.length<=14
 next:∀l∈m.jc,l.next.length<=10
 valid:∀l∈m.jc,∀x∈l.next,0<=x/\x<m.jc.length
theorem zwq(m:zD)(h:zvM m)(l:List Int)(hl:l.length<=1000):∀(r:List Int) (i:Nat) (a:Int),l.drop i=r->i<=l.length->0<=a->a<m.jc.length ->
  (goF m a r=true->∃b,Y L Cs za8 (some [6,51,50,2,52]) 1 [(6,.w (W a)),(51,.w (W l.length)),(50,.w (.c (.jb (zu l)))),(2,.w (Pt 0)),(52,.w (W i))] [some { box:=true,esz:=5,rows:=[zf m],gen:=0,fz:=false,ver:=0 }]=some (.exit 0,[(53,.w (Bo false)),(6,.w (W b)),(2,.w (Pt 0)),(50,.w (.c (.jb (zu l)))),(51,.w (W l.length)),(52,.w (W l.length))],[some { box:=true,esz:=5,rows:=[zf m],gen:=0,fz:=false,ver:=0 }])) /\
  (goF m a r=false->Y L Cs za8 (some [6,51,50,2,52]) 1 [(6,.w (W a)),(51,.w (W l.length)),(50,.w (.c (.jb (zu l)))),(2,.w (Pt 0)),(52,.w (W i))] [some { box:=true,esz:=5,rows:=[zf m],gen:=0,fz:=false,ver:=0 }]=some (.ret,[(4,.w (W 13))],[some { box:=true,esz:=5,rows:=[zf m],gen:=0,fz:=false,ver:=0 }])):=by
 intro r;induction r with
 |nil =>
  intro i a hd hi h1 h2;obtain rfl:=zUb hd hi;refine⟨fun _=>⟨a,zhJ ?_ (by simp)⟩,fun h=>by simp[goF]at h⟩;simp[za8]
 |cons x r ih =>
  intro i a hd hi h1 h2;obtain⟨hil,hx,hd'⟩:=zL hd;have hw:=zB (i:=i) (by omega);have hal:a.toNat<m.jc.length:=by omega
  have uB:((m.jc[a.toNat]?).map zfn.next).getD []=(m.jc[a.toNat]).next:=by rw[jq hal];rfl
  have Az:m.jc[a.toNat]∈m.jc:=je hal;have hc:=znC (m.jc[a.toNat]).next x (by have:=h.next _ Az;omega);by_cases hb:x∈(m.jc[a.toNat]).next
  ·obtain⟨v1,v2⟩:=h.valid _ Az x hb;obtain⟨ih1,ih2⟩:=ih (i+1) x hd' hil v1 v2;have ux:Y L Cs za8 (some [6,51,50,2,52]) 1 [(6,.w (W a)),(51,.w (W l.length)),(50,.w (.c (.jb (zu l)))),(2,.w (Pt 0)),(52,.w (W i))] [some { box:=true,esz:=5,rows:=[zf m],gen:=0,fz:=false,ver:=0 }]=Y L Cs za8 (some [6,51,50,2,52]) 1 [(6,.w (W x)),(51,.w (W l.length)),(50,.w (.c (.jb (zu l)))),(2,.w (Pt 0)),(52,.w (W (i+1:Nat)))] [some { box:=true,esz:=5,rows:=[zf m],gen:=0,fz:=false,ver:=0 }]:=by
    rw[zrL];simp[hb]at hc;simp[za8,hil,hx,zf,zo,hc,hw,h1,h2,hal]
   rw[ux];simp only[goF,uB,hb,decide_true,uO];exact⟨ih1,ih2⟩
  ·refine⟨fun hg=>by simp[goF,uB,hb]at hg,fun _=>zhJ ?_ (by simp)⟩;simp[hb]at hc;simp[za8,hil,hx,zf,zo,hc,hw,h1,h2,hal]
def zdA(m:zD):List Int->Int
 |[]=>13
 |x::t=>if 8<t.length+1 then 13 else if x<0 then 13 else if(m.jc.length:Int)<=x then 13 else if zes x 0 m.jc≠[] then 13 else if goF m x t then 0 else 13
theorem zos(m:zD)(h:zvM m)(hck:R L Cs zjl [.a (zf m)] []=some (.w (W 0),[]))(l:List Int)(hl:l.length<=1000):R L Cs znv [.a (zf m),.c (.jb (zu l))] []=some (.w (W (zdA m l)),[]):=by
 have Ax:=zwq m h;simp only[zf]at hck Ax;rw[zUa znF rfl];cases l with
 |nil=>simp[zbl,zf,hck,zdA]
 |cons x t =>
 have hne:((t.length:Int)+1==0)=false:=by simp;omega
 have Ar:=zvT m x (by have:=h.jc;omega) (fun l hl=>by have:=h.next l hl;omega);simp only[zf]at Ar;simp only[zdA];by_cases h8:8<t.length+1
 ·have h8':(8:Int)<(t.length:Int)+1:=by omega
  simp[zbl,zf,hck,hne,h8,h8']
 have h8':¬(8:Int)<(t.length:Int)+1:=by omega
 rw[if_neg h8];by_cases h0:x<0
 ·simp[zbl,zf,hck,hne,h8',h0]
 by_cases hn:(m.jc.length:Int)<=x
 ·simp[zbl,zf,hck,hne,h8',h0,hn]
 by_cases hb:zes x 0 m.jc=[]
 ·rw[hb]at Ar;simp only[zay]at Ar;obtain⟨l1,l2⟩:=Ax t (by simp at hl;omega) t 0 x rfl (jt _) (by omega) (by omega);simp only[jg]at l1 l2;have q1:(1:Int)<=(t.length:Int)+1:=by omega
  have q2:(0:Int)<=(t.length:Int)+1:=by omega
  have q3:1+t.length<=t.length+1:=by omega
  cases hg:goF m x t with
  |true =>
   obtain⟨b,l1⟩:=l1 hg;simp[zbl,zf,hck,hne,h8',h0,hn,hb,Ar,l1,q1,q2,q3]
  |false =>
   have l2:=l2 hg;simp[zbl,zf,hck,hne,h8',h0,hn,hb,Ar,l2,q1,q2,q3]
 ·have qM:0<(zes x 0 m.jc).length:=kC.2 hb;have Bh:(0:Int)<((zes x 0 m.jc).length:Int):=by omega
  simp[zbl,zf,hck,hne,h8',h0,hn,hb,Ar,qM,Bh]
theorem zr4(m:zD)(h:zvM m)(l:List Int)(hl:l.length<=1000):∀(r:List Int) (i:Nat) (a:Int),l.drop i=a::r->0<=a->a<m.jc.length ->
  (goF m a r=true->Y L Cs zag (some [2,1,6]) 1 [(2,.w (Pt 0)),(1,.w (.c (.jb (zu l)))),(6,.w (W (i+1:Nat)))] [some { box:=true,esz:=5,rows:=[zf m],gen:=0,fz:=false,ver:=0 }]=some (.exit 0,[(47,.w (Bo false)),(1,.w (.c (.jb (zu l)))),(2,.w (Pt 0)),(6,.w (W l.length))],[some { box:=true,esz:=5,rows:=[zf m],gen:=0,fz:=false,ver:=0 }])) /\
  (goF m a r=false->Y L Cs zag (some [2,1,6]) 1 [(2,.w (Pt 0)),(1,.w (.c (.jb (zu l)))),(6,.w (W (i+1:Nat)))] [some { box:=true,esz:=5,rows:=[zf m],gen:=0,fz:=false,ver:=0 }]=some (.ret,[(4,.w (W 13))],[some { box:=true,esz:=5,rows:=[zf m],gen:=0,fz:=false,ver:=0 }])):=by
 intro r;induction r with
 |nil =>
  intro i a hd h1 h2;obtain⟨hil,hx,hd'⟩:=zL hd;have hlen:=zUb hd' hil;rw[hlen];refine⟨fun _=>zhJ ?_ (by simp),fun h=>by simp[goF]at h⟩;simp[zag]
 |cons x r ih =>
  intro i a hd h1 h2;obtain⟨hil,ha,hd'⟩:=zL hd;obtain⟨AA,hx,_⟩:=zL hd';have hal:a.toNat<m.jc.length:=by omega
  have uB:((m.jc[a.toNat]?).map zfn.next).getD []=(m.jc[a.toNat]).next:=by rw[jq hal];rfl
  have Az:m.jc[a.toNat]∈m.jc:=je hal;have hc:=zAX (m.jc[a.toNat]).next x (by have:=h.next _ Az;omega);have hlt:((i:Int)+1<l.length):=by omega
  have Cj:IntKind.i64.wrap (i:Int)=(i:Int):=zTd _ (by omega) (by omega);have h0:(0:Int)<=(i:Int)+1:=by omega
  have ht:((i:Int)+1).toNat=i+1:=by omega
  have hw2:=kg ((i:Int)+1+1);by_cases hb:x∈(m.jc[a.toNat]).next
  ·obtain⟨v1,v2⟩:=h.valid _ Az x hb;obtain⟨ih1,ih2⟩:=ih (i+1) x hd' v1 v2;have ux:Y L Cs zag (some [2,1,6]) 1 [(2,.w (Pt 0)),(1,.w (.c (.jb (zu l)))),(6,.w (W (i+1:Nat)))] [some { box:=true,esz:=5,rows:=[zf m],gen:=0,fz:=false,ver:=0 }]=Y L Cs zag (some [2,1,6]) 1 [(2,.w (Pt 0)),(1,.w (.c (.jb (zu l)))),(6,.w (W (i+1+1:Nat)))] [some { box:=true,esz:=5,rows:=[zf m],gen:=0,fz:=false,ver:=0 }]:=by
    rw[zrL];simp[hb]at hc;simp[zag,hil,AA,ha,hx,zf,zo,hc,Cj,hw2,hlt,h0,ht,h1,h2,hal]
   rw[ux];simp only[goF,uB,hb,decide_true,uO];exact⟨ih1,ih2⟩
  ·refine⟨fun hg=>by simp[goF,uB,hb]at hg,fun _=>zhJ ?_ (by simp)⟩;simp[hb]at hc;simp[zag,hil,AA,ha,hx,zf,zo,hc,Cj,hw2,hlt,h0,ht,h1,h2,hal]
theorem zp0(m:zD)(h:zvM m)(hck:R L Cs zeE [.a (zf m)] []=some (.w (W 0),[]))(l:List Int)(hl:l.length<=1000):R L Cs zh0 [.a (zf m),.c (.jb (zu l))] []=some (.w (W (zdA m l)),[]):=by
 have Ax:=zr4 m h;simp only[zf]at hck Ax;rw[zUa zia rfl];cases l with
 |nil=>simp[zai,zf,hck,zdA]
 |cons x t =>
 have hne:((t.length:Int)+1==0)=false:=by simp;omega
 have Ar:=zpG m x (by have:=h.jc;omega) (fun l hl=>by have:=h.next l hl;omega);simp only[zf]at Ar;simp only[zdA];by_cases h8:8<t.length+1
 ·have h8':(8:Int)<(t.length:Int)+1:=by omega
  simp[zai,zf,hck,hne,h8,h8']
 have h8':¬(8:Int)<(t.length:Int)+1:=by omega
 rw[if_neg h8];by_cases h0:x<0
 ·simp[zai,zf,hck,hne,h8',h0]
 by_cases hn:(m.jc.length:Int)<=x
 ·simp[zai,zf,hck,hne,h8',h0,hn]
 by_cases hb:zes x 0 m.jc=[]
 ·rw[hb]at Ar;simp only[zay]at Ar;obtain⟨l1,l2⟩:=Ax (x::t) hl t 0 x rfl (by omega) (by omega);simp at l1 l2;have q1:(1:Int)<=(t.length:Int)+1:=by omega
  have q2:(0:Int)<=(t.length:Int)+1:=by omega
  have q3:1+t.length<=t.length+1:=by omega
  cases hg:goF m x t with
  |true =>
   have l1:=l1 hg;simp[zai,zf,hck,hne,h8',h0,hn,hb,Ar,l1,q1,q2,q3]
  |false =>
   have l2:=l2 hg;simp[zai,zf,hck,hne,h8',h0,hn,hb,Ar,l2,q1,q2,q3]
 ·have qM:0<(zes x 0 m.jc).length:=kC.2 hb;have Bh:(0:Int)<((zes x 0 m.jc).length:Int):=by omega
  simp[zai,zf,hck,hne,h8',h0,hn,hb,Ar,qM,Bh]
def zeT(l:zfn):Cl:=.jb (l.pts.map fun p=>[I p.1,I p.2])
structure zcp(m:zD):Prop where
 small:zvM m
 chk:R L Cs zjl [.a (zf m)] []=some (.w (W 0),[])
 AP:R L Cs zeE [.a (zf m)] []=some (.w (W 0),[])
 len:∀l∈m.jc,R L Cs zaw [.a [zeT l]] []=some (.w (W l.len),[])
 rlen:∀l∈m.jc,R L Cs zN [.a [zeT l]] []=some (.w (W l.len),[])
 len1:∀l∈m.jc,1000<=l.len/\l.len<=1000000
 kind:∀l∈m.jc,l.kind=1\/l.kind=2\/l.kind=3
 vC:∀l∈m.jc,1<=l.vC/\l.vC<=2000
def z8(m:zD)(i:Int):Int:=if 0<=i then((m.jc[i.toNat]?).map zfn.len).getD 0 else 0
theorem zAV{m:zD}(h:zcp m){i:Nat}(hi:i<m.jc.length):R L Cs zkE [.a (zf m),W i] []=some (.w (W m.jc[i].len),[]):=by
 have hc:=h.len _ (je hi);simp only[zeT]at hc;rw[zUa zou rfl];simp[zh5,zf,hi,zo,hc]
theorem ztk{m:zD}(h:zcp m){i:Nat}(hi:i<m.jc.length):R L Cs zgl [.a (zf m),W i] []=some (.w (W m.jc[i].len),[]):=by
 have hc:=h.rlen _ (je hi);simp only[zeT]at hc;rw[zUa zka rfl];simp[zen,zf,hi,zo,hc]
theorem zA3{m:zD}(h:zcp m){i:Nat}(hi:i<m.jc.length):R L Cs zgX [.a (zf m),W i] []=some (.w (W m.jc[i].len),[]):=by
 have hc:=ztk h hi;simp only[zf]at hc;rw[zUa zlG rfl];simp[ze1,zf,hc]
theorem zrQ{m:zD}(h:zcp m){i:Nat}(hi:i<m.jc.length):R L Cs zri [.a (zf m),W i] []=some (.w (W m.jc[i].len),[]):=by
 have hl:=zAV h hi;have hk:=h.chk;simp only[zf]at hl hk;have his:R L Cs zwZ [.a (zf m),W i] []=some (.w (Bo true),[]):=by
  rw[zUa zxi rfl];simp[znA,zf,hi,hk]
 simp only[zf]at his;rw[zUa zrY rfl];simp[ziu,zf,his,hl]
theorem zEQ{m:zD}(h:zcp m){i:Nat}(hi:i<m.jc.length):R L Cs zDZ [.a (zf m),W i] []=some (.w (W m.jc[i].len),[]):=by
 have hl:=ztk h hi;have hk:=h.AP;simp only[zf]at hl hk;have his:R L Cs zD9 [.a (zf m),W i] []=some (.w (Bo true),[]):=by
  rw[zUa zEa rfl];simp[zDW,zf,hi,hk]
 simp only[zf]at his;rw[zUa zD7 rfl];simp[zDR,zf,his,hl]
def zeR(k:Int):Int:=if k=1 then 2000 else if k=2 then 1000 else 300
def zif(k:Int):Int:=if k=1 then 30 else if k=2 then 20 else 100
def zd4(k:Int):Int:=if k=1 then 90 else if k=2 then 60 else 300
theorem znI:zaH L Cs 400 zgz [W 1] []=some (.t [W 2000,W 30,W 90],[])/\zaH L Cs 400 zgz [W 2] []=some (.t [W 1000,W 20,W 60],[])/\zaH L Cs 400 zgz [W 3] []=some (.t [W 300,W 100,W 300],[]):=⟨by kernel_rfl,by kernel_rfl,by kernel_rfl⟩
theorem zjg:zaH L Cs 400 zc1 [W 1] []=some (.t [W 2000,W 30,W 90],[])/\zaH L Cs 400 zc1 [W 2] []=some (.t [W 1000,W 20,W 60],[])/\zaH L Cs 400 zc1 [W 3] []=some (.t [W 300,W 100,W 300],[]):=⟨by kernel_rfl,by kernel_rfl,by kernel_rfl⟩
theorem zmo{k:Int}(h:k=1\/k=2\/k=3):R L Cs zgz [W k] []=some (.t [W (zeR k),W (zif k),W (zd4 k)],[]):=by
 rcases h with rfl|rfl|rfl
 ·exact zah.2 ⟨400,znI.1⟩
 ·exact zah.2 ⟨400,znI.2.1⟩
 ·exact zah.2 ⟨400,znI.2.2⟩
theorem zhv{k:Int}(h:k=1\/k=2\/k=3):R L Cs zc1 [W k] []=some (.t [W (zeR k),W (zif k),W (zd4 k)],[]):=by
 rcases h with rfl|rfl|rfl
 ·exact zah.2 ⟨400,zjg.1⟩
 ·exact zah.2 ⟨400,zjg.2.1⟩
 ·exact zah.2 ⟨400,zjg.2.2⟩
theorem zid{M:Mem}{r r':AV}(h:zoS M r=some r')(hb:r'.below 0=true):leave true 0 r M=some (r',[]):=by
 unfold leave;simp only[if_true,h];unfold finish;split
 ·rename_i h0;have:zbg M r.sls=[]:=kc.1 h0;rw[this]
 ·rw[if_pos (by rw[hb];simp[zH])];rfl
theorem zvj(M:Mem)(k:IntKind)(n:Int):zdR M (.int k n)=some (.int k n):=rfl
abbrev zch(e:Ego):List Cl:=[I e.slo,I e.shi,I e.vlo,I e.vhi]
abbrev zFA:List Cl:=[I 0,.jd,I 0,I 0,I 0,I 0]
theorem zCX(b:zk)(i v:Nat)(M:Mem)(h:M[i]?=some (bxv v 6 (ze b))):R L Cs znx [Pt i] M=some (.t [W b.lane,.c (.ptr i 0 0 1),.c (.ptr i 0 0 2)],M):=by
 rw[zUa znG rfl];simp only[ze]at h;simp[zf9,h,ze,p1F]
def zoX(x fr to:Int)(b:zk):List zk :=
 if b.lane≠x\/fr>to\/fr>b.hi\/to<b.lo then [b] else
 (if b.lo<fr then [{ b with hi:=fr-1 }] else [])++(if to<b.hi then [{ b with lo:=to+1 }] else [])
def zhn(x fr to:Int):List zk->List zk
 |[]=>[]
 |b::r=>zoX x fr to b++zhn x fr to r
theorem zrn(x fr to:Int)(b:zk):(zoX x fr to b).length<=2:=by
 unfold zoX;split
 ·simp
 ·split<;>split<;>simp
theorem zod(x fr to:Int):∀(r:List zk),(zhn x fr to r).length<=2*r.length
 |[]=>by simp[zhn]
 |b::r=>by
  have:=zrn x fr to b;have:=zod x fr to r;simp only[zhn,ju,jk];omega
def Mid(n:Int):Prop:=-4000000000000000000<=n/\n<=4000000000000000000
theorem zAu(x fr to:Int)(hfr:Mid fr)(hto:Mid to)(l:List zk)(hl:l.length<=100000000000):∀(r:List zk) (i:Nat) (out:List zk),l.drop i=r->i<=l.length->out.length<=2*i ->
  Y L Cs zdV (some [5,21,20,19,3]) 3 [(5,.w (.c (sl 2 6 (zI out)))),(21,.w (W i)),(20,.w (W l.length)),(19,.w (.c (.jb (zI l)))),(3,.w (Pt 0))] [bx 3 [I x,I fr,I to],gb 6,some (own 6 (zI out))] =
    some (.exit 0,[(22,.w (Bo false)),(5,.w (.c (sl 2 6 (zI (out++zhn x fr to r))))),(21,.w (W l.length)),(20,.w (W l.length)),(19,.w (.c (.jb (zI l)))),(3,.w (Pt 0))],[bx 3 [I x,I fr,I to],gb 6,some (own 6 (zI (out++zhn x fr to r)))]):=by
 intro r;induction r with
 |nil =>
  intro i out hd hi ho;obtain rfl:=zUb hd hi;rw[zj zdV.eq_1];simp[zhn]
 |cons b r ih =>
  intro i out hd hi ho;obtain⟨hil,hb,hd'⟩:=zL hd;have hw:=zB (i:=i) (by omega);have hcl:(out++zoX x fr to b).length<=2*(i+1):=by
   have:=zrn x fr to b;rw[ju];omega
  obtain⟨f1,f2⟩:=hfr;obtain⟨t1,t2⟩:=hto;have hw1:=kg (fr-1);have hw2:=kg (to+1);have jX:(out.length+1)*48<=140737488355328:=by omega
  have BU:(out.length+2)*48<=140737488355328:=by clear hcl hd hb hd' ih;omega
  have he:=zCX b 0 1 [bxv 1 6 (ze b)] rfl;have e1:out++zhn x fr to (b::r)=(out++zoX x fr to b)++zhn x fr to r:=by simp[zhn]
  rw[e1,<-ih (i+1) (out++zoX x fr to b) hd' hil hcl,zj zdV.eq_1];clear ih e1 hcl;clear f1 f2 t1 t2;obtain⟨bl,lo,hi',vlo,vhi,hold⟩:=b;simp only[ze,zoX]at *;by_cases c1:bl=x
  ·subst c1;by_cases c2:to<fr
   ·simp[hil,hb,ze,hw,jX,zg,zH,he,c2]
   ·by_cases c3:hi'<fr
    ·simp[hil,hb,ze,hw,jX,zg,zH,he,c2,c3]
    ·by_cases c4:to<lo
     ·simp[hil,hb,ze,hw,jX,zg,zH,he,c2,c3,c4]
     ·by_cases c5:lo<fr
      ·by_cases c6:to<hi'
       ·have htk:∀y:List Cl,List.take (out.length+1) (zI out++[y])=zI out++[y]:=fun y=>jG (by simp)
        simp[hil,hb,ze,hw,hw1,hw2,jX,BU,zg,zH,he,c2,c3,c4,c5,c6,htk]
       ·simp[hil,hb,ze,hw,hw1,hw2,jX,zg,zH,he,c2,c3,c4,c5,c6]
      ·by_cases c6:to<hi'
       ·simp[hil,hb,ze,hw,hw1,hw2,jX,zg,zH,he,c2,c3,c4,c5,c6]
       ·simp[hil,hb,ze,hw,hw1,hw2,jX,zg,zH,he,c2,c3,c4,c5,c6]
  ·have b1:(bl==x)=false:=by simp[c1]
   have b2:(bl !=x)=true:=by simp[c1]
   simp[hil,hb,ze,hw,jX,zg,zH,he,c1,b1,b2]
theorem zDp(x fr to:Int)(hfr:Mid fr)(hto:Mid to)(l:List zk)(hl:l.length<=100000000000):R L Cs zoa [.c (.jb (zI l)),.a [I x,I fr,I to]] []=some (.w (.c (.jb (zI (zhn x fr to l)))),[]):=by
 have hc:=zAu x fr to hfr hto l hl l 0 [] rfl (jt _) (jt _);simp only[jg,jf,zic,sl,own,jp,zgg]at hc;rw[zUa zov rfl];simp[zgM,hc,zg]
theorem zyg(x fr to:Int)(hfr:Mid fr)(hto:Mid to)(l:List zk)(hl:l.length<=100000000000):∀(r:List zk) (i:Nat) (out:List zk),l.drop i=r->i<=l.length->out.length<=2*i ->
  Y L Cs zc8 (some [5,6,0,3]) 3 [(5,.w (.c (sl 2 6 (zI out)))),(6,.w (W i)),(0,.w (.c (.jb (zI l)))),(3,.w (Pt 0))] [bx 3 [I x,I fr,I to],gb 6,some (own 6 (zI out))] =
    some (.exit 0,[(13,.w (Bo false)),(5,.w (.c (sl 2 6 (zI (out++zhn x fr to r))))),(6,.w (W l.length)),(0,.w (.c (.jb (zI l)))),(3,.w (Pt 0))],[bx 3 [I x,I fr,I to],gb 6,some (own 6 (zI (out++zhn x fr to r)))]):=by
 intro r;induction r with
 |nil =>
  intro i out hd hi ho;obtain rfl:=zUb hd hi;rw[zj zc8.eq_1];simp[zhn]
 |cons b r ih =>
  intro i out hd hi ho;obtain⟨hil,hb,hd'⟩:=zL hd;have hw:=zB (i:=i) (by omega);have hcl:(out++zoX x fr to b).length<=2*(i+1):=by
   have:=zrn x fr to b;rw[ju];omega
  obtain⟨f1,f2⟩:=hfr;obtain⟨t1,t2⟩:=hto;have hw1:=kg (fr-1);have hw2:=kg (to+1);have jX:(out.length+1)*48<=140737488355328:=by omega
  have BU:(out.length+2)*48<=140737488355328:=by clear hcl hd hb hd' ih;omega
  have e1:out++zhn x fr to (b::r)=(out++zoX x fr to b)++zhn x fr to r:=by simp[zhn]
  rw[e1,<-ih (i+1) (out++zoX x fr to b) hd' hil hcl,zj zc8.eq_1];clear ih e1 hcl;clear f1 f2 t1 t2;obtain⟨bl,lo,hi',vlo,vhi,hold⟩:=b;simp only[ze,zoX]at *;by_cases c1:bl=x
  ·subst c1;by_cases c2:to<fr
   ·by_cases c3:hi'<fr
    ·simp[hil,hb,ze,hw,jX,zg,zH,c2,c3]
    ·by_cases c4:to<lo
     ·simp[hil,hb,ze,hw,jX,zg,zH,c2,c3,c4]
     ·simp[hil,hb,ze,hw,jX,zg,zH,c2,c3,c4]
   ·by_cases c3:hi'<fr
    ·simp[hil,hb,ze,hw,jX,zg,zH,c2,c3]
    ·by_cases c4:to<lo
     ·simp[hil,hb,ze,hw,jX,zg,zH,c2,c3,c4]
     ·by_cases c5:lo<fr
      ·have c5':lo<=fr-1:=by omega
       by_cases c6:to<hi'
       ·have htk:∀y:List Cl,List.take (out.length+1) (zI out++[y])=zI out++[y]:=fun y=>jG (by simp)
        have c6':to+1<=hi':=by omega
        simp[hil,hb,ze,hw,hw1,hw2,jX,BU,zg,zH,c2,c3,c4,c5,c6,htk,c5',c6']
       ·have c6':¬(to+1<=hi'):=by omega
        simp[hil,hb,ze,hw,hw1,hw2,jX,zg,zH,c2,c3,c4,c5,c6,c5',c6']
      ·have c5':¬(lo<=fr-1):=by omega
       by_cases c6:to<hi'
       ·have c6':to+1<=hi':=by omega
        simp[hil,hb,ze,hw,hw1,hw2,jX,zg,zH,c2,c3,c4,c5,c6,c5',c6']
       ·have c6':¬(to+1<=hi'):=by omega
        simp[hil,hb,ze,hw,hw1,hw2,jX,zg,zH,c2,c3,c4,c5,c6,c5',c6']
  ·have b1:(bl==x)=false:=by simp[c1]
   have b2:(bl !=x)=true:=by simp[c1]
   simp[hil,hb,ze,hw,jX,zg,zH,c1,b1,b2]
theorem zCR(x fr to:Int)(hfr:Mid fr)(hto:Mid to)(l:List zk)(hl:l.length<=100000000000):R L Cs zma [.c (.jb (zI l)),.a [I x,I fr,I to]] []=some (.w (.c (.jb (zI (zhn x fr to l)))),[]):=by
 have hc:=zyg x fr to hfr hto l hl l 0 [] rfl (jt _) (jt _);simp only[jg,jf,zic,sl,own,jp,zgg]at hc;rw[zUa zmt rfl];simp[zfm,hc,zg]
def zj2(m:zD)(r:List Int):Prop:=∀x∈r,0<=x/\x<m.jc.length
def zW(m:zD):Int->List Int->List Int
 |_,[]=>[]
 |a,x::r=>a::zW m (a+z8 m x) r
def zmd(m:zD):Int->List Int->Int
 |a,[]=>a
 |a,x::r=>zmd m (a+z8 m x) r
theorem zcX{m:zD}(h:zcp m){x:Int}(hx:0<=x/\x<m.jc.length):1000<=z8 m x/\z8 m x<=1000000:=by
 obtain⟨n,rfl⟩:=js hx.1;have hn:n<m.jc.length:=by omega
 have:=h.len1 _ (je hn);simpa [z8,hn]using this
theorem zxO{m:zD}(h:zcp m){x:Int}(hx:0<=x/\x<m.jc.length):R L Cs zkE [.a (zf m),W x] []=some (.w (W (z8 m x)),[]):=by
 obtain⟨n,rfl⟩:=js hx.1;have hn:n<m.jc.length:=by omega
 have e:z8 m n=m.jc[n].len:=by simp[z8,hn]
 rw[e];exact zAV h hn
theorem zxg{m:zD}(h:zcp m){x:Int}(hx:0<=x/\x<m.jc.length):R L Cs zgl [.a (zf m),W x] []=some (.w (W (z8 m x)),[]):=by
 obtain⟨n,rfl⟩:=js hx.1;have hn:n<m.jc.length:=by omega
 have e:z8 m n=m.jc[n].len:=by simp[z8,hn]
 rw[e];exact ztk h hn
abbrev znJ:List Cl:=[I 0,.jd,.jd,.jd,.jd,.jd,.jd,I 0]
abbrev zlf(m:zD)(l:List Int)(S:Cl)(n:Int):List Cl:=[I m.version,.jb (m.jc.map zo),.jb m.qE,.jb m.signals,.jb (m.kE.map zaL),.jb (zu l),S,I n]
theorem zvl{m:zD}(h:zcp m)(l:List Int)(hl:l.length<=1000)(hon:zj2 m l)(j:Nat):∀(r:List Int) (i:Nat) (out:List Int) (v:Nat) (a:Int) (G:Mem),l.drop i=r->i<=l.length->out.length=i->0<=a->a<=i*1000000->G[j]?=some (some (own 1 (zu out))) ->
  ∃v' G',G'[j]?=some (some (own 1 (zu (out++zW m a r))))/\Y L Cs zc3 (some [18,17,4,16,2,5]) 3 [(18,.w (W i)),(17,.w (W l.length)),(4,.w (Pt 1)),(16,.w (.c (.jb (zu l)))),(2,.w (Pt 0)),(5,.w (Pt 2))] (bx 5 (zf m)::bx 8 znJ::bxv v 8 (zlf m l (.slice (j+3) out.length 1 0 out.length none) a)::G) =
   some (.exit 0,[(19,.w (Bo false)),(18,.w (W l.length)),(17,.w (W l.length)),(4,.w (Pt 1)),(16,.w (.c (.jb (zu l)))),(2,.w (Pt 0)),(5,.w (Pt 2))],bx 5 (zf m)::bx 8 znJ::bxv v' 8 (zlf m l (.slice (j+3) (out++zW m a r).length 1 0 (out++zW m a r).length none) (zmd m a r))::G'):=by
 intro r;induction r with
 |nil =>
  intro i out v a G hd hi ho ha1 ha2 hG;obtain rfl:=zUb hd hi;refine⟨v,G,by simpa [zW]using hG,?_⟩;rw[zj zc3.eq_1];simp[zW,zmd]
 |cons x r ih =>
  intro i out v a G hd hi ho ha1 ha2 hG;subst ho;obtain⟨hil,hx,hd'⟩:=zL hd;have hxm:=hon x (by rw[<-hx];exact je _);have hw:=zB (i:=out.length) (by omega);have hjG:j<G.length:=(jW.1 hG).1;have hg:∀N:Mem,(G++N)[j]?=some (some (own 1 (zu out))):=fun N=>by rw[jw hjG,hG]
  have Ba:∀(N:Mem) (x:Option Blk),(G++N).set j x=G.set j x++N:=fun N x=>uC _ _ hjG
  have hL:=zxO h hxm;have hle:=zcX h hxm;have jX:(out.length+1)*8<=140737488355328:=by omega
  have hwa:=kg (a+z8 m x);obtain⟨v',G',h1,h2⟩:=ih (out.length+1) (out++[a]) (v+1+1) (a+z8 m x) (G.set j (some (own 1 (zu (out++[a]))))++[some (own 1 [[I a]])]) hd' hil (by simp) (by omega) (by omega) (by rw[jw (by simpa using hjG),kG hjG]);have e1:out++zW m a (x::r)=(out++[a])++zW m (a+z8 m x) r:=by simp[zW]
  refine⟨v',G',by rw[e1];exact h1,?_⟩;rw[e1,zmd,<-h2,zj zc3.eq_1];simp only[own,zfq,zf]at hg hL;have hdr:∀(E:Env) (p q:Option Blk) (w g len:Nat) (a:Int) (N:Mem),j6 3 E (p::q::bxv w 8 (zlf m l (.slice (j+3) g 1 0 len none) a)::N)=(p::q::bxv w 8 (zlf m l (.slice (j+3) g 1 0 len none) a)::N):=by
   intro E p q w g len a N;unfold j6;split
   ·rfl
   ·rw[if_neg];simp[zH,Blk.below,Eng.below,yN]
  simp only[bxv,zlf]at hdr;simp[hil,hx,hL,zf,hw,hg,Ba,jX,hwa,zg,hdr,-j6]
  try omega
theorem zcO(m:zD):∀(r:List Int) (a:Int),(zW m a r).length=r.length
 |[],_=>rfl
 |x::r,a=>by simp[zW,zcO m r]
theorem zxC(M:Mem)(r:List (List Cl)):zdR M (.jb r)=some (.jb r):=rfl
theorem zyF{M:Mem}{m:zD}{l:List Int}{S x:Cl}{n:Int}(h:zdR M S=some x)(hx:Eng.below 0 x=true):leave true 0 (.w (.a (zlf m l S n))) M=some (.w (.a (zlf m l x n)),[]) :=
 zid (by simp only[zoS,zn7,yv,h,zvj,zxC];rfl) (by show List.all (zlf m l x n) (Eng.below 0)=true;simp only[zlf,ur,List.all_nil,hx];rfl)
theorem zg1{m:zD}(h:zcp m){l:List Int}(hr:zdA m l=0):zj2 m l/\l≠[]/\l.length<=8:=by
 cases l with
 |nil=>simp[zdA]at hr
 |cons x t =>
  simp only[zdA]at hr;split at hr
  ·cases hr
  split at hr
  ·cases hr
  split at hr
  ·cases hr
  split at hr
  ·cases hr
  split at hr
  ·rename_i h1 h2 h3 h4 h5;refine⟨?_,by simp,by simp;omega⟩;have key:∀(t:List Int) (a:Int),0<=a->a<m.jc.length->goF m a t=true->zj2 m t:=by
    intro t;induction t with
    |nil=>intro a _ _ _ y hy;cases hy
    |cons y t ih =>
     intro a ha1 ha2 hg;simp only[goF,jl,decide_eq_true_eq]at hg;have hal:a.toNat<m.jc.length:=by omega
     have uB:((m.jc[a.toNat]?).map zfn.next).getD []=(m.jc[a.toNat]).next:=by rw[jq hal];rfl
     rw[uB]at hg;have hv:=h.small.valid _ (je hal) y hg.1;intro z hz;rcases jy.1 hz with rfl|hz
     ·exact hv
     ·exact ih y hv.1 hv.2 hg.2 z hz
   intro z hz;rcases jy.1 hz with rfl|hz
   ·exact⟨by omega,by omega⟩
   ·exact key t x (by omega) (by omega) h5 z hz
  ·cases hr
theorem zvR{m:zD}(h:zcp m){l:List Int}(hr:zdA m l=0):R L Cs zrf [.a (zf m),.c (.jb (zu l))] []=some (.w (.a (zlf m l (.jb (zu (zW m 0 l))) (zmd m 0 l))),[]):=by
 obtain⟨hon,hne,hlen⟩:=zg1 h hr;have hck:=zos m h.small h.chk l (by omega);rw[hr]at hck;obtain⟨x,r,hl⟩:=yu hne;have hmain:∃M' S v,Y L Cs zc3 (some [18,17,4,16,2,5]) 3 [(18,.w (W 0)),(17,.w (W l.length)),(4,.w (Pt 1)),(16,.w (.c (.jb (zu l)))),(2,.w (Pt 0)),(5,.w (Pt 2))] [bx 5 (zf m),bx 8 znJ,bxv 1 8 (zlf m l .jd 0)] =
   some (.exit 0,[(19,.w (Bo false)),(18,.w (W l.length)),(17,.w (W l.length)),(4,.w (Pt 1)),(16,.w (.c (.jb (zu l)))),(2,.w (Pt 0)),(5,.w (Pt 2))],bx 5 (zf m)::bx 8 znJ::bxv v 8 (zlf m l S (zmd m 0 l))::M') /\
   zdR (bx 5 (zf m)::bxv 1 8 (zlf m l S (zmd m 0 l))::bxv v 8 (zlf m l S (zmd m 0 l))::M') S=some (.jb (zu (zW m 0 l))):=by
  have hll:0<l.length:=by rw[hl];simp
  have h0:l[0]=x:=by simp[hl]
  have hxm:=hon x (by rw[hl];simp);have hL:=zxO h hxm;have hle:=zcX h hxm;have hwa:=kg (z8 m x);obtain⟨v',G',h1,h2⟩:=zvl h l (by omega) hon 1 r 1 [0] 3 (z8 m x) [some (own 1 [[I 0]]),some (own 1 (zu [0]))] (by rw[hl];rfl) (by omega) rfl (by omega) (by omega) rfl;have uW:zW m 0 l=[0]++zW m (z8 m x) r:=by rw[hl];simp[zW]
  have hend:zmd m 0 l=zmd m (z8 m x) r:=by rw[hl];simp[zmd]
  refine⟨G',.slice 4 ([0]++zW m (z8 m x) r).length 1 0 ([0]++zW m (z8 m x) r).length none,v',?_,?_⟩
  ·rw[hend];simp only[kd,jg,jk,jp,own,zf,zlf]at hL h2 ⊢;rw[<-h2,zj zc3.eq_1];have hw:IntKind.i64.wrap 1=1:=rfl;have hr:(0:Int)<(l.length:Int):=by omega
   simp[hll,h0,hL,hw,hwa,zg,hr]
  ·rw[uW];simp[zdR,look,h1]
 obtain⟨M',S,v,h1,h2⟩:=hmain;simp only[zf,zlf]at hck h1 h2;rw[zUa zrV rfl];simp[zir,zf,hck,h1,-leave];exact zyF h2 rfl
theorem zAY{m:zD}(h:zcp m){l:List Int}(hr:zdA m l=0):R L Cs zrh [.a (zf m),.c (.jb (zu l))] []=some (.w (.c (.jb (zu (zW m 0 l)))),[]):=by
 have hf:=zvR h hr;simp only[zf,zlf]at hf;rw[zUa zrX rfl];simp[zit,zf,hf]
theorem zsq{m:zD}(h:zcp m){l:List Int}(hr:zdA m l=0):R L Cs zmQ [.a (zf m),.c (.jb (zu l))] []=some (.w (W (zmd m 0 l)),[]):=by
 have hf:=zvR h hr;simp only[zf,zlf]at hf;rw[zUa zm0 rfl];simp[zfF,zf,hf]
theorem zvF{m:zD}(h:zcp m)(l:List Int)(hl:l.length<=1000)(hon:zj2 m l):∀(r:List Int) (i:Nat) (out:List Int) (a:Int),l.drop i=r->i<=l.length->out.length=i->0<=a->a<=i*1000000 ->
  Y L Cs zcn (some [6,7,8,1,2]) 3 [(6,.w (.c (sl 2 1 (zu out)))),(7,.w (W a)),(8,.w (W i)),(1,.w (.c (.jb (zu l)))),(2,.w (Pt 0))] [bx 5 (zf m),gb 1,some (own 1 (zu out))] =
    some (.exit 0,[(12,.w (Bo false)),(6,.w (.c (sl 2 1 (zu (out++zW m a r))))),(7,.w (W (zmd m a r))),(8,.w (W l.length)),(1,.w (.c (.jb (zu l)))),(2,.w (Pt 0))],[bx 5 (zf m),gb 1,some (own 1 (zu (out++zW m a r)))]):=by
 intro r;induction r with
 |nil =>
  intro i out a hd hi ho ha1 ha2;obtain rfl:=zUb hd hi;rw[zj zcn.eq_1];simp[zW,zmd]
 |cons x r ih =>
  intro i out a hd hi ho ha1 ha2;subst ho;obtain⟨hil,hx,hd'⟩:=zL hd;have hxm:=hon x (by rw[<-hx];exact je _);have hw:=zB (i:=out.length) (by omega);have hL:=zxg h hxm;have hle:=zcX h hxm;have jX:(out.length+1)*8<=140737488355328:=by omega
  have hwa:=kg (a+z8 m x);have e1:out++zW m a (x::r)=(out++[a])++zW m (a+z8 m x) r:=by simp[zW]
  rw[e1,zmd,<-ih (out.length+1) (out++[a]) (a+z8 m x) hd' hil (by simp) (by omega) (by omega),zj zcn.eq_1];simp only[zf]at hL;simp[hil,hx,hL,zf,hw,jX,hwa,zg,zH]
theorem zvX{m:zD}(h:zcp m){l:List Int}(hl:l.length<=1000)(hon:zj2 m l):R L Cs zjQ [.a (zf m),.c (.jb (zu l))] []=some (.t [.c (.jb (zu (zW m 0 l))),W (zmd m 0 l)],[]):=by
 have hb:=zvF h l hl hon l 0 [] 0 rfl (jt _) rfl (by omega) (by omega);simp only[zf,jg,jf,zay,sl,own,jp,zfq]at hb;rw[zUa zkc rfl];simp[zep,zf,hb,zg]
theorem zEp{m:zD}(h:zcp m){l:List Int}(hr:zdA m l=0):R L Cs zDU [.a (zf m),.c (.jb (zu l))] []=some (.w (W (zmd m 0 l)),[]):=by
 obtain⟨hon,hne,hlen⟩:=zg1 h hr;have hb:=zvX h (by omega) hon;have hck:=zp0 m h.small h.AP l (by omega);rw[hr]at hck;simp only[zf]at hb hck;rw[zUa zDV rfl];simp[zDG,zf,hb,hck]
def zbK(m:zD):Nat->List zfn->List Int
 |_,[]=>[]
 |i,_::r=>if zes i 0 m.jc=[] then(i:Int)::zbK m (i+1) r else zbK m (i+1) r
theorem zp8(m:zD):∀(r:List zfn) (i:Nat),i+r.length<=m.jc.length->zj2 m (zbK m i r)
 |[],_,_=>by intro x hx;cases hx
 |l::r,i,h=>by
  intro x hx;simp at h;unfold zbK at hx;split at hx
  ·rcases jy.1 hx with rfl|hx
   ·omega
   ·exact zp8 m r (i+1) (by omega) x hx
  ·exact zp8 m r (i+1) (by omega) x hx
theorem zlK(m:zD):∀(r:List zfn) (i:Nat),(zbK m i r).length<=r.length
 |[],_=>by simp[zbK]
 |l::r,i=>by
  have:=zlK m r (i+1);unfold zbK;split<;>simp<;>omega
theorem ztu{m:zD}(h:zcp m):∀(r:List zfn) (i:Nat) (out:List Int),m.jc.drop i=r->i<=m.jc.length->out.length<=i ->
  Y L Cs zdE (some [3,11,10,1]) 3 [(3,.w (.c (sl 2 1 (zu out)))),(11,.w (W i)),(10,.w (W m.jc.length)),(1,.w (Pt 0))] [bx 5 (zf m),gb 1,some (own 1 (zu out))] =
    some (.exit 0,[(12,.w (Bo false)),(3,.w (.c (sl 2 1 (zu (out++zbK m i r))))),(11,.w (W m.jc.length)),(10,.w (W m.jc.length)),(1,.w (Pt 0))],[bx 5 (zf m),gb 1,some (own 1 (zu (out++zbK m i r)))]):=by
 intro r;induction r with
 |nil =>
  intro i out hd hi ho;obtain rfl:=zUb hd hi;rw[zj zdE.eq_1];simp[zbK]
 |cons l r ih =>
  intro i out hd hi ho;obtain⟨hil,hl,hd'⟩:=zL hd;have hn:=h.small.jc;have hw:=zB (i:=i) (by omega);have hb:=zvT m i (by omega) (fun l hl=>by have:=h.small.next l hl;omega);simp only[zf]at hb;have jX:(out.length+1)*8<=140737488355328:=by omega
  rw[zbK];by_cases he:zes i 0 m.jc=[]
  ·rw[if_pos he,show out++(i:Int)::zbK m (i+1) r=(out++[(i:Int)])++zbK m (i+1) r by simp,<-ih (i+1) (out++[(i:Int)]) hd' hil (by simp;omega),zj zdE.eq_1];rw[he]at hb;simp at hb;simp[hil,zf,hb,hw,jX,zg,zH]
  ·rw[if_neg he,<-ih (i+1) out hd' hil (by omega),zj zdE.eq_1];have hz:(((zes i 0 m.jc).length:Int)==0)=false:=by
    have:0<(zes i 0 m.jc).length:=kC.2 he;exact beq_false_of_ne (by omega)
   simp[hil,zf,hb,hw,he,hz,zg,zH]
theorem zzb{m:zD}(h:zcp m):R L Cs zpR [.a (zf m)] []=some (.w (.c (.jb (zu (zbK m 0 m.jc)))),[]):=by
 have hl:=ztu h m.jc 0 [] rfl (jt _) (jt _);have hck:=h.chk;simp only[zf,jg,jf,zay,sl,own,jp,zfq]at hl hck;rw[zUa zp3 rfl];simp[zhE,zf,hl,hck,zg]
def zgU(l:List Bool):List (List Cl):=l.map fun b=>[.bool b]
@[simp] theorem zDa(l:List Bool):(zgU l).length=l.length:=by simp[zgU]
theorem zx6(l:List Bool)(i:Nat)(b:Bool):(zgU l).set i [.bool b]=zgU (l.set i b):=by simp[zgU,List.map_set]
@[simp] theorem zBb{l:List Bool}{i:Nat}(h:i<(zgU l).length):(zgU l)[i]=[.bool (l[i]'(by simpa using h))]:=by simp[zgU]
@[simp] theorem zCo(l:List Bool):(zgU l).take l.length=zgU l:=jG (by simp)
theorem zx7(n:Nat):List.replicate n [Cl.bool false]=zgU (List.replicate n false):=by simp[zgU]
def zkj(l:List Bool)(s:List Int):List Bool:=s.foldl (fun l x=>l.set x.toNat true) l
theorem znN:∀(s:List Int) (l:List Bool),(zkj l s).length=l.length
 |[],l=>rfl
 |x::s,l=>by show(zkj (l.set x.toNat true) s).length=_;rw[znN s];simp
abbrev zi(m:zD)(l:List Int)(n:Int)(S T:Cl):List Cl:=[I m.version,.jb (m.jc.map zo),.jb m.qE,.jb m.signals,.jb (m.kE.map zaL),.jb (zu l),.jb (zu (zW m 0 l)),I (zmd m 0 l),I n,S,T]
def zh(m:zD)(l:List Int)(n:Int):List Cl:=zi m l n (.jb (zu (m.jc.map zfn.len))) (.jb (zgU (zkj (List.replicate m.jc.length false) (zbK m 0 m.jc))))
abbrev zqj:List Cl:=[I 0,.jd,.jd,.jd,.jd,.jd,.jd,I 0,I 0,.jd,.jd]
abbrev znf(v:Nat)(l:List Bool):Option Blk:=some { box:=false,esz:=1,rows:=zgU l,gen:=l.length,fz:=false,ver:=v }
theorem zvL{m:zD}(h:zcp m)(l:List Int)(nn:Int)(q:Option Blk)(j:Nat):∀(r:List zfn) (i:Nat) (out:List Int) (v:Nat) (G:Mem),m.jc.drop i=r->i<=m.jc.length->out.length=i->G[j]?=some (some (own 1 (zu out))) ->
  ∃v' G',G'[j]?=some (some (own 1 (zu (out++r.map zfn.len))))/\Y L Cs zc6 (some [28,27,6,3,7]) 4 [(28,.w (W i)),(27,.w (W m.jc.length)),(6,.w (Pt 1)),(3,.w (Pt 0)),(7,.w (Pt 3))] (bx 5 (zf m)::bx 11 zqj::q::bxv v 11 (zi m l nn (.slice (j+4) out.length 1 0 out.length none) (.slice 2 m.jc.length 1 0 m.jc.length none))::G) =
   some (.exit 0,[(29,.w (Bo false)),(28,.w (W m.jc.length)),(27,.w (W m.jc.length)),(6,.w (Pt 1)),(3,.w (Pt 0)),(7,.w (Pt 3))],bx 5 (zf m)::bx 11 zqj::q::bxv v' 11 (zi m l nn (.slice (j+4) (out++r.map zfn.len).length 1 0 (out++r.map zfn.len).length none) (.slice 2 m.jc.length 1 0 m.jc.length none))::G'):=by
 intro r;induction r with
 |nil =>
  intro i out v G hd hi ho hG;obtain rfl:=zUb hd hi;refine⟨v,G,by simpa using hG,?_⟩;rw[zj zc6.eq_1];simp
 |cons x r ih =>
  intro i out v G hd hi ho hG;subst ho;obtain⟨hil,hx,hd'⟩:=zL hd;have hn:=h.small.jc;have hw:=zB (i:=out.length) (by omega);have hjG:j<G.length:=(jW.1 hG).1;have hg:∀N:Mem,(G++N)[j]?=some (some (own 1 (zu out))):=fun N=>by rw[jw hjG,hG]
  have Ba:∀(N:Mem) (x:Option Blk),(G++N).set j x=G.set j x++N:=fun N x=>uC _ _ hjG
  have hL:=zrQ h hil;rw[hx]at hL;have jX:(out.length+1)*8<=140737488355328:=by omega
  obtain⟨v',G',h1,h2⟩:=ih (out.length+1) (out++[x.len]) (v+1) (G.set j (some (own 1 (zu (out++[x.len]))))++[some (own 1 [[I x.len]])]) hd' hil (by simp) (by rw[jw (by simpa using hjG),kG hjG]);have e1:out++(x::r).map zfn.len=(out++[x.len])++r.map zfn.len:=by simp
  refine⟨v',G',by rw[e1];exact h1,?_⟩;rw[e1,<-h2,zj zc6.eq_1];simp only[own,zfq,zf]at hg hL;have hdr:∀(E:Env) (p q s:Option Blk) (w g len:Nat) (N:Mem),j6 4 E (p::q::s::bxv w 11 (zi m l nn (.slice (j+4) g 1 0 len none) (.slice 2 m.jc.length 1 0 m.jc.length none))::N)=(p::q::s::bxv w 11 (zi m l nn (.slice (j+4) g 1 0 len none) (.slice 2 m.jc.length 1 0 m.jc.length none))::N):=by
   intro E p q s w g len N;unfold j6;split
   ·rfl
   ·rw[if_neg];simp[zH,Blk.below,Eng.below,yN]
  simp only[bxv,zi]at hdr;simp[hil,hL,zf,hw,hg,Ba,jX,zg,hdr,-j6]
theorem zvK{m:zD}(l:List Int)(nn:Int)(n0:Nat)(a b:Option Blk)(S:Cl)(w:Nat)(G:Mem)(hn0:n0=G.length+4)(s:List Int)(hs:s.length<=1000)(hon:zj2 m s):∀(r:List Int) (i:Nat) (src:List Bool) (v:Nat),s.drop i=r->i<=s.length->src.length=m.jc.length ->
  ∃v',v<=v'/\Y L Cs ze5 (some [43,42,6,41,7]) n0 [(43,.w (W i)),(42,.w (W s.length)),(6,.w (Pt 1)),(41,.w (.c (.jb (zu s)))),(7,.w (Pt 3))] (a::b::znf v src::bxv w 11 (zi m l nn S (.slice 2 m.jc.length 1 0 m.jc.length none))::G) =
   some (.exit 2,[(44,.w (Bo false)),(43,.w (W s.length)),(42,.w (W s.length)),(6,.w (Pt 1)),(41,.w (.c (.jb (zu s)))),(7,.w (Pt 3))],a::b::znf v' (zkj src r)::bxv w 11 (zi m l nn S (.slice 2 m.jc.length 1 0 m.jc.length none))::G):=by
 intro r;induction r with
 |nil =>
  intro i src v hd hi hl;obtain rfl:=zUb hd hi;refine⟨v,jo _,?_⟩;rw[zj ze5.eq_1];simp[zkj]
 |cons x r ih =>
  intro i src v hd hi hl;obtain⟨hil,hx,hd'⟩:=zL hd;have hxm:=hon x (by rw[<-hx];exact je _);have hw:=zB (i:=i) (by omega);obtain⟨n,rfl⟩:=js hxm.1;have hn:n<m.jc.length:=by omega
  have hn2:n<src.length:=by omega
  obtain⟨v',h1,h2⟩:=ih (i+1) (src.set n true) (v+1) hd' hil (by simp[hl]);refine⟨v',by omega,?_⟩;have e:zkj src (((n:Nat):Int)::r)=zkj (src.set n true) r:=rfl;rw[e,<-h2,zj ze5.eq_1];have hdl:∀(E:Env) (p q s t:Option Blk),j6 n0 E (p::q::s::t::G)=p::q::s::t::G:=by
   intro E p q s t;unfold j6;rw[if_pos (by simp[hn0])]
  have hs':=zx6 src n true;simp[hil,hx,hw,hn,hn2,hl,hdl,hs',znf,-j6]
theorem zra{M:Mem}{id g es len:Nat}{rows:List (List Cl)}{v:Nat}(h:M[id]?=some (some { box:=false,esz:=es,rows:=rows,gen:=g,fz:=false,ver:=v }))(hl:rows.length=len):zdR M (.slice id g es 0 len none)=some (.jb rows):=by
 subst hl;simp[zdR,look,h]
theorem zB9{m:zD}(h:zcp m){l:List Int}(hr:zdA m l=0)(nn:Int):R L Cs zrj [.a (zf m),.c (.jb (zu l)),W nn] []=some (.w (.a (zh m l nn)),[]):=by
 have hS:=zAY h hr;have hT:=zsq h hr;have hO:=zzb h;have hn:=h.small.jc;have hsl:=zlK m m.jc 0;have hson:=zp8 m m.jc 0 (by omega);have hne:m.jc≠[]:=by
  intro e;have:=(zg1 h hr).1;cases l with
  |nil=>exact(zg1 h hr).2.1 rfl
  |cons x t=>have:=this x (by simp);rw[e]at this;simp at this;omega
 obtain⟨x,r,hl⟩:=yu hne;have hlen1:([x.len]++r.map zfn.len).length=m.jc.length:=by rw[hl];simp
 have hmap:[x.len]++r.map zfn.len=m.jc.map zfn.len:=by rw[hl];simp
 obtain⟨v1,G,hG,h1⟩:=zvL h l nn (znf m.jc.length (List.replicate m.jc.length false)) 1 r 1 [x.len] 2 [some (own 1 [[I x.len]]),some (own 1 (zu [x.len]))] (by rw[hl];rfl) (by rw[hl];simp) rfl rfl;rw[hlen1]at h1;have CL:Y L Cs zc6 (some [28,27,6,3,7]) 4 [(28,.w (W 0)),(27,.w (W m.jc.length)),(6,.w (Pt 1)),(3,.w (Pt 0)),(7,.w (Pt 3))] [bx 5 (zf m),bx 11 zqj,znf m.jc.length (List.replicate m.jc.length false),bxv 1 11 (zi m l nn .jd (.slice 2 m.jc.length 1 0 m.jc.length none))] =
   some (.exit 0,[(29,.w (Bo false)),(28,.w (W m.jc.length)),(27,.w (W m.jc.length)),(6,.w (Pt 1)),(3,.w (Pt 0)),(7,.w (Pt 3))],bx 5 (zf m)::bx 11 zqj::znf m.jc.length (List.replicate m.jc.length false)::bxv v1 11 (zi m l nn (.slice (1+4) m.jc.length 1 0 m.jc.length none) (.slice 2 m.jc.length 1 0 m.jc.length none))::G):=by
  have hll:0<m.jc.length:=by rw[hl];simp
  have h0:m.jc[0]=x:=by simp[hl]
  have hL:=zrQ h hll;rw[h0]at hL;simp only[kd,jg,jk,jp,own,zf]at hL h1 ⊢;rw[<-h1,zj zc6.eq_1];have hw:IntKind.i64.wrap 1=1:=rfl;have hr':(0:Int)<(m.jc.length:Int):=by omega
  simp[hll,hL,hw,zg,hr']
 obtain⟨v2,hv2,h2⟩:=zvK l nn (G.length+4) (bx 5 (zf m)) (bx 11 zqj) (.slice (1+4) m.jc.length 1 0 m.jc.length none) v1 G rfl (zbK m 0 m.jc) (by omega) hson (zbK m 0 m.jc) 0 (List.replicate m.jc.length false) m.jc.length rfl (jt _) (by simp);have hfz:∀(a b c d:Option Blk),zoS (a::b::c::d::G) (.w (.a (zi m l nn (.slice (1+4) m.jc.length 1 0 m.jc.length none) (.slice 2 m.jc.length 1 0 m.jc.length none))))=(match zdR (a::b::c::d::G) (.slice 2 m.jc.length 1 0 m.jc.length none)with |some T=>some (.w (.a (zi m l nn (.jb (zu (m.jc.map zfn.len))) T))) |none=>none):=by
  intro a b c d;have e1:zdR (a::b::c::d::G) (.slice (1+4) m.jc.length 1 0 m.jc.length none)=some (.jb (zu (m.jc.map zfn.len))):=by
   refine zra (v:=m.jc.length) ?_ (by simp);show G[1]?=_;rw[hG,hmap];simp
  simp only[zoS,zn7,yv,e1,zvj,zxC];cases zdR (a::b::c::d::G) (.slice 2 m.jc.length 1 0 m.jc.length none)<;>rfl
 have hrep:List.replicate m.jc.length [Cl.bool false]=zgU (List.replicate m.jc.length false):=zx7 _;simp only[zf,zi,jg,znf,uv]at hS hT hO CL h2 hfz;have jX:m.jc.length<=140737488355328:=by omega
 rw[zUa zrZ rfl];have hd0:∀(E:Env) (p q s t:Option Blk),j6 (G.length+4) E (p::q::s::t::G)=p::q::s::t::G:=by
  intro E p q s t;unfold j6;rw[if_pos (by simp)]
 have hd4:∀(E:Env) (p q s t:Option Blk),j6 4 E [p,q,s,t]=[p,q,s,t]:=by
  intro E p q s t;simp[j6]
 simp[ziv,zf,hS,hT,hO,CL,h2,hrep,zg,jX,hd0,hd4,-leave,-j6];have hbl:(zkj (List.replicate m.jc.length false) (zbK m 0 m.jc)).length=m.jc.length:=by rw[znN];simp
 refine zid ?_ (r':=.w (.a (zh m l nn))) rfl;refine(hfz _ _ _ _).trans ?_;rw[hbl];have e2:∀(a b d:Option Blk),zdR (a::b::some { box:=false,esz:=1,rows:=zgU (zkj (List.replicate m.jc.length false) (zbK m 0 m.jc)),gen:=m.jc.length,fz:=false,ver:=v2 }::d::G) (.slice 2 m.jc.length 1 0 m.jc.length none)=some (.jb (zgU (zkj (List.replicate m.jc.length false) (zbK m 0 m.jc)))):=fun a b d=>zra (v:=v2) rfl (by simp[hbl])
 rw[e2];rfl
def zaK(m:zD)(i:Int):Int:=((m.jc[i.toNat]?).map zfn.kind).getD 0
abbrev zqY:zk:=⟨-1,0,0,0,0,0⟩
def vw(m:zD)(b:zk):Prop:=b.lo<0\/b.hi<b.lo\/z8 m b.lane<b.hi\/b.vlo<0\/b.vhi<b.vlo\/zeR (zaK m b.lane)<b.vhi\/b.hold<0\/z8 m b.lane<b.hold
instance(m:zD)(b:zk):Decidable (vw m b):=by unfold vw;infer_instance
def zmM(p b:zk):Prop:=b.lane<p.lane\/(b.lane=p.lane/\b.lo<=p.hi+1)
instance(p b:zk):Decidable (zmM p b):=by unfold zmM;infer_instance
def zer(m:zD)(p b:zk):Int:=if b.lane<0\/(m.jc.length:Int)<=b.lane then 7 else if vw m b then 2 else if zmM p b then 11 else 0
def zls(m:zD):zk->List zk->Int
 |_,[]=>0
 |p,b::r=>if zer m p b≠0 then zer m p b else zls m b r
theorem ziC(n lo hi:Int):R L Cs zrd [W n,W lo,W hi] []=some (.w (Bo (decide (lo<=n)&&decide (n<=hi))),[]):=by
 rw[zUa zrT rfl];by_cases h:lo<=n
 ·simp[zgJ,h]
 ·simp[zgJ,h]
section
variable{m:zD}(h:zcp m)(k:zci)
abbrev ckM(m:zD)(k:zci)(v:Nat)(p:zk):Mem:=[bx 5 (zf m),bx 6 (zG k),bxv 1 4 (zch k.ego),bxv v 6 (ze p)]
abbrev ckE(k:zci)(i:Nat):Env:=[(62,.w (W k.j8.length)),(61,.w (.c (.jb (zI k.j8)))),(7,.w (Pt 3)),(2,.w (Pt 0)),(63,.w (W i))]
include h in
theorem zw8(hk:k.j8.length<=100000000000)(i:Nat)(hi:i<k.j8.length)(p:zk)(v:Nat)(hp:-1<=p.lane/\0<=p.hi/\p.hi<=1000000) :
  (zer m p k.j8[i]=0->Y L Cs zTe (some [62,61,7,2,63]) 4 (ckE k i) (ckM m k v p)=Y L Cs zTe (some [62,61,7,2,63]) 4 (ckE k (i+1)) (ckM m k (v+1) k.j8[i])) /\
  (zer m p k.j8[i]≠0->Y L Cs zTe (some [62,61,7,2,63]) 4 (ckE k i) (ckM m k v p)=some (.ret,[(4,.w (W (zer m p k.j8[i])))],ckM m k v p++[bxv 1 6 (ze k.j8[i])])):=by
 have hw:=zB (i:=i) (by omega);generalize hb:k.j8[i]=b;obtain⟨bl,lo,hi',vlo,vhi,hold⟩:=b;have hpw:=kg (p.hi+1);by_cases c1:bl<0
 ·have e:zer m p ⟨bl,lo,hi',vlo,vhi,hold⟩=7:=by simp[zer,c1]
  rw[e];refine⟨fun h=>(by cases h),fun _=>?_⟩;rw[zj zTe.eq_1];simp[hi,hb,ze,c1]
 by_cases c2:(m.jc.length:Int)<=bl
 ·have e:zer m p ⟨bl,lo,hi',vlo,vhi,hold⟩=7:=by simp[zer,c2]
  rw[e];refine⟨fun h=>(by cases h),fun _=>?_⟩;rw[zj zTe.eq_1];simp[hi,hb,ze,c1,c2,zf]
 obtain⟨n,rfl⟩:=js (show 0<=bl by omega);have hn:n<m.jc.length:=by omega
 have hL:=zrQ h hn;have hB:=zmo (h.kind _ (je hn));have eL:z8 m (n:Int)=m.jc[n].len:=by simp[z8,hn]
 have eK:zaK m (n:Int)=m.jc[n].kind:=by simp[zaK,hn]
 have hl1:=h.len1 _ (je hn);have hW:=ziC hold 0 m.jc[n].len;generalize ua:m.jc[n]=ln at *;simp only[zf]at hL;have c1':¬((n:Int)<0):=by omega
 have y8:vw m ⟨(n:Int),lo,hi',vlo,vhi,hold⟩->zer m p ⟨(n:Int),lo,hi',vlo,vhi,hold⟩=2:=fun ho=>by
  unfold zer;rw[if_neg (by simp;omega),if_pos ho]
 by_cases d1:lo<0
 ·have e:=y8 (by simp only[vw,eL,eK];omega);rw[e];refine⟨fun h=>(by cases h),fun _=>?_⟩;rw[zj zTe.eq_1];simp[hi,hb,ze,c1',c2,hn,ua,zf,zo,zG,hL,hB,hW,d1]
 by_cases d2:hi'<lo
 ·have e:=y8 (by simp only[vw,eL,eK];omega);rw[e];refine⟨fun h=>(by cases h),fun _=>?_⟩;rw[zj zTe.eq_1];simp[hi,hb,ze,c1',c2,hn,ua,zf,zo,zG,hL,hB,hW,d1,d2]
 by_cases d3:ln.len<hi'
 ·have e:=y8 (by simp only[vw,eL,eK];omega);rw[e];refine⟨fun h=>(by cases h),fun _=>?_⟩;rw[zj zTe.eq_1];simp[hi,hb,ze,c1',c2,hn,ua,zf,zo,zG,hL,hB,hW,d1,d2,d3]
 by_cases d4:vlo<0
 ·have e:=y8 (by simp only[vw,eL,eK];omega);rw[e];refine⟨fun h=>(by cases h),fun _=>?_⟩;rw[zj zTe.eq_1];simp[hi,hb,ze,c1',c2,hn,ua,zf,zo,zG,hL,hB,hW,d1,d2,d3,d4]
 by_cases d5:vhi<vlo
 ·have e:=y8 (by simp only[vw,eL,eK];omega);rw[e];refine⟨fun h=>(by cases h),fun _=>?_⟩;rw[zj zTe.eq_1];simp[hi,hb,ze,c1',c2,hn,ua,zf,zo,zG,hL,hB,hW,d1,d2,d3,d4,d5]
 by_cases d6:zeR ln.kind<vhi
 ·have e:=y8 (by simp only[vw,eL,eK];omega);rw[e];refine⟨fun h=>(by cases h),fun _=>?_⟩;rw[zj zTe.eq_1];simp[hi,hb,ze,c1',c2,hn,ua,zf,zo,zG,hL,hB,hW,d1,d2,d3,d4,d5,d6]
 by_cases d7:hold<0
 ·have e:=y8 (by simp only[vw,eL,eK];omega);rw[e];refine⟨fun h=>(by cases h),fun _=>?_⟩;rw[zj zTe.eq_1];simp[hi,hb,ze,c1',c2,hn,ua,zf,zo,zG,hL,hB,hW,d1,d2,d3,d4,d5,d6,d7]
 by_cases d8:ln.len<hold
 ·have e:=y8 (by simp only[vw,eL,eK];omega);rw[e];refine⟨fun h=>(by cases h),fun _=>?_⟩;rw[zj zTe.eq_1];simp[hi,hb,ze,c1',c2,hn,ua,zf,zo,zG,hL,hB,hW,d1,d2,d3,d4,d5,d6,d7,d8]
 have e0:¬vw m ⟨(n:Int),lo,hi',vlo,vhi,hold⟩:=by simp only[vw,eL,eK];omega
 have g1:(0:Int)<=hold:=by omega
 have g2:hold<=ln.len:=by omega
 by_cases o1:(n:Int)<p.lane
 ·have e:zer m p ⟨(n:Int),lo,hi',vlo,vhi,hold⟩=11:=by
   unfold zer;rw[if_neg (by simp;omega),if_neg e0,if_pos (by unfold zmM;simp;omega)]
  rw[e];refine⟨fun h=>(by cases h),fun _=>?_⟩;rw[zj zTe.eq_1];simp[hi,hb,ze,c1',c2,hn,ua,zf,zo,zG,hL,hB,hW,d1,d2,d3,d4,d5,d6,d7,d8,g1,g2,o1]
 by_cases o2:(n:Int)=p.lane
 ·have o2':p.lane=(n:Int):=o2.symm;by_cases o3:lo<=p.hi+1
  ·have e:zer m p ⟨(n:Int),lo,hi',vlo,vhi,hold⟩=11:=by
    unfold zer;rw[if_neg (by simp;omega),if_neg e0,if_pos (by unfold zmM;simp;omega)]
   rw[e];refine⟨fun h=>(by cases h),fun _=>?_⟩;rw[zj zTe.eq_1];simp[hi,hb,ze,c1',c2,hn,ua,zf,zo,zG,hL,hB,hW,d1,d2,d3,d4,d5,d6,d7,d8,g1,g2,o2',o3,hpw]
  ·have e:zer m p ⟨(n:Int),lo,hi',vlo,vhi,hold⟩=0:=by
    unfold zer;rw[if_neg (by simp;omega),if_neg e0,if_neg (by unfold zmM;simp;omega)]
   rw[e];refine⟨fun _=>?_,fun h=>(absurd rfl h)⟩;rw[zj zTe.eq_1];simp[hi,hb,ze,c1',c2,hn,ua,zf,zo,zG,hL,hB,hW,d1,d2,d3,d4,d5,d6,d7,d8,g1,g2,o2',o3,hpw,hw,ckE,ckM]
 ·have e:zer m p ⟨(n:Int),lo,hi',vlo,vhi,hold⟩=0:=by
   unfold zer;rw[if_neg (by simp;omega),if_neg e0,if_neg (by unfold zmM;simp;omega)]
  rw[e];have b2:((n:Int)==p.lane)=false:=by simp[o2]
  refine⟨fun _=>?_,fun h=>(absurd rfl h)⟩;rw[zj zTe.eq_1];simp[hi,hb,ze,c1',c2,hn,ua,zf,zo,zG,hL,hB,hW,d1,d2,d3,d4,d5,d6,d7,d8,g1,g2,o1,o2,b2,hw,ckE,ckM]
end
abbrev zsa:Int:=1099511627776
def ziI(k:zci):Prop:=k.tick<0\/zsa<k.tick\/k.ego.slo<0\/k.ego.shi<k.ego.slo\/zsa<k.ego.shi\/k.ego.vlo<0\/k.ego.vhi<k.ego.vlo\/2000<k.ego.vhi
instance(k:zci):Decidable (ziI k):=by unfold ziI;infer_instance
def zdf(m:zD)(k:zci):Int:=if ziI k then 2 else zls m zqY k.j8
theorem zui{m:zD}(h:zcp m){p b:zk}(hc:zer m p b=0):0<=b.lane/\b.lane<m.jc.length/\0<=b.lo/\b.lo<=b.hi/\b.hi<=z8 m b.lane/\0<=b.vlo/\b.vlo<=b.vhi/\b.vhi<=zeR (zaK m b.lane)/\0<=b.hold/\b.hold<=z8 m b.lane/\z8 m b.lane<=1000000/\¬zmM p b:=by
 unfold zer at hc;split at hc
 ·cases hc
 rename_i h1;split at hc
 ·cases hc
 rename_i h2;split at hc
 ·cases hc
 rename_i h3;unfold vw at h2;obtain⟨n,hn⟩:=js (show 0<=b.lane by omega);have hl:n<m.jc.length:=by omega
 have hl1:=h.len1 _ (je hl);have e:z8 m b.lane=m.jc[n].len:=by rw[hn];simp[z8,hl]
 refine⟨by omega,by omega,by omega,by omega,by omega,by omega,by omega,by omega,by omega,by omega,by omega,h3⟩
theorem zw9{m:zD}(h:zcp m)(k:zci)(hk:k.j8.length<=100000000000):∀(r:List zk) (i:Nat) (p:zk) (v:Nat),k.j8.drop i=r->i<=k.j8.length->(-1<=p.lane/\0<=p.hi/\p.hi<=1000000) ->
  ∃M' E',Y L Cs zTe (some [62,61,7,2,63]) 4 (ckE k i) (ckM m k v p)=some (if zls m p r=0 then(.exit 0,E',M') else(.ret,[(4,.w (W (zls m p r)))],M')):=by
 intro r;induction r with
 |nil =>
  intro i p v hd hi hp;obtain rfl:=zUb hd hi;refine⟨ckM m k v p,[(64,.w (Bo false)),(2,.w (Pt 0)),(7,.w (Pt 3)),(61,.w (.c (.jb (zI k.j8)))),(62,.w (W k.j8.length)),(63,.w (W k.j8.length))],?_⟩;rw[zj zTe.eq_1];simp[zls]
 |cons b r ih =>
  intro i p v hd hi hp;obtain⟨hil,hb,hd'⟩:=zL hd;obtain⟨s1,s2⟩:=zw8 h k hk i hil p v hp;rw[hb]at s1 s2;by_cases hc:zer m p b=0
  ·have ho:=zui h hc;obtain⟨M',E',h4⟩:=ih (i+1) b (v+1) hd' hil (by omega);refine⟨M',E',?_⟩;rw[s1 hc,h4];simp[zls,hc]
  ·refine⟨ckM m k v p++[bxv 1 6 (ze b)],[],?_⟩;rw[s2 hc];simp[zls,hc]
theorem zuu{m:zD}(h:zcp m)(k:zci)(hk:k.j8.length<=100000000000):R L Cs zsg [.a (zf m),.a (zG k)] []=some (.w (W (zdf m k)),[]):=by
 have hck:=h.chk;obtain⟨M',E',hl⟩:=zw9 h k hk k.j8 0 zqY 1 rfl (jt _) (by decide);have hW:=ziC k.tick 0 zsa;simp only[ckE,ckM,zf,zG,ze,jg,bx,bxv,zch]at hl hck;rw[zUa zss rfl];by_cases d1:k.tick<0
 ·have e:zdf m k=2:=by rw[zdf,if_pos (by unfold ziI;omega)]
  have d1':¬(0:Int)<=k.tick:=by omega
  simp[zbJ,zf,zG,hck,hW,e,d1,d1']
 by_cases d2:zsa<k.tick
 ·have e:zdf m k=2:=by rw[zdf,if_pos (by unfold ziI;omega)]
  have d2':¬k.tick<=zsa:=by omega
  simp[zbJ,zf,zG,hck,hW,e,d1,d2,d2']
 have g1:(0:Int)<=k.tick:=by omega
 have g2:k.tick<=zsa:=by omega
 by_cases d3:k.ego.slo<0
 ·have e:zdf m k=2:=by rw[zdf,if_pos (by unfold ziI;omega)]
  simp[zbJ,zf,zG,hck,hW,e,d1,d2,g1,g2,d3]
 by_cases d4:k.ego.shi<k.ego.slo
 ·have e:zdf m k=2:=by rw[zdf,if_pos (by unfold ziI;omega)]
  simp[zbJ,zf,zG,hck,hW,e,d1,d2,g1,g2,d3,d4]
 by_cases d5:zsa<k.ego.shi
 ·have e:zdf m k=2:=by rw[zdf,if_pos (by unfold ziI;omega)]
  simp[zbJ,zf,zG,hck,hW,e,d1,d2,g1,g2,d3,d4,d5]
 by_cases d6:k.ego.vlo<0
 ·have e:zdf m k=2:=by rw[zdf,if_pos (by unfold ziI;omega)]
  simp[zbJ,zf,zG,hck,hW,e,d1,d2,g1,g2,d3,d4,d5,d6]
 by_cases d7:k.ego.vhi<k.ego.vlo
 ·have e:zdf m k=2:=by rw[zdf,if_pos (by unfold ziI;omega)]
  simp[zbJ,zf,zG,hck,hW,e,d1,d2,g1,g2,d3,d4,d5,d6,d7]
 by_cases d8:2000<k.ego.vhi
 ·have e:zdf m k=2:=by rw[zdf,if_pos (by unfold ziI;omega)]
  simp[zbJ,zf,zG,hck,hW,e,d1,d2,g1,g2,d3,d4,d5,d6,d7,d8]
 have e:zdf m k=zls m zqY k.j8:=by rw[zdf,if_neg (by unfold ziI;omega)]
 rw[e];by_cases hz:zls m zqY k.j8=0
 ·rw[if_pos hz]at hl;rw[hz];simp[zbJ,zf,zG,hck,hW,hl,d1,d2,g1,g2,d3,d4,d5,d6,d7,d8,-leave];exact zid rfl rfl
 ·rw[if_neg hz]at hl;simp[zbJ,zf,zG,hck,hW,hl,d1,d2,g1,g2,d3,d4,d5,d6,d7,d8,-leave];exact zid rfl rfl
abbrev fn1(f:Nat):WV:=.c (.fn f [] [])
abbrev bad(b:zk):Bool:=decide (b.hi<b.lo)
abbrev blk(v:Nat)(l:List zk):Option Blk:=some { box:=false,esz:=6,rows:=zI l,gen:=l.length,fz:=false,ver:=v }
theorem zeg(l:List zk)(i:Nat)(b:zk):(zI l).set i (ze b)=zI (l.set i b):=by simp[zI,List.map_set]
theorem zwT(l:List zk)(hl:l.length<=900000000000):Y L Cs zbF (some [7,1,0,8]) 0 [(7,.w (W l.length)),(1,.w (fn1 zct)),(0,.w (.c (.jb (zI l)))),(8,.w (W (0:Nat)))] [] =
  some (match l.findIdx? bad with |some i=>(.ret,[(4,.w (W i))],[]) |none=>(.exit 0,[(9,.w (Bo false)),(0,.w (.c (.jb (zI l)))),(1,.w (fn1 zct)),(7,.w (W l.length)),(8,.w (W l.length))],[])):=by
 refine zxf l (fun i=>[(7,.w (W l.length)),(1,.w (fn1 zct)),(0,.w (.c (.jb (zI l)))),(8,.w (W i))]) _ _ _ _ ?_ ?_ ?_
 ·intro i h hp;have hw:=zB (i:=i) (by omega);have hc:=zrR l[i];simp only[bad]at hp;rw[hp]at hc;simp only[ze]at hc;rw[zj zbF.eq_1];simp[h,hw,hc,ze]
 ·intro i h hp;have hc:=zrR l[i];simp only[bad]at hp;rw[hp]at hc;simp only[ze]at hc;rw[zj zbF.eq_1];simp[h,hc,ze]
 ·rw[zj zbF.eq_1];simp
def zbe:Option Nat->Int
 |some i=>i
 |none=>-1
theorem zvV(l:List zk)(hl:l.length<=900000000000):R L Cs zjK [.c (.jb (zI l)),fn1 zct] []=some (.w (W (zbe (l.findIdx? bad))),[]):=by
 have h:=zwT l hl;simp only[jg]at h;rw[zUa zj5 rfl];cases hf:l.findIdx? bad with
 |none =>
  simp only[hf]at h;simp[zc2,h,zbe]
 |some i =>
  simp only[hf]at h;simp[zc2,h,zbe]
theorem zvq(n:Nat)(hn:n<=900000000000):∀(r:List zk) (l:List zk) (i j v:Nat),l.length=n->l.drop j=r->i<j->j<=n->∃l' i' v',v<=v'/\(v'=v->l'=l)/\l'.length=n/\i'<=n/\l'.take i'=l.take i++r.filter (fun b=>!bad b) /\
  Y L Cs zbw (some [5,6,1,0]) 2 [(5,.w (W i)),(6,.w (W j)),(1,.w (fn1 zct)),(0,.w (.c (.slice 0 n 6 0 n none)))] [blk v l,gb 6] =
    some (.exit 0,[(19,.w (Bo false)),(5,.w (W i')),(6,.w (W n)),(1,.w (fn1 zct)),(0,.w (.c (.slice 0 n 6 0 n none)))],[blk v' l',gb 6]):=by
 intro r;induction r with
 |nil =>
  intro l i j v hl hd hij hj;obtain rfl:=zUb hd (by omega);refine⟨l,i,v,jo _,fun _=>rfl,hl,by omega,by simp,?_⟩;rw[zj zbw.eq_1];simp[hl]
 |cons x r ih =>
  intro l i j v hl hd hij hj;obtain⟨hjl,hx,hd'⟩:=zL hd;have hw:=zB (i:=j) (by omega);have hw2:=zB (i:=i) (by omega);have hc:=zrR x;have hjn:j<n:=by omega
  have hin:i<n:=by omega
  by_cases hb:x.hi<x.lo
  ·obtain⟨l',i',v',g1,g2,h1,h2,h3,h4⟩:=ih l i (j+1) v hl hd' (by omega) (by omega);refine⟨l',i',v',g1,g2,h1,h2,by simp[h3,hb],?_⟩;rw[<-h4,zj zbw.eq_1];simp[hb,ze]at hc;simp[hl,hjl,hjn,hx,hc,hw,ze]
  ·obtain⟨l',i',v',g1,g2,h1,h2,h3,h4⟩:=ih (l.set i x) (i+1) (j+1) (v+1) (by simp[hl]) (by rw[List.drop_set_of_lt (by omega)];exact hd') (by omega) (by omega);have ht:(l.set i x).take (i+1)=l.take i++[x]:=by
    rw[vj (by simp;omega),List.take_set_of_le (jo _)];simp
   refine⟨l',i',v',by omega,fun hv=>by omega,h1,h2,by rw[h3,ht];simp[hb],?_⟩;rw[<-h4,zj zbw.eq_1];simp[hb,ze]at hc;have hs:=zeg l i x;simp only[ze]at hs;simp[hl,hjl,hjn,hin,hx,hc,hw,hw2,hs,ze,blk]
abbrev z9:zk:=⟨0,0,0,0,0,0⟩
@[simp] theorem zCd(l:List zk)(k:Nat):(zI l).take k=zI (l.take k):=by simp[zI,yF]
@[simp] theorem zCx(l:List zk)(k:Nat):(zI l).drop k=zI (l.drop k):=by simp[zI,List.map_drop]
@[simp] theorem zCv(k:Nat):List.replicate k [I 0,I 0,I 0,I 0,I 0,I 0]=zI (List.replicate k z9):=by simp[zI,ze]
theorem zuw(l:List zk)(v:Nat)(hn:l.length<=900000000000):∃l' v',v<=v'/\(v'=v->l'=l)/\l'.length=l.length/\(l.filter (fun b=>!bad b)).length<=l.length/\l'.take (l.filter (fun b=>!bad b)).length=l.filter (fun b=>!bad b) /\
  R L Cs zjk [.c (.slice 0 l.length 6 0 l.length none),fn1 zct] [blk v l]=some (.w (.c (.slice 0 l.length 6 0 (l.filter (fun b=>!bad b)).length none)),[blk v' l']):=by
 have hi:=zvV l hn;rw[zUa zjx rfl];cases hf:l.findIdx? bad with
 |none =>
  have uW:∀b∈l,bad b=false:=fun b hb=>kh.1 hf b hb
  have hfil:l.filter (fun b=>!bad b)=l:=List.filter_eq_self.2 fun b hb=>by rw[uW b hb];rfl
  refine⟨l,v,jo _,fun _=>rfl,rfl,by rw[hfil];exact jo _,by rw[hfil];simp,?_⟩;rw[hfil];simp only[hf,zbe]at hi;simp[zb6,hi,zX]
 |some k =>
  obtain⟨hk,hbk,Ar⟩:=jQ.1 hf;obtain⟨l',i',v',g1,g2,h1,h2,h3,h4⟩:=zvq l.length hn (l.drop (k+1)) l k (k+1) v rfl rfl (by omega) hk;have hpre:l.filter (fun b=>!bad b)=l.take k++(l.drop (k+1)).filter (fun b=>!bad b):=by
   conv=>lhs;rw[<-jP k l,List.filter_append,ku hk,uH]
   rw[if_neg (by simp[hbk])]
   congr 1
   refine List.filter_eq_self.2 fun b hb=>?_
   obtain⟨j,hj,rfl⟩:=qo hb;simp at hj;have:=Ar j (by omega);simpa using this
  rw[<-hpre]at h3;have hlen:(l.filter (fun b=>!bad b)).length=i':=by rw[<-h3];simp;omega
  have hw:=zB (i:=k) (by omega);simp only[hf,zbe]at hi;refine⟨if l.length-i'=0 then l' else l'.take i'++List.replicate (l.length-i') z9++l'.drop (i'+(l.length-i')),if l.length-i'=0 then v' else v'+1,by split<;>omega,fun hv=>?_,?_,by omega,?_,?_⟩
  ·split at hv
   ·rename_i h0;rw[if_pos h0];exact g2 hv
   ·omega
  ·split
   ·exact h1
   ·simp;omega
  ·rw[hlen,h3.symm];split
   ·rfl
   ·rw[jA,uf (by simp;omega)];rw[List.take_take,Nat.min_self]
  ·rw[hlen];have hne:((k:Int) == -1)=false:=by simp
   have hi0:(0:Int)<=i'/\(i':Int)<=(l.length:Int):=by omega
   have hil:i'+(l.length-i')<=l'.length:=by omega
   simp only[jL,kd,blk]at h4;by_cases h0:l.length-i'=0
   ·simp[zb6,hi,zX,hne,hw,h4,h0,h2,hi0,h1,blk,zgI,zcl]
   ·simp[zb6,hi,zX,hne,hw,h4,h0,h2,hi0,h1,hil,zgI,zcl,blk]
def bub(l:List zk):Nat->List zk
 |0=>l
 |j+1=>if ziK (l.getD (j+1) z9) (l.getD j z9)<0 then bub ((l.set (j+1) (l.getD j z9)).set j (l.getD (j+1) z9)) j else l
def zq4(l:List zk)(i:Nat):Nat->List zk
 |0=>l
 |m+1=>zq4 (bub l i) (i+1) m
def zeM(a b:zk):zk:=⟨a.lane,min a.lo b.lo,max a.hi b.hi,min a.vlo b.vlo,max a.vhi b.vhi,if a.hold=0\/b.hold=0 then 0 else max a.hold b.hold⟩
theorem zCU(a b:zk):R L Cs zsi [.a (ze a),.a (ze b)] []=some (.w (.a (ze (zeM a b))),[]):=by
 rw[zUa zsw rfl];by_cases h1:a.hold=0
 ·simp[zfO,ze,zeM,h1]
 ·have b1:(a.hold==0)=false:=by simp[h1]
  by_cases h2:b.hold=0
  ·simp[zfO,ze,zeM,h1,h2,b1]
  ·have b2:(b.hold==0)=false:=by simp[h2]
   simp[zfO,ze,zeM,h1,h2,b1,b2]
def meets(a b:zk):Bool:=decide (a.lane=b.lane)&&(decide (b.lo<=a.hi)||decide (b.lo-1=a.hi))
def zaQ(out:List zk)(b:zk):List zk :=
 if 0<out.length/\meets (out.getD (out.length-1) z9) b=true then out.set (out.length-1) (zeM (out.getD (out.length-1) z9) b) else out++[b]
structure OKB(b:zk):Prop where
 lo1:-9223372036854775808<=b.lo
 lo2:b.lo<=9223372036854775807
 hi1:-9223372036854775808<=b.hi
 hi2:b.hi<=9223372036854775807
theorem zBI{a b:zk}(ha:OKB a)(hb:OKB b):OKB (zeM a b):=⟨by simp[zeM];have:=ha.lo1;have:=hb.lo1;omega,by simp[zeM];have:=ha.lo2;have:=hb.lo2;omega,by simp[zeM];have:=ha.hi1;have:=hb.hi1;omega,by simp[zeM];have:=ha.hi2;have:=hb.hi2;omega⟩
theorem zva{out:List zk}{b:zk}(h:∀x∈out,OKB x)(hb:OKB b):∀x∈zaQ out b,OKB x:=by
 intro x hx;unfold zaQ at hx;split at hx
 ·rename_i hc;rcases qQ hx with h1|h1
  ·exact h x h1
  ·subst h1;refine zBI (h _ ?_) hb;have:out.length-1<out.length:=by omega
   rw[jm,jq this];exact je this
 ·rcases jD.1 hx with h1|h1
  ·exact h x h1
  ·simp at h1;subst h1;exact hb
theorem zt3(out:List zk)(b:zk):(zaQ out b).length<=out.length+1:=by
 unfold zaQ;split<;>simp
theorem zyO(S:List zk)(k:Nat)(hk:k<=900000000000)(hS:k<=S.length)(v:Nat)(hok:∀x∈S.take k,OKB x):∀(r:List zk) (i:Nat) (out:List zk) (w:Nat),(S.take k).drop i=r->i<=k->out.length<=i->(∀x∈out,OKB x)->∃w',
  Y L Cs zfv (some [15,14,13,4]) 3 [(15,.w (W i)),(14,.w (W k)),(13,.w (.c (.slice 1 S.length 6 0 k none))),(4,.w (.c (.slice 2 out.length 6 0 out.length none)))] [gb 6,blk v S,blk w out] =
    some (.exit 0,[(16,.w (Bo false)),(15,.w (W k)),(14,.w (W k)),(13,.w (.c (.slice 1 S.length 6 0 k none))),(4,.w (.c (.slice 2 (r.foldl zaQ out).length 6 0 (r.foldl zaQ out).length none)))],[gb 6,blk v S,blk w' (r.foldl zaQ out)]):=by
 intro r;induction r with
 |nil =>
  intro i out w hd hi ho hoo;have:i=k:=by
   have:=zUb hd (by simp;omega);simp at this;omega
  subst this;refine⟨w,?_⟩;rw[zj zfv.eq_1];simp
 |cons b r ih =>
  intro i out w hd hi ho hoo;obtain⟨hil,hb,hd'⟩:=zL hd;simp at hil hb;have hik:i<k:=by omega
  have hiS:i<S.length:=by omega
  have hbok:OKB b:=hok b (qU (i:=i) (by rw[hd];exact jr));have hw:=zB (i:=i) (by omega);obtain⟨w',h4⟩:=ih (i+1) (zaQ out b) (if 0<out.length/\meets (out.getD (out.length-1) z9) b=true then w+1 else w+1) hd' hik (by have:=zt3 out b;omega) (zva hoo hbok);refine⟨w',?_⟩;rw[jN,<-h4,zj zfv.eq_1];have jX:(out.length+1)*48<=140737488355328:=by omega
  by_cases h0:out.length=0
  ·have e:out=[]:=kc.1 h0;subst e;simp[zaQ,hik,hiS,hb,hw,ze,blk]
  have hp:0<out.length:=by omega
  have hp':(0:Int)<(out.length:Int):=by omega
  have qZ:out.length-1<out.length:=by omega
  have e1:out.getD (out.length-1) z9=out[out.length-1]:=by simp[qZ]
  have hw1:=kg ((out.length:Int)-1);have i1:(1:Int)<=(out.length:Int):=by omega
  have i2:(out.length:Int)-1<(out.length:Int):=by omega
  have i3:((out.length:Int)-1).toNat=out.length-1:=by omega
  have aok:OKB out[out.length-1]:=hoo _ (je _);have hc:=zCU out[out.length-1] b;rw[zaQ,e1];generalize ha:out[out.length-1]=a at *;have hs:=zeg out (out.length-1) (zeM a b);simp only[ze]at hc hs;by_cases h2:a.lane=b.lane
  ·rw[h2]at hc;by_cases h3:b.lo<=a.hi
   ·have hm:meets a b=true:=by simp[meets,h2,h3]
    simp[hm,hik,hiS,hb,hw,ze,blk,hp,hp',hw1,i1,i2,i3,qZ,ha,h2,h3,hc,hs]
   ·have hw2:IntKind.i64.wrap (b.lo-1)=b.lo-1:=zTd _ (by have:=aok.hi1;omega) (by have:=hbok.lo2;omega);by_cases h5:b.lo-1=a.hi
    ·have hm:meets a b=true:=by simp[meets,h2,h5]
     have hw3:IntKind.i64.wrap a.hi=a.hi:=zTd _ aok.hi1 aok.hi2;simp[hw3,hm,hik,hiS,hb,hw,ze,blk,hp,hp',hw1,i1,i2,i3,qZ,ha,h2,h3,hc,hs,hw2,h5]
    ·have hm:meets a b=false:=by simp[meets,h2,h3,h5]
     have b5:(b.lo-1==a.hi)=false:=by simp[h5]
     simp[hm,hik,hiS,hb,hw,ze,blk,hp,hp',hw1,i1,i2,i3,qZ,ha,h2,h3,hw2,h5,b5,jX]
  ·have hm:meets a b=false:=by simp[meets,h2]
   have b2:(a.lane==b.lane)=false:=by simp[h2]
   simp[hm,hik,hiS,hb,hw,ze,blk,hp,hp',hw1,i1,i2,i3,qZ,ha,h2,b2,jX]
def zzs(l:List zk):List zk:=zq4 l 1 (l.length-1)
def zAj(l:List zk):List zk:=(zzs (l.filter fun b=>!bad b)).foldl zaQ []
def ltB(a b:zk):Bool:=decide (a.lane<b.lane)||(decide (a.lane=b.lane)&&decide (a.lo<b.lo))
theorem znX(a b:zk):(ziK a b<0)<->ltB a b=true:=by
 unfold ziK ltB zgQ;by_cases h1:a.lane<b.lane
 ·simp[h1]
 ·by_cases h2:b.lane<a.lane
  ·have h3:¬a.lane=b.lane:=by omega
   simp[h1,h2,h3]
  ·have h3:a.lane=b.lane:=by omega
   by_cases h4:a.lo<b.lo
   ·simp[h3,h4]
   ·by_cases h5:b.lo<a.lo
    ·simp[h3,h4,h5]
    ·simp[h3,h4,h5]
theorem zCT(a b:zk):R L Cs zlj [.a (ze a),.a (ze b)] []=some (.w (Bo (ltB a b)),[]):=by
 rw[zUa zlz rfl];by_cases h1:a.lane<b.lane
 ·simp[zcA,ze,ltB,h1]
 ·by_cases h2:a.lane=b.lane
  ·simp[zcA,ze,ltB,h2]
  ·have b2:(a.lane==b.lane)=false:=by simp[h2]
   simp[zcA,ze,ltB,h1,h2,b2]
def zev(x:zk)(s:List zk):Nat->Nat
 |0=>0
 |a+1=>if ltB x (s.getD a z9)=true then zev x s a else a+1
theorem zl0(x:zk)(s:List zk):∀a,zev x s a<=a
 |0=>jo _
 |a+1=>by unfold zev;split;exact Nat.le_succ_of_le (zl0 x s a);exact jo _
theorem zBS(l s:List zk)(i:Nat)(hi:i<l.length)(hs:s.length<=900000000000)(M:Mem)(id:Nat)(hM:M[id]?=some (some (own 6 (zI s)))):∀(a:Nat),a<=s.length ->
  Y L Cs zca (some [5,0,4,3]) M.length [(5,.w (W a)),(0,.w (.c (.jb (zI l)))),(4,.w (W i)),(3,.w (.c (.slice id s.length 6 0 s.length none)))] M =
    some (.exit 2,[(44,.w (Bo false)),(5,.w (W (zev l[i] s a))),(0,.w (.c (.jb (zI l)))),(4,.w (W i)),(3,.w (.c (.slice id s.length 6 0 s.length none)))],M):=by
 intro a;induction a with
 |zero =>
  intro ha;rw[zj zca.eq_1];simp[zev]
 |succ a ih =>
  intro ha;have has:a<s.length:=by omega
  have e1:s.getD a z9=s[a]:=by simp[has]
  have hc:=zCT l[i] s[a];have hg:(0:Int)<(a:Int)+1:=by omega
  have hwa:IntKind.i64.wrap (a:Int)=(a:Int):=zTd _ (by omega) (by omega);simp only[ze]at hc;rw[zev,e1];have Bi:∀E:Env,j6 M.length E M=M:=fun E=>by simp[j6]
  by_cases h:ltB l[i] s[a]=true
  ·rw[h]at hc;rw[if_pos h,<-ih (by omega),zj zca.eq_1];simp[hg,hi,hM,own,has,hwa,hc,ze,Bi]
  ·have h':ltB l[i] s[a]=false:=by simpa using h
   rw[h']at hc;rw[if_neg h,zj zca.eq_1];simp[hg,hi,hM,own,has,hwa,hc,ze]
def zfK(s:List zk)(x:zk):List zk:=s.take (zev x s s.length)++x::s.drop (zev x s s.length)
theorem zn4(s:List zk)(x:zk):(zfK s x).length=s.length+1:=by
 have:=zl0 x s s.length;simp[zfK];omega
def zs9(M:Mem):Prop:=∀x∈M,∀b,x=some b->b.box=false
def zb5(s:List zk)(x:zk):List zk:=if bad x=true then s else zfK s x
theorem zkI{M:Mem}{E:Env}{id g es off len:Nat}{c:Option Nat}(hE:(3,AV.w (.c (.slice id g es off len c)))∈E)(h:M.length<=2\/2<=id):j6 2 E M=M:=by
 unfold j6;split
 ·rfl
 ·rename_i hl;have hid:2<=id:=h.resolve_left hl;rw[if_neg];simp only[jl,jz,not_and];intro uW;have:=uW _ hE;simp[AV.below,WV.below,WV.cells,Eng.below,yN]at this;omega
theorem zx0(l:List zk)(hl:l.length<=900000000000):∀(r:List zk) (i:Nat) (s:List zk) (M:Mem) (id:Nat),l.drop i=r->i<=l.length->s.length<=i->M[id]?=some (some (own 6 (zI s)))->(M.length<=2\/2<=id)->2<=M.length->zs9 M ->
  ∃M' id',zs9 M'/\M'[id']?=some (some (own 6 (zI (r.foldl zb5 s))))/\Y L Cs zb9 (some [4,0,3]) 2 [(4,.w (W i)),(0,.w (.c (.jb (zI l)))),(3,.w (.c (.slice id s.length 6 0 s.length none)))] M =
   some (.exit 0,[(15,.w (Bo false)),(4,.w (W l.length)),(0,.w (.c (.jb (zI l)))),(3,.w (.c (.slice id' (r.foldl zb5 s).length 6 0 (r.foldl zb5 s).length none)))],M'):=by
 intro r;induction r with
 |nil =>
  intro i s M id hd hi hs hM hid hML hfl;obtain rfl:=zUb hd hi;refine⟨M,id,hfl,hM,?_⟩;rw[zj zb9.eq_1];simp
 |cons x r ih =>
  intro i s M id hd hi hs hM hid hML hfl;obtain⟨hil,hx,hd'⟩:=zL hd;have hw:=zB (i:=i) (by omega);by_cases hb:x.hi<x.lo
  ·obtain⟨M',id',hf',h1,h2⟩:=ih (i+1) s M id hd' hil (by omega) hM hid hML hfl;have e:zb5 s x=s:=by simp[zb5,hb]
   rw[jN,e];refine⟨M',id',hf',h1,?_⟩;rw[<-h2,zj zb9.eq_1];have hdr:=fun(E:Env) (hE:(3,AV.w (.c (.slice id s.length 6 0 s.length none)))∈E)=>zkI hE hid
   simp[hil,hx,hb,ze,hw,hdr,-j6]
  ·have AM:id<M.length:=(jW.1 hM).1;have e:zb5 s x=zfK s x:=by simp[zb5,hb]
   have hM2:(M++[some (own 6 (zI (zfK s x))),some (own 6 [ze x])])[M.length]?=some (some (own 6 (zI (zfK s x)))):=by simp
   have hl2:(2:Nat)<=M.length:=hML;have hs999:s.length<=899999999999:=by omega
   obtain⟨M',id',hf',h1,h2⟩:=ih (i+1) (zfK s x) (M++[some (own 6 (zI (zfK s x))),some (own 6 [ze x])]) M.length hd' hil (by rw[zn4];omega) hM2 (.inr hl2) (by simp) (by
    intro y hy b hb;rcases jD.1 hy with h|h
    ·exact hfl y h b hb
    ·simp at h;rcases h with rfl|rfl<;>(cases hb;rfl))
   rw[jN,e];refine⟨M',id',hf',h1,?_⟩;have hat:=zBS l s i hil (by omega) M id hM s.length (jo _);rw[hx]at hat;have hdr:∀(v v2:AV) (g len:Nat) (N:Mem),j6 2 [(4,v),(0,v2),(3,.w (.c (.slice M.length g 6 0 len none)))] (M++N)=M++N:=fun v v2 g len N=>zkI (id:=M.length) (g:=g) (es:=6) (off:=0) (len:=len) (c:=none) (by simp) (.inr hl2)
   have hle:=zl0 x s s.length;rw[<-h2,zj zb9.eq_1];simp only[zfK];generalize zev x s s.length=a at *;have hdl:∀E:Env,j6 M.length E M=M:=fun E=>by simp[j6]
   have hal:(a:Int)<=(s.length:Int):=by omega
   have r1:∀n,n<=900000000000->n*48<=140737488355328:=fun n hn=>by omega
   have hta:(s.take a).length=a:=by simp;omega
   have htd:(s.drop a).length=s.length-a:=by simp
   have hsz:a+(s.length-a)=s.length:=by omega
   have hg:∀N:Mem,(M++N)[id]?=some (some (own 6 (zI s))):=fun N=>by rw[jw AM,hM]
   simp only[own,zgg]at hg;have d1:a-s.length=0:=by omega
   cases h1:s.take a with
   |nil =>
    cases h2:s.drop a with
    |nil=>simp[hil,hx,hb,ze,hw,hdr,hat,hM,AM,hg,own,hle,h1,h2,zg,hdl,hal,hsz,r1,-j6]
    |cons z t2 =>
     have ht2:t2.length+1+1<=900000000000:=by have:=congrArg List.length h2;simp at this;omega
     have ht3:s.length-a=t2.length+1:=by have:=congrArg List.length h2;simp at this;omega
     have ht4:(1+(t2.length+1))*48<=140737488355328:=by omega
     have ht5:1+(t2.length+1)=t2.length+1+1:=by omega
     have ht6:a+(t2.length+1)<=s.length:=by omega
     simp[hil,hx,hb,ze,hw,hdr,hat,hM,AM,hg,own,hle,h1,h2,zg,hdl,hal,hsz,r1,ht2,ht3,ht4,ht5,ht6,-j6]
   |cons y t1 =>
    have ht1:t1.length+1=a:=by have:=congrArg List.length h1;simp at this;omega
    have hr1:=r1 (t1.length+1) (by omega);have hr2:=r1 (t1.length+1+1) (by omega);cases h2:s.drop a with
    |nil=>simp[hil,hx,hb,ze,hw,hdr,hat,hM,AM,hg,own,hle,h1,h2,zg,hdl,hal,hsz,r1,hr1,hr2,-j6]
    |cons z t2 =>
     have hr3:=r1 (t1.length+1+1+(t2.length+1)) (by have:=congrArg List.length h2;simp at this;omega);have ht3:s.length-a=t2.length+1:=by have:=congrArg List.length h2;simp at this;omega
     have ht6:a+(t2.length+1)<=s.length:=by omega
     have ht7:t1.length+1+1+(t2.length+1)=t1.length+(t2.length+1+1)+1:=by omega
     have hr4:(t1.length+(t2.length+1+1)+1)*48<=140737488355328:=by rw[<-ht7];exact hr3
     have ht8:List.take (t1.length+1) (zI t1++[[I x.lane,I x.lo,I x.hi,I x.vlo,I x.vhi,I x.hold]])=zI t1++[[I x.lane,I x.lo,I x.hi,I x.vlo,I x.vhi,I x.hold]]:=jG (by simp);have ht2:t2.length+1+a=s.length:=by have:=congrArg List.length h2;simp at this;omega
     simp[hil,hx,hb,ze,hw,hdr,hat,hM,AM,hg,own,hle,h1,h2,zg,hdl,hal,hsz,r1,ht2,hr1,hr2,hr3,hr4,ht3,ht6,ht7,ht8,-j6]
def glue(a b:zk):zk:=⟨b.lane,a.lo,max a.hi b.hi,min a.vlo b.vlo,max a.vhi b.vhi,if a.hold=0\/b.hold=0 then 0 else max a.hold b.hold⟩
def far(a b:zk):Bool:=!decide (a.lane=b.lane)||(decide (a.hi<b.lo)&&decide (a.hi<b.lo-1))
def zcP(out:List zk)(b:zk):List zk :=
 if 0<out.length/\far (out.getD (out.length-1) z9) b=false then out.set (out.length-1) (glue (out.getD (out.length-1) z9) b) else out++[b]
theorem zn6(out:List zk)(b:zk):(zcP out b).length<=out.length+1:=by
 unfold zcP;split<;>simp
theorem zvi{out:List zk}{b:zk}(h:∀x∈out,OKB x)(hb:OKB b):∀x∈zcP out b,OKB x:=by
 intro x hx;unfold zcP at hx;split at hx
 ·rename_i hc;rcases qQ hx with h1|h1
  ·exact h x h1
  ·subst h1;have hl:out.length-1<out.length:=by omega
   have ho:OKB (out.getD (out.length-1) z9):=by
    refine h _ ?_;rw[jm,jq hl];exact je hl
   exact⟨ho.lo1,ho.lo2,by show _<=max _ _;have:=ho.hi1;have:=hb.hi1;omega,by show max _ _<=_;have:=ho.hi2;have:=hb.hi2;omega⟩
 ·rcases jD.1 hx with h1|h1
  ·exact h x h1
  ·simp at h1;subst h1;exact hb
theorem zw2{P N:Mem}(hP:zs9 P){g len id g' len':Nat}{v:AV}{o x:Option Blk}(ho:∀b,o=some b->b.box=false)(hid:id<P.length)(hv:v.below (P.length+1)=true) :
  j6 (P.length+1) [(6,.w (.c (.slice P.length g 6 0 len none))),(7,v),(3,.w (.c (.slice id g' 6 0 len' none)))] (P++o::x::N)=P++[o]:=by
 unfold j6;have ht:(P++o::x::N).take (P.length+1)=P++[o]:=by
  rw[List.take_append,jG (by omega)];simp
 rw[if_neg (by simp),ht,if_pos];simp only[jl,jz];refine⟨?_,?_⟩
 ·intro y hy;simp at hy;rcases hy with rfl|rfl|rfl
  ·simp[AV.below,WV.below,WV.cells,Eng.below,yN]
  ·exact hv
  ·simp[AV.below,WV.below,WV.cells,Eng.below,yN];omega
 ·simp only[zH,jz];intro y hy;have:∀b,y=some b->b.box=false:=by
   rcases jD.1 hy with h|h
   ·exact hP y h
   ·simp at h;subst h;exact ho
  cases y with
  |none=>rfl
  |some b=>simp[Blk.below,this b rfl]
theorem zyT(S:List zk)(hS:S.length<=900000000000)(P:Mem)(id:Nat)(hP:zs9 P)(hM:P[id]?=some (some (own 6 (zI S))))(hok:∀x∈S,OKB x):∀(r:List zk) (i:Nat) (out:List zk) (w:Nat),S.drop i=r->i<=S.length->out.length<=i->(∀x∈out,OKB x)->∃w',
  Y L Cs zcN (some [6,7,3]) (P.length+1) [(6,.w (.c (.slice P.length out.length 6 0 out.length none))),(7,.w (W i)),(3,.w (.c (.slice id S.length 6 0 S.length none)))] (P++[blk w out]) =
    some (.exit 4,[(65,.w (Bo false)),(6,.w (.c (.slice P.length (r.foldl zcP out).length 6 0 (r.foldl zcP out).length none))),(7,.w (W S.length)),(3,.w (.c (.slice id S.length 6 0 S.length none)))],P++[blk w' (r.foldl zcP out)]):=by
 have Cn:id<P.length:=(jW.1 hM).1;have hg:∀N:Mem,(P++N)[id]?=some (some (own 6 (zI S))):=fun N=>by rw[jw Cn,hM]
 simp only[own,zgg]at hg;intro r;induction r with
 |nil =>
  intro i out w hd hi ho hoo;obtain rfl:=zUb hd hi;refine⟨w,?_⟩;rw[zj zcN.eq_1];simp[hg]
 |cons b r ih =>
  intro i out w hd hi ho hoo;obtain⟨hil,hb,hd'⟩:=zL hd;have hbok:OKB b:=hok b (by rw[<-hb];exact je _);have hw:=zB (i:=i) (by omega);obtain⟨w',h4⟩:=ih (i+1) (zcP out b) (w+1) hd' hil (by have:=zn6 out b;omega) (zvi hoo hbok);refine⟨w',?_⟩;rw[jN,<-h4,zj zcN.eq_1];have jX:(out.length+1)*48<=140737488355328:=by omega
  have hdt:∀(g len g' len':Nat) (k:Int) (w:Nat) (rows:List (List Cl)) (x:Option Blk) (N:Mem),j6 (P.length+1) [(6,.w (.c (.slice P.length g 6 0 len none))),(7,.w (W k)),(3,.w (.c (.slice id g' 6 0 len' none)))] (P++some { box:=false,esz:=6,rows:=rows,gen:=g,fz:=false,ver:=w }::x::N)=P++[some { box:=false,esz:=6,rows:=rows,gen:=g,fz:=false,ver:=w }] :=
   fun g len g' len' k w rows x N=>zw2 hP (by intro b hb;cases hb;rfl) Cn (by simp[AV.below,WV.below,WV.cells,Eng.below,yN])
  by_cases h0:out.length=0
  ·have e:out=[]:=kc.1 h0;subst e;have hwm:IntKind.i64.wrap (-1)=-1:=rfl;simp[zcP,hil,hb,hw,ze,blk,hg,hwm,hdt,zg,-j6]
  have hp:0<out.length:=by omega
  have qZ:out.length-1<out.length:=by omega
  have e1:out.getD (out.length-1) z9=out[out.length-1]:=by simp[qZ]
  have hw1:=kg ((out.length:Int)-1);have i1:(1:Int)<=(out.length:Int):=by omega
  have i2:(out.length:Int)-1<(out.length:Int):=by omega
  have i3:¬((out.length:Int)-1<0):=by omega
  have i4:¬((out.length:Int)<1):=by omega
  have i5:¬(out.length<1):=by omega
  have aok:OKB out[out.length-1]:=hoo _ (je _);rw[zcP,e1];generalize ha:out[out.length-1]=a at *;have hs:∀x1 x2 x3 x4 x5 x6:Int,(zI out).set (out.length-1) [.int .i64 x1,.int .i64 x2,.int .i64 x3,.int .i64 x4,.int .i64 x5,.int .i64 x6]=zI (out.set (out.length-1) ⟨x1,x2,x3,x4,x5,x6⟩):=fun x1 x2 x3 x4 x5 x6=>zeg out (out.length-1) ⟨x1,x2,x3,x4,x5,x6⟩
  by_cases h2:a.lane=b.lane
  ·by_cases h3:a.hi<b.lo
   ·have hw2:IntKind.i64.wrap (b.lo-1)=b.lo-1:=zTd _ (by have:=aok.hi1;omega) (by have:=hbok.lo2;omega);by_cases h5:a.hi<b.lo-1
    ·have hm:far a b=true:=by simp[far,h3,h5]
     simp[hm,hil,hb,hw,ze,blk,hp,hw1,i1,i2,i3,i4,i5,qZ,ha,h2,h3,h5,hw2,jX,hg,hdt,zg,-j6]
    ·have hm:far a b=false:=by simp[far,h2,h5]
     by_cases h6:a.hold=0
     ·simp[hm,hil,hb,hw,ze,blk,hp,hw1,i1,i2,i3,i4,i5,qZ,ha,h2,h3,h5,hw2,jX,hg,hdt,zg,h6,glue,hs,-j6]
     ·have b6:(a.hold==0)=false:=by simp[h6]
      by_cases h7:b.hold=0
      ·simp[hm,hil,hb,hw,ze,blk,hp,hw1,i1,i2,i3,i4,i5,qZ,ha,h2,h3,h5,hw2,jX,hg,hdt,zg,h6,h7,b6,glue,hs,-j6]
      ·have b7:(b.hold==0)=false:=by simp[h7]
       simp[hm,hil,hb,hw,ze,blk,hp,hw1,i1,i2,i3,i4,i5,qZ,ha,h2,h3,h5,hw2,jX,hg,hdt,zg,h6,h7,b6,b7,glue,hs,-j6]
   ·have hm:far a b=false:=by simp[far,h2,h3]
    by_cases h6:a.hold=0
    ·simp[hm,hil,hb,hw,ze,blk,hp,hw1,i1,i2,i3,i4,i5,qZ,ha,h2,h3, hg,hdt,zg,h6,glue,hs,-j6]
    ·have b6:(a.hold==0)=false:=by simp[h6]
     by_cases h7:b.hold=0
     ·simp[hm,hil,hb,hw,ze,blk,hp,hw1,i1,i2,i3,i4,i5,qZ,ha,h2,h3, hg,hdt,zg,h6,h7,b6,glue,hs,-j6]
     ·have b7:(b.hold==0)=false:=by simp[h7]
      simp[hm,hil,hb,hw,ze,blk,hp,hw1,i1,i2,i3,i4,i5,qZ,ha,h2,h3, hg,hdt,zg,h6,h7,b6,b7,glue,hs,-j6]
  ·have hm:far a b=true:=by simp[far,h2]
   have b2:(a.lane==b.lane)=false:=by simp[h2]
   have b3:(a.lane !=b.lane)=true:=by simp[h2]
   simp[hm,hil,hb,hw,ze,blk,hp,hw1,i1,i2,i3,i4,i5,qZ,ha,h2,b2,b3,jX,hg,hdt,zg,-j6]
theorem zAm{s:List zk}{x y:zk}:y∈zfK s x<->y=x\/y∈s:=by
 unfold zfK;generalize zev x s s.length=a
 conv=>rhs;rw[<-jP a s]
 simp only[jD,jy];constructor
 ·rintro(h|h|h)
  ·exact .inr (.inl h)
  ·exact .inl h
  ·exact .inr (.inr h)
 ·rintro(h|h|h)
  ·exact .inr (.inl h)
  ·exact .inl h
  ·exact .inr (.inr h)
theorem zuL:∀(l s:List zk) (y:zk),y∈l.foldl zb5 s->y∈l\/y∈s
 |[],s,y,h=>.inr h
 |x::l,s,y,h=>by
  rcases zuL l (zb5 s x) y h with h|h
  ·exact .inl (jv _ h)
  ·unfold zb5 at h;split at h
   ·exact .inr h
   ·rcases zAm.1 h with h|h
    ·exact .inl (h ▸ jr)
    ·exact .inr h
theorem zqq:∀(l s:List zk),(l.foldl zb5 s).length<=l.length+s.length
 |[],s=>by simp
 |x::l,s=>by
  have h:=zqq l (zb5 s x);have h2:(zb5 s x).length<=s.length+1:=by unfold zb5;split;omega;rw[zn4];omega
  simp only[jN,jk];omega
def zcz(l:List zk):List zk:=(l.foldl zb5 []).foldl zcP []
theorem zy7(l:List zk)(hl:l.length<=800000000000)(hok:∀x∈l,OKB x):R L Cs zlm [.c (.jb (zI l))] []=some (.w (.c (.jb (zI (zcz l)))),[]):=by
 obtain⟨P,id,hP,hid,h2⟩:=zx0 l (by omega) l 0 [] [gb 6,gb 6] 1 rfl (jt _) (jt _) rfl (.inl (by simp)) (by simp) (by intro x hx b hb;simp at hx;subst hx;cases hb;rfl);have hl2:=zqq l [];simp at hl2;obtain⟨w',h3⟩:=zyT (l.foldl zb5 []) (by omega) P id hP hid (fun x hx=>hok x ((zuL l [] x hx).resolve_right (by simp))) _ 0 [] 0 rfl (jt _) (jt _) (by simp);rw[y9,<-zcz]at h3;generalize l.foldl zb5 []=S at *;generalize zcz l=Q at *;simp only[blk,jg,jp,zic]at h2 h3;have Cn:id<P.length:=(jW.1 hid).1;have hdp:∀(E:Env) (b:Option Blk),j6 (P.length+1) E (P++[b])=P++[b]:=by
  intro E b;simp[j6]
 have hd0:∀(E:Env) (a b:Option Blk),j6 2 E [a,b]=[a,b]:=by
  intro E a b;simp[j6]
 rw[zUa zlC rfl];simp[ze0,h2,h3,zg,hdp,hd0,-j6]
def leB(a b:zk):Prop:=a.lane<b.lane\/(a.lane=b.lane/\a.lo<=b.lo)
theorem zqc(a b:zk):leB a b<->¬ltB b a=true:=by
 unfold leB ltB;simp;omega
theorem zfs{a b c:zk}(h1:leB a b)(h2:leB b c):leB a c:=by unfold leB at *;omega
theorem zxy{a b:zk}(h:ltB a b=true):leB a b:=by unfold leB;unfold ltB at h;simp at h;omega
theorem zn5(x:zk)(t u:List zk):∀a,a<=t.length->zev x (t++u) a=zev x t a
 |0,_=>rfl
 |a+1,h=>by
  have e:(t++u).getD a z9=t.getD a z9:=by simp[jm,jw (show a<t.length by omega)]
  unfold zev;rw[e,zn5 x t u a (by omega)]
theorem zup(x:zk):∀(n:Nat) (s r:List zk),s.length=n->bub (s++x::r) n=zfK s x++r
 |0,s,r,h=>by
  have e:s=[]:=kc.1 h;subst e;simp[bub,zfK,zev]
 |n+1,s,r,h=>by
  rcases vE s with e |⟨t,y,e⟩
  ·subst e;simp at h
  ·rw[vF]at e;subst e;have ht:t.length=n:=by simpa using h
   subst ht;have e1:(t++[y]++x::r).getD (t.length+1) z9=x:=by simp[jm]
   have e2:(t++[y]++x::r).getD t.length z9=y:=by simp[jm]
   have e3:((t++[y]++x::r).set (t.length+1) y).set t.length x=t++x::(y::r):=by simp
   rw[bub,e1,e2,e3];have e4:zev x (t++[y]) (t.length+1)=if ltB x y=true then zev x t t.length else t.length+1:=by
    rw[zev];have:(t++[y]).getD t.length z9=y:=by simp[jm]
    rw[this,zn5 x t [y] t.length (jo _)]
   by_cases hc:ziK x y<0
   ·have hl:=(znX x y).1 hc;rw[if_pos hc,zup x t.length t (y::r) rfl];have hle:=zl0 x t t.length;simp only[zfK,ju,jk,jp,jB];rw[e4,if_pos hl,uf hle,List.drop_append_of_le_length hle];simp
   ·have hl:¬ltB x y=true:=fun h=>hc ((znX x y).2 h)
    rw[if_neg hc];simp only[zfK,ju,jk,jp,jB];rw[e4,if_neg hl,jG (by simp),uh (by simp)];simp
theorem zvc:∀(r s:List zk),zq4 (s++r) s.length r.length=r.foldl zfK s
 |[],s=>by simp[zq4]
 |x::r,s=>by
  rw[jk,zq4,zup x s.length s r rfl,jN];have h:=zvc r (zfK s x);rw[zn4]at h;exact h
theorem zsN(l:List zk):zzs l=l.foldl zfK []:=by
 cases l with
 |nil=>rfl
 |cons x r =>
  have h:=zvc r [x];simp only[jk,jp,List.singleton_append]at h;simp only[zzs,jk,yp,jN];have e:zfK [] x=[x]:=by simp[zfK,zev]
  rw[e];exact h
theorem zpi:∀(l s:List zk),l.foldl zb5 s=(l.filter fun b=>!bad b).foldl zfK s
 |[],s=>rfl
 |x::l,s=>by
  rw[jN,zpi l,uH];cases h:bad x with
  |true=>simp[zb5,h]
  |false=>simp[zb5,h]
theorem zpu(x:zk)(s:List zk):∀a,a<=s.length->∀i,zev x s a<=i->i<a->ltB x (s.getD i z9)=true
 |0,_,i,_,h=>by omega
 |a+1,ha,i,h1,h2=>by
  unfold zev at h1;split at h1
  ·rename_i h;rcases km i a with h3|h3
   ·exact zpu x s a (by omega) i h1 h3
   ·have:i=a:=by omega
    subst this;exact h
  ·omega
theorem zpt(x:zk)(s:List zk):∀a,0<zev x s a->ltB x (s.getD (zev x s a-1) z9)=false
 |0,h=>by simp[zev]at h
 |a+1,h=>by
  unfold zev at h ⊢;split at h
  ·rename_i h1;rw[if_pos h1];exact zpt x s a h
  ·rename_i h1;rw[if_neg h1];simpa using h1
theorem zvd(s:List zk)(x:zk)(h:s.Pairwise leB):(zfK s x).Pairwise leB:=by
 unfold zfK;have hab:=zpu x s s.length (jo _);have hbe:=zpt x s s.length;have hle:=zl0 x s s.length;generalize zev x s s.length=a at *;have hs:=qu.1 h;have hx1:∀y∈s.take a,leB y x:=by
  intro y hy;obtain⟨i,hi,rfl⟩:=qo hy;simp at hi;have hb:=hbe (by omega);have hsa:a-1<s.length:=by omega
  have e:s.getD (a-1) z9=s[a-1]:=by simp[hsa]
  rw[e]at hb;have h1:leB s[a-1] x:=(zqc _ _).2 (by simp[hb]);simp only[List.getElem_take];rcases km i (a-1)with h2|h2
  ·exact zfs (hs i (a-1) (by omega) hsa h2) h1
  ·have:i=a-1:=by omega
   subst this;exact h1
 have hx2:∀y∈s.drop a,leB x y:=by
  intro y hy;obtain⟨i,hi,rfl⟩:=qo hy;simp at hi;simp only[List.getElem_drop];have hai:a+i<s.length:=by omega
  have:=hab (a+i) (by omega) (by omega);have e:s.getD (a+i) z9=s[a+i]:=by simp[hai]
  rw[e]at this;exact zxy this
 have hsp:(s.take a++s.drop a).Pairwise leB:=by rw[jP];exact h
 rw[jY]at hsp ⊢;refine⟨hsp.1,jZ.2 ⟨hx2,hsp.2.1⟩,fun y hy z hz=>?_⟩;rcases jy.1 hz with rfl|hz
 ·exact hx1 y hy
 ·exact hsp.2.2 y hy z hz
theorem ziR:∀(l s:List zk),s.Pairwise leB->(l.foldl zfK s).Pairwise leB
 |[],s,h=>h
 |x::l,s,h=>ziR l _ (zvd s x h)
theorem zoI(a b:zk):meets a b = !far a b:=by
 unfold meets far;by_cases h:a.lane=b.lane
 ·by_cases h1:b.lo<=a.hi
  ·have h2:¬a.hi<b.lo:=by omega
   simp[h,h1,h2]
  ·by_cases h2:b.lo-1=a.hi
   ·have h3:¬a.hi<b.lo-1:=by omega
    have h4:a.hi<b.lo:=by omega
    simp[h,h1,h2,h3,h4]
   ·have h3:a.hi<b.lo-1:=by omega
    have h4:a.hi<b.lo:=by omega
    simp[h,h1,h2,h3,h4]
 ·simp[h]
theorem zxD:∀(l out:List zk),l.Pairwise leB->(0<out.length->∀b∈l,leB (out.getD (out.length-1) z9) b)->l.foldl zaQ out=l.foldl zcP out
 |[],out,_,_=>rfl
 |b::l,out,h,ho=>by
  rw[jZ]at h;have hst:zaQ out b=zcP out b:=by
   unfold zaQ zcP;rw[zoI];by_cases hc:0<out.length/\far (out.getD (out.length-1) z9) b=false
   ·have hle:=ho hc.1 b jr;rw[if_pos ⟨hc.1,by rw[hc.2];rfl⟩,if_pos hc]
    congr 1
    generalize out.getD (out.length-1) z9=a at *;have hm:=zoI a b;rw[hc.2]at hm;have ua:a.lane=b.lane:=by unfold meets at hm;simp at hm;exact hm.1
    have hlo:a.lo<=b.lo:=by unfold leB at hle;omega
    unfold zeM glue;rw[ua,show min a.lo b.lo=a.lo by omega]
   ·rw[if_neg (by simpa using hc),if_neg hc]
  rw[jN,jN,hst];refine zxD l _ h.2 fun hp c hcm=>?_
  have hbc:=h.1 c hcm;unfold zcP;split
  ·rename_i hcc;simp only[yW];have hl:out.length-1<out.length:=by omega
   have e:(out.set (out.length-1) (glue (out.getD (out.length-1) z9) b)).getD (out.length-1) z9=glue (out.getD (out.length-1) z9) b:=by simp[jm,kG hl]
   rw[e];have h1:=ho hcc.1 b jr;generalize out.getD (out.length-1) z9=a at *;have:leB (glue a b) b:=by unfold leB glue;unfold leB at h1;simp;have:=zoI a b;rw[hcc.2]at this;unfold meets at this;simp at this;omega
   exact zfs this hbc
  ·have e:(out++[b]).getD ((out++[b]).length-1) z9=b:=by simp[jm]
   rw[e];exact hbc
theorem zAh(l:List zk):zAj l=zcz l:=by
 unfold zAj zcz;rw[zsN,zpi];exact zxD _ [] (ziR _ [] List.Pairwise.nil) (by simp)
theorem zvh:∀(l out:List zk),(l.foldl zcP out).length<=l.length+out.length
 |[],out=>by simp
 |b::l,out=>by
  have:=zvh l (zcP out b);have:=zn6 out b;simp only[jN,jk];omega
theorem zkq(l:List zk):(zcz l).length<=l.length:=by
 have h1:=zvh (l.foldl zb5 []) [];have h2:=zqq l [];simp at h1 h2;unfold zcz;omega
def zjD(l:List zk):Nat->zk
 |0=>zqY
 |i+1=>l.getD i z9
theorem zvS{m:zD}(h:zcp m)(l:List zk)(hl:l.length<=100000000000)(i:Nat)(hi:i<l.length)(hr:OKB l[i]):R L Cs zio [.a (zf m),.c (.jb (zI l)),W i] []=some (.w (W (zer m (zjD l i) l[i])),[]):=by
 generalize hp:zjD l i=p;generalize hb:l[i]=b;rw[hb]at hr;obtain⟨bl,lo,hi',vlo,vhi,hold⟩:=b;rw[zUa ziG rfl];by_cases c1:bl<0
 ·have e:zer m p ⟨bl,lo,hi',vlo,vhi,hold⟩=7:=by simp[zer,c1]
  simp[zF,hi,hb,ze,c1,e,zf]
 by_cases c2:(m.jc.length:Int)<=bl
 ·have e:zer m p ⟨bl,lo,hi',vlo,vhi,hold⟩=7:=by simp[zer,c2]
  simp[zF,hi,hb,ze,c1,c2,e,zf]
 obtain⟨n,rfl⟩:=js (show 0<=bl by omega);have hn:n<m.jc.length:=by omega
 have hL:=zA3 h hn;have hB:=zhv (h.kind _ (je hn));have eL:z8 m (n:Int)=m.jc[n].len:=by simp[z8,hn]
 have eK:zaK m (n:Int)=m.jc[n].kind:=by simp[zaK,hn]
 generalize ua:m.jc[n]=ln at *;simp only[zf]at hL;have c1':¬((n:Int)<0):=by omega
 have y8:vw m ⟨(n:Int),lo,hi',vlo,vhi,hold⟩->zer m p ⟨(n:Int),lo,hi',vlo,vhi,hold⟩=2:=fun ho=>by
  unfold zer;rw[if_neg (by simp;omega),if_pos ho]
 by_cases d1:lo<0
 ·have e:=y8 (by simp only[vw,eL,eK];omega);simp[zF,hi,hb,ze,c1',c2,hn,ua,zf,zo,hL,hB,e,d1]
 by_cases d2:hi'<lo
 ·have e:=y8 (by simp only[vw,eL,eK];omega);simp[zF,hi,hb,ze,c1',c2,hn,ua,zf,zo,hL,hB,e,d1,d2]
 by_cases d3:ln.len<hi'
 ·have e:=y8 (by simp only[vw,eL,eK];omega);simp[zF,hi,hb,ze,c1',c2,hn,ua,zf,zo,hL,hB,e,d1,d2,d3]
 by_cases d4:vlo<0
 ·have e:=y8 (by simp only[vw,eL,eK];omega);simp[zF,hi,hb,ze,c1',c2,hn,ua,zf,zo,hL,hB,e,d1,d2,d3,d4]
 by_cases d5:vhi<vlo
 ·have e:=y8 (by simp only[vw,eL,eK];omega);simp[zF,hi,hb,ze,c1',c2,hn,ua,zf,zo,hL,hB,e,d1,d2,d3,d4,d5]
 by_cases d6:zeR ln.kind<vhi
 ·have e:=y8 (by simp only[vw,eL,eK];omega);simp[zF,hi,hb,ze,c1',c2,hn,ua,zf,zo,hL,hB,e,d1,d2,d3,d4,d5,d6]
 by_cases d7:hold<0
 ·have e:=y8 (by simp only[vw,eL,eK];omega);simp[zF,hi,hb,ze,c1',c2,hn,ua,zf,zo,hL,hB,e,d1,d2,d3,d4,d5,d6,d7]
 by_cases d8:ln.len<hold
 ·have e:=y8 (by simp only[vw,eL,eK];omega);simp[zF,hi,hb,ze,c1',c2,hn,ua,zf,zo,hL,hB,e,d1,d2,d3,d4,d5,d6,d7,d8]
 have e0:¬vw m ⟨(n:Int),lo,hi',vlo,vhi,hold⟩:=by simp only[vw,eL,eK];omega
 have hlw:IntKind.i64.wrap (lo-1)=lo-1:=zTd _ (by omega) (by have:lo<=9223372036854775807:=hr.lo2;omega);have e11:zmM p ⟨(n:Int),lo,hi',vlo,vhi,hold⟩->zer m p ⟨(n:Int),lo,hi',vlo,vhi,hold⟩=11:=fun ho=>by
  unfold zer;rw[if_neg (by simp;omega),if_neg e0,if_pos ho]
 have e00:¬zmM p ⟨(n:Int),lo,hi',vlo,vhi,hold⟩->zer m p ⟨(n:Int),lo,hi',vlo,vhi,hold⟩=0:=fun ho=>by
  unfold zer;rw[if_neg (by simp;omega),if_neg e0,if_neg ho]
 cases i with
 |zero =>
  simp only[zjD]at hp;have e:=e00 (by rw[<-hp];unfold zmM;simp<;>omega);simp[zF,hi,hb,ze,c1',c2,hn,ua,zf,zo,hL,hB,e,d1,d2,d3,d4,d5,d6,d7,d8]
 |succ i =>
  have hi2:i<l.length:=by omega
  have e1:l.getD i z9=l[i]:=by simp[hi2]
  simp only[zjD,e1]at hp;have hwi:IntKind.i64.wrap (i:Int)=(i:Int):=zTd _ (by omega) (by omega);have hg:(0:Int)<(i:Int)+1:=by omega
  have x1:(0:Int)<=(i:Int)+1:=by omega
  have x2:(i:Int)+1<(l.length:Int):=by omega
  have x3:((i:Int)+1).toNat=i+1:=by omega
  by_cases o1:(n:Int)<p.lane
  ·have e:=e11 (by unfold zmM;simp;omega);simp[zF,hi,hb,ze,c1',c2,hn,ua,zf,zo,hL,hB,e,d1,d2,d3,d4,d5,d6,d7,d8,hg,hi2,hp,hwi,x1,x2,x3,o1]
  by_cases o2:(n:Int)=p.lane
  ·have o2':p.lane=(n:Int):=o2.symm;by_cases o3:lo-1<=p.hi
   ·have e:=e11 (by unfold zmM;simp;omega);simp[zF,hi,hb,ze,c1',c2,hn,ua,zf,zo,hL,hB,e,d1,d2,d3,d4,d5,d6,d7,d8,hg,hi2,hp,hwi,x1,x2,x3,o2',o3,hlw]
   ·have e:=e00 (by unfold zmM;simp;omega);simp[zF,hi,hb,ze,c1',c2,hn,ua,zf,zo,hL,hB,e,d1,d2,d3,d4,d5,d6,d7,d8,hg,hi2,hp,hwi,x1,x2,x3,o2',o3,hlw]
  ·have e:=e00 (by unfold zmM;simp;omega);have b2:((n:Int)==p.lane)=false:=by simp[o2]
   simp[zF,hi,hb,ze,c1',c2,hn,ua,zf,zo,hL,hB,e,d1,d2,d3,d4,d5,d6,d7,d8,hg,hi2,hp,hwi,x1,x2,x3,o1,o2,b2]
theorem zwy(l:List zk)(i:Nat)(hi:i<l.length):zjD l (i+1)=l[i]:=by simp[zjD,hi]
theorem zr5{m:zD}(h:zcp m)(k:zci)(hk:k.j8.length<=100000000000)(hok:∀b∈k.j8,OKB b):∀(r:List zk) (i:Nat),k.j8.drop i=r->i<=k.j8.length ->
  ∃E',E'.get 5=some (.w (W (zls m (zjD k.j8 i) r)))/\Y L Cs zaX (some [5,7,2,3]) 3 [(5,.w (W 0)),(7,.w (W i)),(2,.w (Pt 0)),(3,.w (Pt 1))] [bx 5 (zf m),bx 6 (zG k),bxv 1 4 (zch k.ego)]=some (.exit 0,E',[bx 5 (zf m),bx 6 (zG k),bxv 1 4 (zch k.ego)]):=by
 intro r;induction r with
 |nil =>
  intro i hd hi;obtain rfl:=zUb hd hi;refine⟨[(65,.w (Bo false)),(5,.w (W 0)),(7,.w (W k.j8.length)),(2,.w (Pt 0)),(3,.w (Pt 1))],by simp[Env.get,zls],?_⟩;rw[zj zaX.eq_1];simp[zG]
 |cons b r ih =>
  intro i hd hi;obtain⟨hil,hb,hd'⟩:=zL hd;have hw:=zB (i:=i) (by omega);have hc:=zvS h k.j8 hk i hil (hok _ (je hil));rw[hb]at hc;have ux:∀e,zer m (zjD k.j8 i) b=e->Y L Cs zaX (some [5,7,2,3]) 3 [(5,.w (W 0)),(7,.w (W i)),(2,.w (Pt 0)),(3,.w (Pt 1))] [bx 5 (zf m),bx 6 (zG k),bxv 1 4 (zch k.ego)]=Y L Cs zaX (some [5,7,2,3]) 3 [(5,.w (W e)),(7,.w (W (i+1:Nat))),(2,.w (Pt 0)),(3,.w (Pt 1))] [bx 5 (zf m),bx 6 (zG k),bxv 1 4 (zch k.ego)]:=by
   intro e he;rw[he]at hc;simp only[zf]at hc;rw[zj zaX.eq_1];simp[hil,zG,zf,hc,hw]
  by_cases hz:zer m (zjD k.j8 i) b=0
  ·obtain⟨E',h1,h2⟩:=ih (i+1) hd' hil;rw[zwy _ _ hil,hb]at h1;refine⟨E',by rw[h1,zls,if_neg (by simp[hz])],?_⟩;rw[ux 0 hz,h2]
  ·refine⟨[(65,.w (Bo false)),(5,.w (W (zer m (zjD k.j8 i) b))),(7,.w (W (i+1:Nat))),(2,.w (Pt 0)),(3,.w (Pt 1))],by simp[Env.get,zls,hz],?_⟩;have hz':(zer m (zjD k.j8 i) b==0)=false:=by simp[hz]
   rw[ux _ rfl,zj zaX.eq_1];generalize zer m (zjD k.j8 i) b=e at *;by_cases hlt:(i:Int)+1<k.j8.length
   ·have Bs:i+1<k.j8.length:=by omega
    simp[zG,hz,hz',hlt,Bs]
   ·have Bs:¬i+1<k.j8.length:=by omega
    simp[zG,hlt,Bs]
theorem yT{m:zD}(h:zcp m)(k:zci)(hk:k.j8.length<=100000000000)(hok:∀b∈k.j8,OKB b):R L Cs zkF [.a (zf m),.a (zG k)] []=some (.w (W (zdf m k)),[]):=by
 have hck:=h.AP;obtain⟨E',hg,hl⟩:=zr5 h k hk hok k.j8 0 rfl (jt _);simp only[zf,zG,jg,bx,bxv,zch,zjD]at hl hck hg;rw[zUa zk4 rfl];by_cases d1:k.tick<0
 ·have e:zdf m k=2:=by rw[zdf,if_pos (by unfold ziI;omega)]
  simp[zaj,zf,zG,hck,e,d1]
 by_cases d2:zsa<k.tick
 ·have e:zdf m k=2:=by rw[zdf,if_pos (by unfold ziI;omega)]
  simp[zaj,zf,zG,hck,e,d1,d2]
 by_cases d3:k.ego.slo<0
 ·have e:zdf m k=2:=by rw[zdf,if_pos (by unfold ziI;omega)]
  simp[zaj,zf,zG,hck,e,d1,d2,d3]
 by_cases d4:k.ego.shi<k.ego.slo
 ·have e:zdf m k=2:=by rw[zdf,if_pos (by unfold ziI;omega)]
  simp[zaj,zf,zG,hck,e,d1,d2,d3,d4]
 by_cases d5:zsa<k.ego.shi
 ·have e:zdf m k=2:=by rw[zdf,if_pos (by unfold ziI;omega)]
  simp[zaj,zf,zG,hck,e,d1,d2,d3,d4,d5]
 by_cases d6:k.ego.vlo<0
 ·have e:zdf m k=2:=by rw[zdf,if_pos (by unfold ziI;omega)]
  simp[zaj,zf,zG,hck,e,d1,d2,d3,d4,d5,d6]
 by_cases d7:k.ego.vhi<k.ego.vlo
 ·have e:zdf m k=2:=by rw[zdf,if_pos (by unfold ziI;omega)]
  simp[zaj,zf,zG,hck,e,d1,d2,d3,d4,d5,d6,d7]
 by_cases d8:2000<k.ego.vhi
 ·have e:zdf m k=2:=by rw[zdf,if_pos (by unfold ziI;omega)]
  simp[zaj,zf,zG,hck,e,d1,d2,d3,d4,d5,d6,d7,d8]
 have e:zdf m k=zls m zqY k.j8:=by rw[zdf,if_neg (by unfold ziI;omega)]
 rw[e];simp[zaj,zf,zG,hck,hl,hg,d1,d2,d3,d4,d5,d6,d7,d8]
def zQ(kind lim:Int)(next:List Int)(a b c d len:Int):zfn:={ kind:=kind,pts:=[(a,b),(c,d)],half:=if kind=3 then 500 else 1500,vC:=lim,next:=next,len:=len }
def zaY(o a b:Int):List Cl:=[I o,.jb [[I 12,.jb [[I a]]],[I 5,.jb []],[I 9,.jb [[I b]]],[I 4,.jb []]]]
theorem zaZ(kind lim:Int)(next:List Int)(a b c d len:Int):R L Cs zmT [W kind,W lim,.c (.jb (zu next)),.c (.jb (zu [a,b,c,d]))] []=some (.w (.a (zo (zQ kind lim next a b c d len))),[]):=by
 rw[zUa zm4 rfl];have hw1:IntKind.i64.wrap 1=1:=rfl;have hw2:IntKind.i64.wrap 2=2:=rfl;have hw3:IntKind.i64.wrap 3=3:=rfl;have hw4:IntKind.i64.wrap 4=4:=rfl;have hw5:IntKind.i64.wrap 5=5:=rfl;have hy:∃M' S v,Y L Cs zco (some [10,8,0,3,9]) 2 [(10,.w (W 0)),(8,.w (Pt 0)),(0,.w (W kind)),(3,.w (.c (.jb (zu [a,b,c,d])))),(9,.w (Pt 1))] [bx 5 [I 0,.jd,I 0,I 0,.jd],bxv 1 5 [I kind,.jd,I 1500,I lim,.jb (zu next)]] =
   some (.exit 0,[(19,.w (Bo false)),(10,.w (W 4)),(8,.w (Pt 0)),(0,.w (W kind)),(3,.w (.c (.jb (zu [a,b,c,d])))),(9,.w (Pt 1))],bx 5 [I 0,.jd,I 0,I 0,.jd]::bxv v 5 [I kind,S,I 1500,I lim,.jb (zu next)]::M') /\
   (∀x y:Option Blk,zdR (x::y::M') S=some (.jb [[I a,I b],[I c,I d]])):=by
  refine⟨[some (own 2 [[I a,I b]]),some (own 2 [[I a,I b],[I c,I d]]),some (own 2 [[I c,I d]])],.slice 3 2 2 0 2 none,3,?_,?_⟩
  ·rw[zj zco.eq_1];simp[hw1,hw2,hw3,hw4,hw5,zg,zH];rw[zj zco.eq_1];simp[hw1,hw2,hw3,hw4,hw5,zg,zH];rw[zj zco.eq_1];simp[hw1,hw2,hw3,hw4,hw5,zg,zH]
  ·intro x y;simp[zdR,look]
 obtain⟨M',S,v,h1,h2⟩:=hy;simp only[zaP,zay]at h1;have hf:∀(M:Mem) (x y:Option Blk) (k2 h2 l2:Int),M=x::y::M'->zoS M (.w (.a [I k2,S,I h2,I l2,.jb (zu next)]))=some (.w (.a [I k2,.jb [[I a,I b],[I c,I d]],I h2,I l2,.jb (zu next)])):=by
  intro M x y k2 h2' l2 hM;subst hM;simp only[zoS,zn7,yv,h2 x y];rfl
 by_cases hk:kind=3
 ·subst hk;simp[zee,h1,-leave];exact zid (hf _ _ _ _ _ _ rfl) rfl
 ·have hb:(kind==3)=false:=by simp[hk]
  simp[zee,h1,hk,hb,-leave];have e:zo (zQ kind lim next a b c d len)=[I kind,.jb [[I a,I b],[I c,I d]],I 1500,I lim,.jb (zu next)]:=by simp[zo,zQ,hk]
  rw[e];exact zid (hf _ _ _ _ _ _ rfl) rfl
theorem zj1(o a b:Int):R L Cs zlr [W o,W a,W b] []=some (.w (.a (zaY o a b)),[]):=by
 rw[zUa zlH rfl];simp[ze2,zaY,zg,zX]
theorem zhR(n:Int):R L Cs zny [W n,W 16777216] []=some (.w (W (n % 16777216)),[]):=by
 rw[zUa znH rfl];have h1:0<=n->n.tmod 16777216=n % 16777216:=kS;have h2:n<0->n.tmod 16777216=-((-n) % 16777216):=fun hn=>by
  have e1:(-n).tmod 16777216=(-n) % 16777216:=kS (by omega);have e2:=Int.neg_tmod (-n) 16777216;rw[Int.neg_neg,e1]at e2;exact e2
 by_cases h:n.tmod 16777216<0
 ·have e:IntKind.i64.wrap (n.tmod 16777216+16777216)=n % 16777216:=by
   rw[zTd _ (by omega) (by omega)];omega
  simp[zeK,h,e]
 ·have e:n.tmod 16777216=n % 16777216:=by omega
  have h3:¬n % 16777216<0:=by omega
  simp[zeK,h3,e]
theorem zn{N d:Int}(hN:0<=N/\N<16777216)(hd:0<d):IntKind.i64.wrap (N.tdiv d)=N.tdiv d:=by
 rw[kr hN.1];have h1:0<=N / d:=yX hN.1 (by omega);have h2:N / d<=N:=Int.ediv_le_self _ hN.1;exact zTd _ (by omega) (by omega)
theorem zE(N d e:Int)(hN:0<=N/\N<16777216)(hd:0<d)(he:0<e):0<=(N.tdiv d).tmod e/\(N.tdiv d).tmod e<e:=by
 rw[kr hN.1];have h1:0<=N / d:=yX hN.1 (by omega);rw[kS h1];exact⟨uU _ (by omega),uj _ he⟩
def zdK(l a b r:Int):List Cl:=[I l,I a,I b,I r]
def zfa(ps:List (List Cl))(s:Int):List Cl:=[.jb ps,I s]
def zy(k:Nat)(lim:Int):List zfn:=match k with
 |0=>[zQ 1 lim [] 0 0 60000 0 60000]
 |1 |2=>[zQ 1 lim [] 0 0 50000 0 50000,zQ 1 1500 [] 30000 (-20000) 30000 20000 40000]
 |3=>[zQ 1 lim [1,2] 0 0 30000 0 30000,zQ 1 1500 [] 30000 0 60000 0 30000,zQ 1 800 [] 30000 0 54000 10000 26000]
 |4=>[zQ 1 lim [2] 0 0 30000 0 30000,zQ 1 1500 [2] 6000 (-10000) 30000 0 26000,zQ 1 1500 [] 30000 0 60000 0 30000]
 |5=>[zQ 1 lim [1] 0 0 20000 0 20000,zQ 1 lim [] 20000 0 50000 0 30000,zQ 3 200 [] 35000 (-8000) 35000 8000 16000]
 |_=>[zQ 1 lim [1,2] 0 0 20000 0 20000,zQ 1 1500 [] 20000 0 50000 0 30000,zQ 1 1000 [] 20000 0 44000 10000 26000,zQ 2 700 [] 36000 (-12000) 36000 18000 30000]
def zO(k:Nat)(r:Int):List (List Cl):=match k with
 |0=>[]
 |1=>[zfa [zdK 0 28000 32000 r,zdK 1 18000 22000 (2-2*r)] 0]
 |2=>[zfa [zdK 0 28000 32000 r,zdK 1 18000 22000 (2-2*r)] 1]
 |3=>[]
 |4=>[zfa [zdK 0 25000 30000 1,zdK 1 20000 26000 0,zdK 2 0 5000 0] 0]
 |5=>[zfa [zdK 1 14000 16000 0,zdK 2 6000 10000 3] 0]
 |_=>[zfa [zdK 1 14000 18000 1,zdK 3 10000 14000 0] (if r=1 then 1 else 0),zfa [zdK 2 14000 21000 1,zdK 3 14500 23000 0] (if r=1 then 2 else 0)]
def zt(k:Nat)(r o1 o2 o3:Int):List (List Cl):=match k with
 |2=>[zaY o1 0 1]
 |6=>if r=1 then [zaY o2 1 3,zaY o3 2 3] else []
 |_=>[]
def zak(w b t:Int):List zCP:=if w=1 then [⟨0,10000,15000,b,b+20,t*200⟩] else []
def zq(k:Nat)(lim r o1 o2 o3 v:Int)(ws:List zCP):zD:={ version:=v,jc:=zy k lim,qE:=zO k r,signals:=zt k r o1 o2 o3,kE:=ws }
def zeC(j:Nat):Int:=match j with |0=>1500 |1=>600 |2=>1000 |_=>300
theorem zea(j:Nat)(hj:j<4):([[I 1500],[I 600],[I 1000],[I 300]]:List (List Cl))[j]?=some [I (zeC j)]:=by
 match j,hj with
 |0,_=>rfl
 |1,_=>rfl
 |2,_=>rfl
 |3,_=>rfl
theorem zdd(j:Nat)(h:j<([[I 1500],[I 600],[I 1000],[I 300]]:List (List Cl)).length):([[I 1500],[I 600],[I 1000],[I 300]]:List (List Cl))[j]=[I (zeC j)]:=by
 match j,h with
 |0,_=>rfl
 |1,_=>rfl
 |2,_=>rfl
 |3,_=>rfl
theorem zTw(k:Nat)(n:Int)(h7:(n % 16777216).tmod 7=k)(hk:k<7) :
  R L Cs zY [W n] []=some (.w (.a (zf (zq k (zeC (((n % 16777216).tdiv 7).tmod 4).toNat) (((n % 16777216).tdiv 28).tmod 2) (((n % 16777216).tdiv 28).tmod 31) (((n % 16777216).tdiv 56).tmod 31) (((n % 16777216).tdiv 56).tmod 17) (((n % 16777216).tdiv 28).tmod 5) (zak (((n % 16777216).tdiv 1736).tmod 3) (((n % 16777216).tdiv 5208).tmod 40) (((n % 16777216).tdiv 208320).tmod 3))))),[]):=by
 have hM:=zhR n;have hN:0<=n % 16777216/\n % 16777216<16777216:=by omega
 generalize n % 16777216=N at *;have wd:=fun(d:Int) (h:0<d)=>zn (N:=N) (d:=d) hN h
 have w7:=wd 7 (by decide);have w28:=wd 28 (by decide);have w56:=wd 56 (by decide);have w1736:=wd 1736 (by decide);have w5208:=wd 5208 (by decide);have CV:=wd 208320 (by decide);have hj:=zE N 7 4 hN (by decide) (by decide);obtain⟨j,hje⟩:=js hj.1;have hj4:j<4:=by omega
 have hj4':(j:Int)<4:=by omega
 have r2:=zE N 28 2 hN (by decide) (by decide);have b40:=zE N 5208 40 hN (by decide) (by decide);have t3:=zE N 208320 3 hN (by decide) (by decide);have hlg:=zea j hj4;have q0:=fun k lim a b c d=>zaZ k lim [] a b c d 0
 have q1:=fun k lim a b c d=>zaZ k lim [1] a b c d 0
 have q2:=fun k lim a b c d=>zaZ k lim [2] a b c d 0
 have q3:=fun k lim a b c d=>zaZ k lim [1,2] a b c d 0
 have s1:=fun o a b=>zj1 o a b
 simp only[zaP,zay,zo,zQ,kN,vk,zaY]at q0 q1 q2 q3 s1;have wr1:=kg (2*(N.tdiv 28).tmod 2);have wr2:=kg (2-2*(N.tdiv 28).tmod 2);have wb:=kg ((N.tdiv 5208).tmod 40+20);have wt:=kg ((N.tdiv 208320).tmod 3*200);have hw:(((N.tdiv 1736).tmod 3==1)=true/\(N.tdiv 1736).tmod 3=1)\/(((N.tdiv 1736).tmod 3==1)=false/\¬(N.tdiv 1736).tmod 3=1):=by by_cases e:(N.tdiv 1736).tmod 3=1<;>simp[e]
 have hc:(k=0/\k<7)\/(k=1/\k<7)\/(k=2/\k<7)\/(k=3/\k<7)\/(k=4/\k<7)\/(k=5/\k<7)\/(k=6/\(N.tdiv 28).tmod 2=0)\/(k=6/\(N.tdiv 28).tmod 2=1):=by omega
 rw[zUa zUq rfl];rcases hc with⟨rfl,hr⟩ |⟨rfl,hr⟩ |⟨rfl,hr⟩ |⟨rfl,hr⟩ |⟨rfl,hr⟩ |⟨rfl,hr⟩ |⟨rfl,hr⟩ |⟨rfl,hr⟩<;>rcases hw with⟨hwb,hw⟩ |⟨hwb,hw⟩ <;>
  simp (config:={ maxSteps:=1000000 }) [zZ,hM,h7,hje,hlg,zdd,hj4,hj4',w7,w28,w56,w1736,w5208,CV,wr1,wr2,wb,wt,hr,hwb,hw,q0,q1,q2,q3,s1,zg,zX,zH,zcl,zf,zq,zy,zO,zt,zak,zo,zQ,zaL,zfa,zdK,zaY]
theorem ziD(n lo hi:Int):R L Cs zre [W n,W lo,W hi] []=some (.w (Bo (decide (lo<=n)&&decide (n<=hi))),[]):=by
 rw[zUa zrU rfl];by_cases h:lo<=n
 ·simp[zgL,h]
 ·simp[zgL,h]
theorem zmm(n lo hi:Int):R L Cs zjO [W n,W lo,W hi] []=some (.w (Bo (decide (lo<=n)&&decide (n<=hi))),[]):=by
 rw[zUa zj9 rfl];by_cases h:lo<=n
 ·simp[zc9,h]
 ·simp[zc9,h]
structure zon(m:zD):Prop where
 v1:0<=m.version
 v2:m.version<=1099511627776
 l1:0<m.jc.length
 l2:m.jc.length<=12
 z:m.qE.length<=12
 s:m.signals.length<=4
 w:m.kE.length<=8
theorem zhb{m:zD}(h:zon m):R L Cs zdG [.a (zf m)] []=some (.w (W 0),[]):=by
 have hW:=ziD m.version 0 1099511627776;have a1:=h.v1;have a2:=h.v2;have l0:((m.jc.length:Int)==0)=false:=by have:=h.l1;exact beq_false_of_ne (by omega)
 have l1:¬(12:Int)<(m.jc.length:Int):=by have:=h.l2;omega
 have l2:¬(12:Int)<(m.qE.length:Int):=by have:=h.z;omega
 have l3:¬(4:Int)<(m.signals.length:Int):=by have:=h.s;omega
 have l4:¬(8:Int)<(m.kE.length:Int):=by have:=h.w;omega
 have l5:¬12<m.jc.length:=by have:=h.l2;omega
 have l6:¬12<m.qE.length:=by have:=h.z;omega
 have l7:¬4<m.signals.length:=by have:=h.s;omega
 have l8:¬8<m.kE.length:=by have:=h.w;omega
 have l9:¬m.jc=[]:=by have:=h.l1;intro e;rw[e]at this;simp at this
 rw[zUa zlw rfl];simp[zeY,zf,hW,a1,a2,l0,l1,l2,l3,l4,l5,l6,l7,l8,l9]
theorem zgb{m:zD}(h1:R L Cs zdG [.a (zf m)] []=some (.w (W 0),[]))(h2:R L Cs zaU [.a (zf m)] []=some (.w (W 0),[]))
  (h3:R L Cs zaM [.a (zf m)] []=some (.w (W 0),[])) (h4:R L Cs zao [.a (zf m)] []=some (.w (W 0),[]))
  (h5:R L Cs zR [.a (zf m)] []=some (.w (W 0),[])) (h6:R L Cs zec [.a (zf m)] []=some (.w (W 0),[])):R L Cs zjl [.a (zf m)] []=some (.w (W 0),[]):=by
 simp only[zf]at h1 h2 h3 h4 h5 h6;have e1:IntKind.i64.wrap 1=1:=rfl;have e2:IntKind.i64.wrap 2=2:=rfl;have e3:IntKind.i64.wrap 3=3:=rfl;have e4:IntKind.i64.wrap 4=4:=rfl;have e5:IntKind.i64.wrap 5=5:=rfl;have e6:IntKind.i64.wrap 6=6:=rfl;have hl:Y L Cs zbP (some [7,6,1,8]) 2 [(7,.w (W 6)),(6,.w (.c (.slice 1 6 1 0 6 none))),(1,.w (Pt 0)),(8,.w (W 0))] [bx 5 (zf m),some { box:=true,esz:=1,rows:=[[.fn zdG [] []],[.fn zaU [] []],[.fn zaM [] []],[.fn zao [] []],[.fn zR [] []],[.fn zec [] []]],gen:=6,fz:=false,ver:=6 }] =
   some (.exit 0,[(9,.w (Bo false)),(1,.w (Pt 0)),(6,.w (.c (.slice 1 6 1 0 6 none))),(7,.w (W 6)),(8,.w (W 6))],[bx 5 (zf m),some { box:=true,esz:=1,rows:=[[.fn zdG [] []],[.fn zaU [] []],[.fn zaM [] []],[.fn zao [] []],[.fn zR [] []],[.fn zec [] []]],gen:=6,fz:=false,ver:=6 }]):=by
  rw[zj zbP.eq_1];simp[zf,h1,e1];rw[zj zbP.eq_1];simp[h2,e2];rw[zj zbP.eq_1];simp[h3,e3];rw[zj zbP.eq_1];simp[h4,e4];rw[zj zbP.eq_1];simp[h5,e5];rw[zj zbP.eq_1];simp[h6,e6];rw[zj zbP.eq_1];simp
 simp only[zf]at hl;rw[zUa zsu rfl];simp[zjp,zf,hl,zg,zcl,zi2,zr,okW]
theorem zd1{m:zD}(h:zon m)(h2:∀i:Nat,i<m.jc.length->R L Cs zav [.a (zf m),W i] []=some (.w (W 0),[]))(h3:R L Cs zau [.a (zf m)] []=some (.w (W 0),[]))
  (hsp:∀s∈m.signals,∃o ps,s=[I o,.jb ps]) (hzp:∀s∈m.qE,∃ps o,s=[.jb ps,I o])
  (h4:∀s∈m.signals,R L Cs zV [.a (zf m),.a s] []=some (.w (W 0),[]))
  (h5:∀z∈m.qE,R L Cs zJ [.a (zf m),.a z] []=some (.w (W 0),[]))
  (e:Int) (h6:(∀w∈m.kE,R L Cs zfh [.a (zf m),.a (zaL w)] []=some (.w (W 0),[]))/\e=0\/∃w,m.kE=[w]/\R L Cs zfh [.a (zf m),.a (zaL w)] []=some (.w (W e),[])):R L Cs zeE [.a (zf m)] []=some (.w (W e),[]):=by
 have hW:=zmm m.version 0 1099511627776;have a1:=h.v1;have a2:=h.v2;have b1:=h.l1;have b2:=h.l2;have b3:=h.z;have b4:=h.s;have b5:=h.w;have l0:((m.jc.length:Int)==0)=false:=beq_false_of_ne (by omega);have l1:¬(12:Int)<(m.jc.length:Int):=by omega
 have l2:¬(12:Int)<(m.qE.length:Int):=by omega
 have l3:¬(4:Int)<(m.signals.length:Int):=by omega
 have l4:¬(8:Int)<(m.kE.length:Int):=by omega
 have l9:¬m.jc=[]:=by intro e;rw[e]at b1;simp at b1
 have k1:Y L Cs zbZ (some [1,3]) 1 [(1,.w (Pt 0)),(3,.w (W (0:Nat)))] [bx 5 (zf m)]=some (.exit 0,[(43,.w (Bo false)),(1,.w (Pt 0)),(3,.w (W m.jc.length))],[bx 5 (zf m)]):=by
  have q:=zpE (L:=L) (Cs:=Cs) (b:=zbZ) (live:=some [1,3]) (n0:=1) m.jc (fun i=>[(1,.w (Pt 0)),(3,.w (W i))]) [bx 5 (zf m)] (fun _=>false) (.ret,[],[]) (.exit 0,[(43,.w (Bo false)),(1,.w (Pt 0)),(3,.w (W m.jc.length))],[bx 5 (zf m)]) ?_ ?_ ?_
  ·simpa using q
  ·intro i hi _;have hw:=zB (i:=i) (by omega);have hc:=h2 i hi;simp only[zf]at hc;rw[zj zbZ.eq_1];simp[zf,hi,hw,hc]
  ·intro i hi hp;cases hp
  ·rw[zj zbZ.eq_1];simp[zf]
 have k2:Y L Cs zbY (some [5,6,1]) 1 [(5,.w (W 0)),(6,.w (W (0:Nat))),(1,.w (Pt 0))] [bx 5 (zf m)]=some (.exit 2,[(62,.w (Bo false)),(5,.w (W 0)),(6,.w (W m.signals.length)),(1,.w (Pt 0))],[bx 5 (zf m)]):=by
  have q:=zpE (L:=L) (Cs:=Cs) (b:=zbY) (live:=some [5,6,1]) (n0:=1) m.signals (fun i=>[(5,.w (W 0)),(6,.w (W i)),(1,.w (Pt 0))]) [bx 5 (zf m)] (fun _=>false) (.ret,[],[]) (.exit 2,[(62,.w (Bo false)),(5,.w (W 0)),(6,.w (W m.signals.length)),(1,.w (Pt 0))],[bx 5 (zf m)]) ?_ ?_ ?_
  ·simpa using q
  ·intro i hi _;have hw:=zB (i:=i) (by omega);have hc:=h4 m.signals[i] (je hi);obtain⟨a,b,hxy⟩:=hsp _ (je hi);rw[hxy]at hc;simp only[zf]at hc;rw[zj zbY.eq_1];simp[zf,hi,hw,hc,hxy]
  ·intro i hi hp;cases hp
  ·rw[zj zbY.eq_1];simp[zf]
 have k3:Y L Cs zbX (some [5,7,1]) 1 [(5,.w (W 0)),(7,.w (W (0:Nat))),(1,.w (Pt 0))] [bx 5 (zf m)]=some (.exit 4,[(80,.w (Bo false)),(5,.w (W 0)),(7,.w (W m.qE.length)),(1,.w (Pt 0))],[bx 5 (zf m)]):=by
  have q:=zpE (L:=L) (Cs:=Cs) (b:=zbX) (live:=some [5,7,1]) (n0:=1) m.qE (fun i=>[(5,.w (W 0)),(7,.w (W i)),(1,.w (Pt 0))]) [bx 5 (zf m)] (fun _=>false) (.ret,[],[]) (.exit 4,[(80,.w (Bo false)),(5,.w (W 0)),(7,.w (W m.qE.length)),(1,.w (Pt 0))],[bx 5 (zf m)]) ?_ ?_ ?_
  ·simpa using q
  ·intro i hi _;have hw:=zB (i:=i) (by omega);have hc:=h5 m.qE[i] (je hi);obtain⟨a,b,hxy⟩:=hzp _ (je hi);rw[hxy]at hc;simp only[zf]at hc;rw[zj zbX.eq_1];simp[zf,hi,hw,hc,hxy]
  ·intro i hi hp;cases hp
  ·rw[zj zbX.eq_1];simp[zf]
 have k4:Y L Cs zbW (some [5,8,1]) 1 [(5,.w (W 0)),(8,.w (W (0:Nat))),(1,.w (Pt 0))] [bx 5 (zf m)]=some (.exit 6,[(98,.w (Bo false)),(5,.w (W e)),(8,.w (W m.kE.length)),(1,.w (Pt 0))],[bx 5 (zf m)]):=by
  rcases h6 with⟨h6,rfl⟩ |⟨w,e1,h6⟩
  ·have q:=zpE (L:=L) (Cs:=Cs) (b:=zbW) (live:=some [5,8,1]) (n0:=1) m.kE (fun i=>[(5,.w (W 0)),(8,.w (W i)),(1,.w (Pt 0))]) [bx 5 (zf m)] (fun _=>false) (.ret,[],[]) (.exit 6,[(98,.w (Bo false)),(5,.w (W 0)),(8,.w (W m.kE.length)),(1,.w (Pt 0))],[bx 5 (zf m)]) ?_ ?_ ?_
   ·simpa using q
   ·intro i hi _;have hw:=zB (i:=i) (by omega);have hc:=h6 m.kE[i] (je hi);simp only[zf,zaL]at hc;rw[zj zbW.eq_1];simp[zf,hi,hw,hc,zaL]
   ·intro i hi hp;cases hp
   ·rw[zj zbW.eq_1];simp[zf]
  ·simp only[zf,e1,kN,vk,zaL]at h6;have w1:IntKind.i64.wrap 1=1:=rfl;rw[zj zbW.eq_1];simp[zf,e1,h6,zaL,w1];rw[zj zbW.eq_1];by_cases he:e=0
   ·simp[e1,he]
   ·have he':(e==0)=false:=by simp[he]
    simp[e1,he,he']
 simp only[zf,jg]at k1 k2 k3 k4 h3;rw[zUa zk7 rfl];simp[zeJ,zf,hW,a1,a2,l0,l1,l2,l3,l4,l9,k1,k2,k3,k4,h3]
def okI(r:Option (AV×Mem))(n:Int):Bool:=match r with
 |some (.w (.c (.int .i64 x)),[])=>x==n
 |_=>false
theorem zaq{f:FuncId}{a:List WV}{n:Int}(h:okI (zaH L Cs 400 f a []) n=true):R L Cs f a []=some (.w (W n),[]):=by
 refine zah.2 ⟨400,?_⟩;unfold okI at h;split at h
 ·rename_i x e;have:x=n:=by simpa using h
  rw[e,this]
 ·cases h
def BP:List Int:=[1500,600,1000,300]
def zdD(v:Int)(k:Nat)(lim:Int)(Z S Wk:List (List Cl)):WV:=.a [I v,.jb ((zy k lim).map zo),.jb Z,.jb S,.jb Wk]
theorem rs2(v lim:Int)(Z S Wk:List (List Cl)):((List.range 31).all fun o=>okI (zaH L Cs 400 zV [zdD v 2 lim Z S Wk,.a (zaY o 0 1)] []) 0)=true:=by kernel_rfl
theorem kz2(v lim:Int)(s:List Cl)(Wk:List (List Cl)):((List.range 2).all fun r=>okI (zaH L Cs 400 zR [zdD v 2 lim (zO 2 r) [s] Wk] []) 0&&(zO 2 r).all fun z=>okI (zaH L Cs 400 zJ [zdD v 2 lim (zO 2 r) [s] Wk,.a z] []) 0)=true:=by kernel_rfl
theorem rs6(v lim:Int)(Z S Wk:List (List Cl)):((List.range 31).all fun o=>okI (zaH L Cs 400 zV [zdD v 6 lim Z S Wk,.a (zaY o 1 3)] []) 0&&okI (zaH L Cs 400 zV [zdD v 6 lim Z S Wk,.a (zaY o 2 3)] []) 0)=true:=by kernel_rfl
theorem kz6(v lim:Int)(Wk:List (List Cl)):(okI (zaH L Cs 400 zR [zdD v 6 lim (zO 6 0) [] Wk] []) 0&&(zO 6 0).all fun z=>okI (zaH L Cs 400 zJ [zdD v 6 lim (zO 6 0) [] Wk,.a z] []) 0)=true:=by kernel_rfl
theorem kz6b(v lim:Int)(s s':List Cl)(Wk:List (List Cl)):(okI (zaH L Cs 400 zR [zdD v 6 lim (zO 6 1) [s,s'] Wk] []) 0&&(zO 6 1).all fun z=>okI (zaH L Cs 400 zJ [zdD v 6 lim (zO 6 1) [s,s'] Wk,.a z] []) 0)=true:=by kernel_rfl
theorem klP(k:Nat)(hk:k<7)(v:Int)(Z S Wk:List (List Cl)):(BP.all fun lim=>okI (zaH L Cs 400 zaU [zdD v k lim Z S Wk] []) 0)=true:=match k,hk with
 |0,_=>by kernel_rfl
 |1,_=>by kernel_rfl
 |2,_=>by kernel_rfl
 |3,_=>by kernel_rfl
 |4,_=>by kernel_rfl
 |5,_=>by kernel_rfl
 |6,_=>by kernel_rfl
theorem kjP(k:Nat)(hk:k<7)(v lim:Int)(Z S Wk:List (List Cl)):okI (zaH L Cs 400 zaM [zdD v k lim Z S Wk] []) 0=true:=match k,hk with
 |0,_=>by kernel_rfl
 |1,_=>by kernel_rfl
 |2,_=>by kernel_rfl
 |3,_=>by kernel_rfl
 |4,_=>by kernel_rfl
 |5,_=>by kernel_rfl
 |6,_=>by kernel_rfl
theorem kcP(k:Nat)(hk:k<7)(lim:Int):((zy k lim).all fun l=>okI (zaH L Cs 400 zaw [.a [zeT l]] []) l.len&&okI (zaH L Cs 400 zN [.a [zeT l]] []) l.len)=true:=match k,hk with
 |0,_=>by kernel_rfl
 |1,_=>by kernel_rfl
 |2,_=>by kernel_rfl
 |3,_=>by kernel_rfl
 |4,_=>by kernel_rfl
 |5,_=>by kernel_rfl
 |6,_=>by kernel_rfl
theorem rlP(k:Nat)(hk:k<7)(v:Int)(Z S Wk:List (List Cl)):(BP.all fun lim=>(List.range (zy k lim).length).all fun i=>okI (zaH L Cs 400 zav [zdD v k lim Z S Wk,W i] []) 0)=true:=match k,hk with
 |0,_=>by kernel_rfl
 |1,_=>by kernel_rfl
 |2,_=>by kernel_rfl
 |3,_=>by kernel_rfl
 |4,_=>by kernel_rfl
 |5,_=>by kernel_rfl
 |6,_=>by kernel_rfl
theorem rjP(k:Nat)(hk:k<7)(v lim:Int)(Z S Wk:List (List Cl)):okI (zaH L Cs 400 zau [zdD v k lim Z S Wk] []) 0=true:=match k,hk with
 |0,_=>by kernel_rfl
 |1,_=>by kernel_rfl
 |2,_=>by kernel_rfl
 |3,_=>by kernel_rfl
 |4,_=>by kernel_rfl
 |5,_=>by kernel_rfl
 |6,_=>by kernel_rfl
theorem kzP(k:Nat)(hk:k<6)(h2:k≠2)(v lim:Int)(Wk:List (List Cl)):((List.range 2).all fun r=>okI (zaH L Cs 400 zR [zdD v k lim (zO k r) [] Wk] []) 0&&(zO k r).all fun z=>okI (zaH L Cs 400 zJ [zdD v k lim (zO k r) [] Wk,.a z] []) 0)=true:=match k,hk with
 |0,_=>by kernel_rfl
 |1,_=>by kernel_rfl
 |2,_=>absurd rfl h2
 |3,_=>by kernel_rfl
 |4,_=>by kernel_rfl
 |5,_=>by kernel_rfl
def zhU(a b:Int):List (List Cl):=[[I 12,.jb [[I a]]],[I 5,.jb []],[I 9,.jb [[I b]]],[I 4,.jb []]]
abbrev zsZ(v:Int)(k:Nat)(lim:Int)(Z S Wk:List (List Cl)):List Cl:=[I v,.jb ((zy k lim).map zo),.jb Z,.jb S,.jb Wk]
theorem cf1:zaH L Cs 400 zap [.c (.jb (zhU 0 1)),.c (.fn zc0 [] [])] []=some (.w (Bo false),[])/\zaH L Cs 400 zap [.c (.jb (zhU 1 3)),.c (.fn zc0 [] [])] []=some (.w (Bo false),[])/\zaH L Cs 400 zap [.c (.jb (zhU 2 3)),.c (.fn zc0 [] [])] []=some (.w (Bo false),[]):=⟨by kernel_rfl,by kernel_rfl,by kernel_rfl⟩
theorem cf2a(v lim:Int)(Z S Wk:List (List Cl)):zaH L Cs 400 zap [.c (.jb (zhU 0 1)),.c (.fn zcZ [] [.ptr 0 0 0 0])] [bx 5 (zsZ v 2 lim Z S Wk)]=some (.w (Bo false),[bx 5 (zsZ v 2 lim Z S Wk)]):=by kernel_rfl
theorem cf2b(v lim:Int)(Z S Wk:List (List Cl)):zaH L Cs 400 zap [.c (.jb (zhU 1 3)),.c (.fn zcZ [] [.ptr 0 0 0 0])] [bx 5 (zsZ v 6 lim Z S Wk)]=some (.w (Bo false),[bx 5 (zsZ v 6 lim Z S Wk)]):=by kernel_rfl
theorem cf2c(v lim:Int)(Z S Wk:List (List Cl)):zaH L Cs 400 zap [.c (.jb (zhU 2 3)),.c (.fn zcZ [] [.ptr 0 0 0 0])] [bx 5 (zsZ v 6 lim Z S Wk)]=some (.w (Bo false),[bx 5 (zsZ v 6 lim Z S Wk)]):=by kernel_rfl
theorem zha{m:zD}(hn:m.signals.length<=10)(h:∀s∈m.signals,∃o a b,s=zaY o a b/\0<=o/\o<=1099511627776 /\
   R L Cs zap [.c (.jb (zhU a b)),.c (.fn zc0 [] [])] []=some (.w (Bo false),[]) /\
   R L Cs zap [.c (.jb (zhU a b)),.c (.fn zcZ [] [.ptr 0 0 0 0])] [bx 5 (zf m)]=some (.w (Bo false),[bx 5 (zf m)])) :
  R L Cs zao [.a (zf m)] []=some (.w (W 0),[]):=by
 have q:=zpE (L:=L) (Cs:=Cs) (b:=zcM) (live:=some [9,8,1,10]) (n0:=1) m.signals (fun i=>[(9,.w (W m.signals.length)),(8,.w (.c (.jb m.signals))),(1,.w (Pt 0)),(10,.w (W i))]) [bx 5 (zf m)] (fun _=>false) (.ret,[],[]) (.exit 0,[(11,.w (Bo false)),(1,.w (Pt 0)),(8,.w (.c (.jb m.signals))),(9,.w (W m.signals.length)),(10,.w (W m.signals.length))],[bx 5 (zf m)]) ?_ ?_ ?_
 ·simp only[zf,jg]at q;simp at q;rw[zUa zlv rfl];simp[zeX,zf,q]
 ·intro i hi _;have hw:=zB (i:=i) (by omega);obtain⟨o,a,b,hs,o1,o2,c1,c2⟩:=h _ (je hi);have hW:=ziD o 0 1099511627776;simp only[zf,zhU]at c1 c2;rw[zj zcM.eq_1];simp[zf,hi,hw,hs,zaY,hW,o1,o2,c1,c2]
 ·intro i hi hp;cases hp
 ·rw[zj zcM.eq_1];simp[zf]
theorem zBY{m:zD}{n:Nat}(hn:n<m.jc.length)(hlen:R L Cs zaw [.a [zeT m.jc[n]]] []=some (.w (W m.jc[n].len),[])):R L Cs zkE [.a (zf m),W n] []=some (.w (W m.jc[n].len),[]):=by
 simp only[zeT]at hlen;rw[zUa zou rfl];simp[zh5,zf,hn,zo,hlen]
def WkV(m:zD)(w:zCP):Prop:=∃(j:Nat) (h:j<m.jc.length),w.lane=j/\0<=w.lo/\w.lo<=w.hi/\w.hi<=m.jc[j].len/\0<=w.Bw/\w.Bw<w.ends/\w.ends<=1099511627776/\0<=w.vC/\w.vC<=zeR m.jc[j].kind
theorem zkY{m:zD}(hlen:∀l∈m.jc,R L Cs zaw [.a [zeT l]] []=some (.w (W l.len),[]))(hk:∀l∈m.jc,l.kind=1\/l.kind=2\/l.kind=3)(hwl:m.kE.length<=8)(hw:∀w∈m.kE,WkV m w):R L Cs zec [.a (zf m)] []=some (.w (W 0),[]):=by
 have q:=zpE (L:=L) (Cs:=Cs) (b:=zdm) (live:=some [12,11,10,1]) (n0:=1) m.kE (fun i=>[(12,.w (W i)),(11,.w (W m.kE.length)),(10,.w (.c (.jb (m.kE.map zaL)))),(1,.w (Pt 0))]) [bx 5 (zf m)] (fun _=>false) (.ret,[],[]) (.exit 0,[(13,.w (Bo false)),(12,.w (W m.kE.length)),(11,.w (W m.kE.length)),(10,.w (.c (.jb (m.kE.map zaL)))),(1,.w (Pt 0))],[bx 5 (zf m)]) ?_ ?_ ?_
 ·simp only[zf,jg]at q;simp at q;rw[zUa zmZ rfl];simp[zfE,zf,q]
 ·intro i hi _;obtain⟨j,hj,e,x1,x2,x3,x4,x5,x6,x7,x8⟩:=hw _ (je hi);have hww:=zB (i:=i) (by omega);have hB:=zmo (hk _ (je hj));have hL:=zBY hj (hlen _ (je hj));have hW:=ziD m.kE[i].vC 0 (zeR m.jc[j].kind);simp only[zf]at hL;generalize hwi:m.kE[i]=w at *;obtain⟨w1,w2,w3,w4,w5,w6⟩:=w;simp only at e x1 x2 x3 x4 x5 x6 x7 x8 hW;subst e;generalize zeR m.jc[j].kind=tv at *;have y0:¬(m.jc.length:Int)<=(j:Int):=by omega
  have yj:¬(j:Int)<0:=by omega
  have y1:¬w2<0:=by omega
  have y2:¬w3<w2:=by omega
  have y3:¬m.jc[j].len<w3:=by omega
  have y4:¬w4<0:=by omega
  have y5:¬w5<=w4:=by omega
  have y6:¬(1099511627776:Int)<w5:=by omega
  rw[zj zdm.eq_1];simp[zf,hi,hww,hwi,zaL,hj,zo,hB,hL,hW,yj,y0,y1,y2,y3,y4,y5,y6,x7,x8]
 ·intro i hi hp;cases hp
 ·rw[zj zdm.eq_1];simp[zf]
theorem zga{m:zD}(hlen:∀l∈m.jc,R L Cs zN [.a [zeT l]] []=some (.w (W l.len),[]))(hk:∀l∈m.jc,l.kind=1\/l.kind=2\/l.kind=3){w:zCP}(hw:WkV m w) :
  R L Cs zfh [.a (zf m),.a (zaL w)] []=some (.w (W 0),[]):=by
 obtain⟨j,hj,e,x1,x2,x3,x4,x5,x6,x7,x8⟩:=hw;have hB:=zhv (hk _ (je hj));have hL:=hlen _ (je hj);have hW:=zmm w.vC 0 (zeR m.jc[j].kind);simp only[zeT]at hL;obtain⟨w1,w2,w3,w4,w5,w6⟩:=w;simp only at e x1 x2 x3 x4 x5 x6 x7 x8 hW;subst e;generalize zeR m.jc[j].kind=tv at *;have y0:¬(m.jc.length:Int)<=(j:Int):=by omega
 have yj:¬(j:Int)<0:=by omega
 have y1:¬w2<0:=by omega
 have y2:¬w3<w2:=by omega
 have y3:¬m.jc[j].len<w3:=by omega
 have y4:¬w4<0:=by omega
 have y5:¬w5<=w4:=by omega
 have y6:¬(1099511627776:Int)<w5:=by omega
 rw[zUa ziH rfl];simp[zdF,zf,zaL,hj,zo,hB,hL,hW,yj,y0,y1,y2,y3,y4,y5,y6,x7,x8]
structure NumsO(k:Nat)(lim r o1 o2 o3 v:Int)(ws:List zCP):Prop where
 lim:lim∈BP
 r:r=0\/r=1
 o1:0<=o1/\o1<31
 o2:0<=o2/\o2<31
 o3:0<=o3/\o3<17
 v:0<=v/\v<5
 wl:ws.length<=1
structure zp2(k:Nat)(l0 r0 p1 p2 p3 v0:Int)(ws:List zCP):Prop extends NumsO k l0 r0 p1 p2 p3 v0 ws where
 wv:∀x∈ws,WkV (zq k l0 r0 p1 p2 p3 v0 ws) x
structure z6(m:zD):Prop where
 qF:(∀x∈m.kE,WkV m x)->zcp m
 bad:∀w e,m.kE=[w]->R L Cs zfh [.a (zf m),.a (zaL w)] []=some (.w (W e),[])->R L Cs zeE [.a (zf m)] []=some (.w (W e),[])
theorem zky{lim:Int}(h:lim∈BP):1<=lim/\lim<=2000:=by simp[BP]at h;omega
theorem zTr(k:Nat)(hk:k<7){lim r o1 o2 o3 v:Int}{ws:List zCP}(h:NumsO k lim r o1 o2 o3 v ws)(hz:R L Cs zR [.a (zf (zq k lim r o1 o2 o3 v ws))] []=some (.w (W 0),[])/\∀z∈(zq k lim r o1 o2 o3 v ws).qE,R L Cs zJ [.a (zf (zq k lim r o1 o2 o3 v ws)),.a z] []=some (.w (W 0),[]))(hs:R L Cs zao [.a (zf (zq k lim r o1 o2 o3 v ws))] []=some (.w (W 0),[]))(hrs:∀s∈(zq k lim r o1 o2 o3 v ws).signals,R L Cs zV [.a (zf (zq k lim r o1 o2 o3 v ws)),.a s] []=some (.w (W 0),[]))(hsp:∀s∈(zq k lim r o1 o2 o3 v ws).signals,∃o ps,s=[I o,.jb ps]):z6 (zq k lim r o1 o2 o3 v ws):=by
 have hlim:=zky h.lim;have hv:=h.v;have hsz:zon (zq k lim r o1 o2 o3 v ws):={
  v1:=hv.1
  v2:=by show v<=_;omega
  l1:=by match k,hk with |0,_ |1,_ |2,_ |3,_ |4,_ |5,_ |6,_=>simp[zq,zy]
  l2:=by match k,hk with |0,_ |1,_ |2,_ |3,_ |4,_ |5,_ |6,_=>simp[zq,zy]
  z:=by match k,hk with |0,_ |1,_ |2,_ |3,_ |4,_ |5,_ |6,_=>simp[zq,zO]
  s:=by match k,hk with |0,_ |1,_ |2,_ |3,_ |4,_ |5,_ |6,_=>(simp only[zq,zt];first |(split<;>simp) |simp)
  w:=by have:=h.wl;show ws.length<=8;omega }
 have hlen:∀l∈(zq k lim r o1 o2 o3 v ws).jc,R L Cs zaw [.a [zeT l]] []=some (.w (W l.len),[]):=fun l hl=>by
  have:=jz.1 (kcP k hk lim) l hl;rw[jl]at this;exact zaq this.1
 have hrlen:∀l∈(zq k lim r o1 o2 o3 v ws).jc,R L Cs zN [.a [zeT l]] []=some (.w (W l.len),[]):=fun l hl=>by
  have:=jz.1 (kcP k hk lim) l hl;rw[jl]at this;exact zaq this.2
 have hkd:∀l∈(zq k lim r o1 o2 o3 v ws).jc,l.kind=1\/l.kind=2\/l.kind=3:=by match k,hk with |0,_ |1,_ |2,_ |3,_ |4,_ |5,_ |6,_=>simp[zq,zy,zQ]
 have h0:0<(zq k lim r o1 o2 o3 v ws).jc.length:=hsz.l1;have hzp:∀s∈(zq k lim r o1 o2 o3 v ws).qE,∃ps o,s=[.jb ps,I o]:=by
  match k,hk with
  |0,_ |1,_ |2,_ |3,_ |4,_ |5,_ |6,_ =>
   intro s hs;simp[zq,zO]at hs
   try(first |(rcases hs with hs |hs<;>(subst hs;exact⟨_,_,rfl⟩)) |(subst hs;exact⟨_,_,rfl⟩))
 have hR:=fun e=>zd1 hsz (fun i hi=>zaq (jz.1 (jz.1 (rlP k hk v (zO k r) (zt k r o1 o2 o3) ((ws).map zaL)) lim h.lim) i (qN.2 hi))) (zaq (rjP k hk v lim (zO k r) (zt k r o1 o2 o3) ((ws).map zaL))) hsp hzp hrs hz.2 e
 refine⟨fun hwv=>{
  small:=⟨by match k,hk with |0,_ |1,_ |2,_ |3,_ |4,_ |5,_ |6,_=>simp[zq,zy],by match k,hk with |0,_ |1,_ |2,_ |3,_ |4,_ |5,_ |6,_=>simp[zq,zy,zQ],by match k,hk with |0,_ |1,_ |2,_ |3,_ |4,_ |5,_ |6,_=>simp[zq,zy,zQ]⟩
  chk:=zgb (zhb hsz) (zaq (jz.1 (klP k hk v (zO k r) (zt k r o1 o2 o3) ((ws).map zaL)) lim h.lim)) (zaq (kjP k hk v lim (zO k r) (zt k r o1 o2 o3) ((ws).map zaL))) hs hz.1
   (zkY hlen hkd hsz.w hwv)
  AP:=hR 0 (.inl ⟨fun x hx=>zga hrlen hkd (hwv x hx),rfl⟩)
  len:=hlen
  rlen:=hrlen
  len1:=by match k,hk with |0,_ |1,_ |2,_ |3,_ |4,_ |5,_ |6,_=>simp[zq,zy,zQ]
  kind:=hkd
  vC:=by match k,hk with |0,_ |1,_ |2,_ |3,_ |4,_ |5,_ |6,_=>(simp[zq,zy,zQ];try omega) },fun w e e1 e2=>hR e (.inr ⟨w,e1,e2⟩)⟩
theorem zTo(k:Nat)(hk:k<7){lim r o1 o2 o3 v:Int}{ws:List zCP}(h:NumsO k lim r o1 o2 o3 v ws)(hn:zt k r o1 o2 o3=[])(kz:∀Wk:List (List Cl),((List.range 2).all fun r=>okI (zaH L Cs 400 zR [zdD v k lim (zO k r) [] Wk] []) 0&&(zO k r).all fun z=>okI (zaH L Cs 400 zJ [zdD v k lim (zO k r) [] Wk,.a z] []) 0)=true):z6 (zq k lim r o1 o2 o3 v ws):=by
 have e:(zq k lim r o1 o2 o3 v ws).signals=[]:=hn;refine zTr k hk h ?_ (zha (by rw[e];simp) (fun s hs=>by rw[e]at hs;cases hs)) (fun s hs=>by rw[e]at hs;cases hs) (fun s hs=>by rw[e]at hs;cases hs);have em:zf (zq k lim r o1 o2 o3 v ws)=[I v,.jb ((zy k lim).map zo),.jb (zO k r),.jb [],.jb ((ws).map zaL)]:=by rw[<-hn];rfl
 rw[em];have q0:=jz.1 (kz ((ws).map zaL));rcases h.r with hr|hr
 ·subst hr;have q:=q0 0 (by simp);rw[jl]at q;exact⟨zaq q.1,fun z hz=>zaq (jz.1 q.2 z hz)⟩
 ·subst hr;have q:=q0 1 (by simp);rw[jl]at q;exact⟨zaq q.1,fun z hz=>zaq (jz.1 q.2 z hz)⟩
theorem good2{lim r o1 o2 o3 v:Int}{ws:List zCP}(h:NumsO 2 lim r o1 o2 o3 v ws):z6 (zq 2 lim r o1 o2 o3 v ws):=by
 have hz:R L Cs zR [.a (zf (zq 2 lim r o1 o2 o3 v ws))] []=some (.w (W 0),[])/\∀z∈(zq 2 lim r o1 o2 o3 v ws).qE,R L Cs zJ [.a (zf (zq 2 lim r o1 o2 o3 v ws)),.a z] []=some (.w (W 0),[]):=by
  have q0:=jz.1 (kz2 v lim (zaY o1 0 1) ((ws).map zaL));rcases h.r with hr|hr
  ·subst hr;have q:=q0 0 (by simp);rw[jl]at q;exact⟨zaq q.1,fun z hz=>zaq (jz.1 q.2 z hz)⟩
  ·subst hr;have q:=q0 1 (by simp);rw[jl]at q;exact⟨zaq q.1,fun z hz=>zaq (jz.1 q.2 z hz)⟩
 have hs:R L Cs zao [.a (zf (zq 2 lim r o1 o2 o3 v ws))] []=some (.w (W 0),[]):=zha (by simp[zq,zt]) (fun s hs=>by
  simp[zq,zt]at hs;subst hs;exact⟨o1,0,1,rfl,h.o1.1,by have:=h.o1.2;omega,zah.2 ⟨400,cf1.1⟩,zah.2 ⟨400,cf2a v lim _ _ _⟩⟩)
 have hrs:∀s∈(zq 2 lim r o1 o2 o3 v ws).signals,R L Cs zV [.a (zf (zq 2 lim r o1 o2 o3 v ws)),.a s] []=some (.w (W 0),[]):=fun s hs=>by
  simp[zq,zt]at hs;subst hs;obtain⟨n,hn⟩:=js h.o1.1;subst hn;exact zaq (jz.1 (rs2 v lim _ _ _) n (qN.2 (by have:=h.o1.2;omega)))
 have hsp:∀s∈(zq 2 lim r o1 o2 o3 v ws).signals,∃o ps,s=[I o,.jb ps]:=fun s hs=>by
  simp[zq,zt]at hs;subst hs;exact⟨_,_,rfl⟩
 exact zTr 2 (by decide) h hz hs hrs hsp
theorem good6{lim r o1 o2 o3 v:Int}{ws:List zCP}(h:NumsO 6 lim r o1 o2 o3 v ws):z6 (zq 6 lim r o1 o2 o3 v ws):=by
 have hv:=h.v;have hsz:zon (zq 6 lim r o1 o2 o3 v ws):={
  v1:=hv.1
  v2:=by show v<=_;omega
  l1:=by simp[zq,zy]
  l2:=by simp[zq,zy]
  z:=by simp[zq,zO]
  s:=by simp only[zq,zt];first |(split<;>simp) |simp
  w:=by have:=h.wl;show ws.length<=8;omega }
 have hz:R L Cs zR [.a (zf (zq 6 lim r o1 o2 o3 v ws))] []=some (.w (W 0),[])/\∀z∈(zq 6 lim r o1 o2 o3 v ws).qE,R L Cs zJ [.a (zf (zq 6 lim r o1 o2 o3 v ws)),.a z] []=some (.w (W 0),[]):=by
  rcases h.r with hr|hr
  ·subst hr;have q:=kz6 v lim ((ws).map zaL);rw[jl]at q;exact⟨zaq q.1,fun z hz=>zaq (jz.1 q.2 z hz)⟩
  ·subst hr;have q:=kz6b v lim (zaY o2 1 3) (zaY o3 2 3) ((ws).map zaL);rw[jl]at q;exact⟨zaq q.1,fun z hz=>zaq (jz.1 q.2 z hz)⟩
 have hs:R L Cs zao [.a (zf (zq 6 lim r o1 o2 o3 v ws))] []=some (.w (W 0),[]):=zha (by have:=hsz.s;omega) (fun s hs=>by
  rcases h.r with hr|hr
  ·subst hr;simp[zq,zt]at hs
  ·subst hr;simp[zq,zt]at hs;rcases hs with hs|hs
   ·subst hs;exact⟨o2,1,3,rfl,h.o2.1,by have:=h.o2.2;omega,zah.2 ⟨400,cf1.2.1⟩,zah.2 ⟨400,cf2b v lim _ _ _⟩⟩
   ·subst hs;exact⟨o3,2,3,rfl,h.o3.1,by have:=h.o3.2;omega,zah.2 ⟨400,cf1.2.2⟩,zah.2 ⟨400,cf2c v lim _ _ _⟩⟩)
 have hrs:∀s∈(zq 6 lim r o1 o2 o3 v ws).signals,R L Cs zV [.a (zf (zq 6 lim r o1 o2 o3 v ws)),.a s] []=some (.w (W 0),[]):=fun s hs=>by
  rcases h.r with hr|hr
  ·subst hr;simp[zq,zt]at hs
  ·subst hr;simp[zq,zt]at hs;rcases hs with hs|hs
   ·subst hs;obtain⟨n,hn⟩:=js h.o2.1;subst hn;have q:=jz.1 (rs6 v lim (zO 6 1) (zt 6 1 o1 n o3) ((ws).map zaL)) n (qN.2 (by have:=h.o2.2;omega));rw[jl]at q;exact zaq q.1
   ·subst hs;obtain⟨n,hn⟩:=js h.o3.1;subst hn;have q:=jz.1 (rs6 v lim (zO 6 1) (zt 6 1 o1 o2 n) ((ws).map zaL)) n (qN.2 (by have:=h.o3.2;omega));rw[jl]at q;exact zaq q.2
 have hsp:∀s∈(zq 6 lim r o1 o2 o3 v ws).signals,∃o ps,s=[I o,.jb ps]:=fun s hs=>by
  rcases h.r with hr|hr
  ·subst hr;simp[zq,zt]at hs
  ·subst hr;simp[zq,zt]at hs;rcases hs with hs|hs
   ·subst hs;exact⟨_,_,rfl⟩
   ·subst hs;exact⟨_,_,rfl⟩
 exact zTr 6 (by decide) h hz hs hrs hsp
theorem zV9(k:Nat)(hk:k<7){lim r o1 o2 o3 v:Int}{ws:List zCP}(h:NumsO k lim r o1 o2 o3 v ws):z6 (zq k lim r o1 o2 o3 v ws):=match k,hk with
 |0,_=>zTo 0 (by decide) h rfl (kzP 0 (by decide) (by decide) v lim)
 |1,_=>zTo 1 (by decide) h rfl (kzP 1 (by decide) (by decide) v lim)
 |2,_=>good2 h
 |3,_=>zTo 3 (by decide) h rfl (kzP 3 (by decide) (by decide) v lim)
 |4,_=>zTo 4 (by decide) h rfl (kzP 4 (by decide) (by decide) v lim)
 |5,_=>zTo 5 (by decide) h rfl (kzP 5 (by decide) (by decide) v lim)
 |6,_=>good6 h
theorem zTy(k:Nat)(hk:k<7){lim r o1 o2 o3 v:Int}{ws:List zCP}(h:zp2 k lim r o1 o2 o3 v ws):zcp (zq k lim r o1 o2 o3 v ws):=(zV9 k hk h.toNumsO).qF h.wv
theorem zz4(j:Nat):zeC j∈BP:=by
 unfold zeC BP;split<;>simp
theorem zV6(k:Nat)(hk:k<7)(lim r o1 o2 o3 v w b t:Int)(hb:0<=b/\b<40)(ht:0<=t/\t<3):∀x∈zak w b t,WkV (zq k lim r o1 o2 o3 v (zak w b t)) x:=by
 intro x hx;unfold zak at hx;split at hx
 ·obtain rfl:=jJ.1 hx;have hL:∃h0:0<(zq k lim r o1 o2 o3 v (zak w b t)).jc.length,(zq k lim r o1 o2 o3 v (zak w b t)).jc[0].kind=1/\15000<=(zq k lim r o1 o2 o3 v (zak w b t)).jc[0].len:=by match k,hk with |0,_ |1,_ |2,_ |3,_ |4,_ |5,_ |6,_=>simp[zq,zy,zQ]
  obtain⟨h0,h1,h2⟩:=hL;refine⟨0,h0,rfl,by simp only;omega,by simp only;omega,h2,hb.1,by simp only;omega,by simp only;omega,by simp only;omega,?_⟩;rw[h1];show t*200<=2000;omega
 ·cases hx
theorem z7(w b t:Int):(zak w b t).length<=1:=by unfold zak;split<;>simp
theorem zBA(n:Int)(k:Nat)(hk:k<7):zp2 k (zeC (((n % 16777216).tdiv 7).tmod 4).toNat) (((n % 16777216).tdiv 28).tmod 2) (((n % 16777216).tdiv 28).tmod 31) (((n % 16777216).tdiv 56).tmod 31) (((n % 16777216).tdiv 56).tmod 17) (((n % 16777216).tdiv 28).tmod 5) (zak (((n % 16777216).tdiv 1736).tmod 3) (((n % 16777216).tdiv 5208).tmod 40) (((n % 16777216).tdiv 208320).tmod 3)):=by
 have hN:0<=n % 16777216/\n % 16777216<16777216:=by omega
 have hr:=zE _ 28 2 hN (by decide) (by decide);exact⟨⟨zz4 _,by omega,zE _ 28 31 hN (by decide) (by decide),zE _ 56 31 hN (by decide) (by decide),zE _ 56 17 hN (by decide) (by decide),zE _ 28 5 hN (by decide) (by decide),z7 _ _ _⟩,zV6 k hk _ _ _ _ _ _ _ _ _ (zE _ 5208 40 hN (by decide) (by decide)) (zE _ 208320 3 hN (by decide) (by decide))⟩
abbrev zmN:Sh:=.int .i64
def zk0(n:Int):Prop:=-9223372036854775808<=n/\n<=9223372036854775807
structure RB(b:zk):Prop where
 lane:zk0 b.lane
 lo:zk0 b.lo
 hi:zk0 b.hi
 vlo:zk0 b.vlo
 vhi:zk0 b.vhi
 hold:zk0 b.hold
theorem RB.ok{b:zk}(h:RB b):OKB b:=⟨h.lo.1,h.lo.2,h.hi.1,h.hi.2⟩
def zQf(x lo hi tick:Int)(w:zCP):Bool:=decide (w.lane=x)&&decide (w.lo<=hi)&&decide (lo<=w.hi)&&decide (w.Bw<=tick)&&decide (tick<w.ends)
def zOx(x lo hi tick:Int)(n:Int)(w:zCP):Int:=if zQf x lo hi tick w=true then min n w.vC else n
def zLS(m:zD)(x:Int):Int:=((m.jc[x.toNat]?).map zfn.vC).getD 0
def zNi(m:zD)(fr to tick a out x:Int):Int :=
 if max 0 (fr-a)>min (to-a) (z8 m x) then out else
 if out<0\/m.kE.foldl (zOx x (max 0 (fr-a)) (min (to-a) (z8 m x)) tick) (zLS m x)<out then m.kE.foldl (zOx x (max 0 (fr-a)) (min (to-a) (z8 m x)) tick) (zLS m x) else out
def zNU(m:zD)(fr to tick:Int):Int->Int->List Int->Int
 |_,out,[]=>out
 |a,out,x::r=>zNU m fr to tick (a+z8 m x) (zNi m fr to tick a out x) r
theorem zOw{m:zD}(hw:m.kE.length<=1000)(l:List Int)(nn to fr len i out tick x lo hi:Int)(q0:List (List Cl))(n:Int) :
  Y L Cs zIw (some [14,60,59,4,2,1,18,19,20,9,58,11,13,12,3]) 1 [(14,.w (W n)),(60,.w (W (0:Nat))),(59,.w (W m.kE.length)),(4,.w (Pt 0)),(2,.w (W to)),(1,.w (W fr)),(18,.w (.c (.jb q0))),(19,.w (W len)),(20,.w (W i)),(9,.w (W out)),(58,.w (.c (.jb (m.kE.map zaL)))),(11,.w (W x)),(13,.w (W hi)),(12,.w (W lo)),(3,.w (W tick))] [bx 11 (zh m l nn)] =
    some (.exit 2,[(61,.w (Bo false)),(14,.w (W (m.kE.foldl (zOx x lo hi tick) n))),(60,.w (W m.kE.length)),(59,.w (W m.kE.length)),(4,.w (Pt 0)),(2,.w (W to)),(1,.w (W fr)),(18,.w (.c (.jb q0))),(19,.w (W len)),(20,.w (W i)),(9,.w (W out)),(58,.w (.c (.jb (m.kE.map zaL)))),(11,.w (W x)),(13,.w (W hi)),(12,.w (W lo)),(3,.w (W tick))],[bx 11 (zh m l nn)]):=by
 have q:=zPH (L:=L) (Cs:=Cs) (b:=zIw) (live:=some [14,60,59,4,2,1,18,19,20,9,58,11,13,12,3]) (n0:=1) m.kE
  (fun k s=>[(14,.w (W s)),(60,.w (W k)),(59,.w (W m.kE.length)),(4,.w (Pt 0)),(2,.w (W to)),(1,.w (W fr)),(18,.w (.c (.jb q0))),(19,.w (W len)),(20,.w (W i)),(9,.w (W out)),(58,.w (.c (.jb (m.kE.map zaL)))),(11,.w (W x)),(13,.w (W hi)),(12,.w (W lo)),(3,.w (W tick))]) (fun _ _=>[bx 11 (zh m l nn)]) (fun _ _=>True) (fun _=>zOx x lo hi tick)
  (fun s=>(.exit 2,[(61,.w (Bo false)),(14,.w (W s)),(60,.w (W m.kE.length)),(59,.w (W m.kE.length)),(4,.w (Pt 0)),(2,.w (W to)),(1,.w (W fr)),(18,.w (.c (.jb q0))),(19,.w (W len)),(20,.w (W i)),(9,.w (W out)),(58,.w (.c (.jb (m.kE.map zaL)))),(11,.w (W x)),(13,.w (W hi)),(12,.w (W lo)),(3,.w (W tick))],[bx 11 (zh m l nn)])) ?_ ?_ (s0:=n) trivial
 ·rw[zMd]at q;exact q
 ·intro k hk s _;refine⟨trivial,?_⟩;have hww:=zB (i:=k) (by omega);simp only[zh,zi];rw[zj zIw.eq_1];generalize hwk:m.kE[k]=w;obtain⟨wl,wf,wt,wb,we,wm⟩:=w;simp only[zOx,zQf];by_cases c1:wl=x
  ·by_cases c2:wf<=hi
   ·by_cases c3:lo<=wt
    ·by_cases c4:wb<=tick
     ·by_cases c5:tick<we
      ·simp[hk,hwk,hww,zaL,c1,c2,c3,c4,c5]
      ·simp[hk,hwk,hww,zaL,c1,c2,c3,c4,c5]
     ·simp[hk,hwk,hww,zaL,c1,c2,c3,c4]
    ·simp[hk,hwk,hww,zaL,c1,c2,c3]
   ·simp[hk,hwk,hww,zaL,c1,c2]
  ·have b1:(wl==x)=false:=by simp[c1]
   simp[hk,hwk,hww,zaL,c1,b1]
 ·intro s _;simp only[zh,zi];rw[zj zIw.eq_1];simp
theorem zOv{m:zD}(h:zcp m)(hwk:m.kE.length<=1000)(l:List Int)(hl:l.length<=1000)(hon:zj2 m l)(nn fr to tick:Int)(hfr:0<=fr/\fr<=10000000000)(hto:0<=to/\to<=10000000000):∀(r:List Int) (i:Nat) (out a:Int),l.drop i=r->i<=l.length->(zW m 0 l).drop i=zW m a r->0<=a->a<=i*1000000 ->
  Y L Cs zIv (some [20,19,18,1,2,3,9,4]) 1 [(20,.w (W i)),(19,.w (W l.length)),(18,.w (.c (.jb (zu l)))),(1,.w (W fr)),(2,.w (W to)),(3,.w (W tick)),(9,.w (W out)),(4,.w (Pt 0))] [bx 11 (zh m l nn)] =
    some (.exit 0,[(21,.w (Bo false)),(20,.w (W l.length)),(19,.w (W l.length)),(18,.w (.c (.jb (zu l)))),(1,.w (W fr)),(2,.w (W to)),(3,.w (W tick)),(9,.w (W (zNU m fr to tick a out r))),(4,.w (Pt 0))],[bx 11 (zh m l nn)]):=by
 intro r;induction r with
 |nil =>
  intro i out a hd hi hs ha1 ha2;obtain rfl:=zUb hd hi;simp only[zh,zi];rw[zj zIv.eq_1];simp[zNU]
 |cons x r ih =>
  intro i out a hd hi hs ha1 ha2;obtain⟨hil,hx,hd'⟩:=zL hd;have hxm:=hon x (by rw[<-hx];exact je _);have hle:=zcX h hxm;have hw:=zB (i:=i) (by omega);obtain⟨n,rfl⟩:=js hxm.1;have hn:n<m.jc.length:=by omega
  have eL:z8 m n=m.jc[n].len:=by simp[z8,hn]
  have eM:zLS m n=m.jc[n].vC:=by simp[zLS,hn]
  rw[zW]at hs;obtain⟨hsl,hsx,hs'⟩:=zL hs;have hw1:=kg (fr-a);have hw2:=kg (to-a);have hin:=zOw (m:=m) hwk l nn to fr l.length i out tick n (max 0 (fr-a)) (min (to-a) (z8 m n)) (zu l) (zLS m n);have ih':=ih (i+1) (zNi m fr to tick a out n) (a+z8 m n) hd' hil hs' (by omega) (by omega);simp only[zNU];rw[<-ih'];simp only[zh,zi,jg]at hin ⊢;rw[zj zIv.eq_1];simp only[zNi];rw[eL,eM]at *;generalize hF:m.kE.foldl (zOx n (max 0 (fr-a)) (min (to-a) m.jc[n].len) tick) m.jc[n].vC=F at *;by_cases c1:min (to-a) m.jc[n].len<max 0 (fr-a)
  ·simp[hil,hx,hsl,hsx,hn,hw,hw1,hw2,c1,zo]
  ·by_cases c2:out<0
   ·simp[hil,hx,hsl,hsx,hn,hw,hw1,hw2,c1,c2,zo,hin]
   ·by_cases c3:F<out
    ·simp[hil,hx,hsl,hsx,hn,hw,hw1,hw2,c1,c2,c3,zo,hin]
    ·simp[hil,hx,hsl,hsx,hn,hw,hw1,hw2,c1,c2,c3,zo,hin]
theorem zEC{m:zD}(h:zcp m):∀(r:List Int) (a:Int),zj2 m r->0<=a->0<=zmd m a r/\zmd m a r<=a+r.length*1000000
 |[],a,_,ha=>by simp[zmd];exact ha
 |x::r,a,hon,ha=>by
  have hle:=zcX h (hon x (by simp));have:=zEC h r (a+z8 m x) (fun y hy=>hon y (by simp[hy])) (by omega);simp only[zmd,jk];omega
theorem zPh{m:zD}(h:zcp m)(hwk:m.kE.length<=1000)(l:List Int)(hl:l.length<=1000)(hon:zj2 m l)(nn fr to tick:Int)(hfr:0<=fr/\fr<=10000000000)(hto:0<=to/\to<=10000000000) :
  R L Cs zMX [.a (zh m l nn),W fr,W to,W tick] []=some (.w (W (max (zNU m fr to tick 0 (-1) l) 0)),[]):=by
 have hb:=zOv h hwk l hl hon nn fr to tick hfr hto l 0 (-1) 0 rfl (jt _) rfl (by omega) (by omega);simp only[zh,zi,jg]at hb ⊢;rw[zUa zM1 rfl];simp[zIQ,hb]
theorem zRx{m:zD}(hw:m.kE.length<=1000)(l:List Int)(q0:List (List Cl))(to fr i out tick x lo hi:Int)(n:Int)(i0:Nat)(hi0:i=(i0:Int))(hil:i0<l.length)(hx:l[i0]=x) :
  Y L Cs zJx (some [17,18,11,3,2,13,5,1,14,16,15,4]) 1 [(17,.w (W n)),(18,.w (W (0:Nat))),(11,.w (.c (.jb q0))),(3,.w (W to)),(2,.w (W fr)),(13,.w (W out)),(5,.w (Pt 0)),(1,.w (.c (.jb (zu l)))),(14,.w (W i)),(16,.w (W hi)),(15,.w (W lo)),(4,.w (W tick))] [bx 5 (zf m)] =
    some (.exit 2,[(68,.w (Bo false)),(17,.w (W (m.kE.foldl (zOx x lo hi tick) n))),(18,.w (W m.kE.length)),(11,.w (.c (.jb q0))),(3,.w (W to)),(2,.w (W fr)),(13,.w (W out)),(5,.w (Pt 0)),(1,.w (.c (.jb (zu l)))),(14,.w (W i)),(16,.w (W hi)),(15,.w (W lo)),(4,.w (W tick))],[bx 5 (zf m)]):=by
 have q:=zPH (L:=L) (Cs:=Cs) (b:=zJx) (live:=some [17,18,11,3,2,13,5,1,14,16,15,4]) (n0:=1) m.kE
  (fun k s=>[(17,.w (W s)),(18,.w (W k)),(11,.w (.c (.jb q0))),(3,.w (W to)),(2,.w (W fr)),(13,.w (W out)),(5,.w (Pt 0)),(1,.w (.c (.jb (zu l)))),(14,.w (W i)),(16,.w (W hi)),(15,.w (W lo)),(4,.w (W tick))]) (fun _ _=>[bx 5 (zf m)]) (fun _ _=>True) (fun _=>zOx x lo hi tick)
  (fun s=>(.exit 2,[(68,.w (Bo false)),(17,.w (W s)),(18,.w (W m.kE.length)),(11,.w (.c (.jb q0))),(3,.w (W to)),(2,.w (W fr)),(13,.w (W out)),(5,.w (Pt 0)),(1,.w (.c (.jb (zu l)))),(14,.w (W i)),(16,.w (W hi)),(15,.w (W lo)),(4,.w (W tick))],[bx 5 (zf m)])) ?_ ?_ (s0:=n) trivial
 ·rw[zMd]at q;exact q
 ·intro k hk s _;refine⟨trivial,?_⟩;have hww:=zB (i:=k) (by omega);subst hi0;simp only[zf];rw[zj zJx.eq_1];generalize hwk:m.kE[k]=w;obtain⟨wl,wf,wt,wb,we,wm⟩:=w;simp only[zOx,zQf];by_cases c1:wl=x
  ·by_cases c2:wf<=hi
   ·by_cases c3:lo<=wt
    ·by_cases c4:wb<=tick
     ·by_cases c5:tick<we
      ·simp[hk,hwk,hww,zaL,hil,hx,c1,c2,c3,c4,c5,zg]
      ·simp[hk,hwk,hww,zaL,hil,hx,c1,c2,c3,c4,c5,zg]
     ·simp[hk,hwk,hww,zaL,hil,hx,c1,c2,c3,c4,zg]
    ·simp[hk,hwk,hww,zaL,hil,hx,c1,c2,c3,zg]
   ·simp[hk,hwk,hww,zaL,hil,hx,c1,c2,zg]
  ·have b1:(wl==x)=false:=by simp[c1]
   simp[hk,hwk,hww,zaL,hil,hx,c1,b1,zg]
 ·intro s _;simp only[zf];rw[zj zJx.eq_1];simp
theorem zRw{m:zD}(h:zcp m)(hwk:m.kE.length<=1000)(l:List Int)(hl:l.length<=1000)(hon:zj2 m l)(fr to tick:Int)(hfr:0<=fr/\fr<=10000000000)(hto:0<=to/\to<=10000000000):∀(r:List Int) (i:Nat) (out a:Int),l.drop i=r->i<=l.length->(zW m 0 l).drop i=zW m a r->0<=a->a<=i*1000000 ->
  Y L Cs zJw (some [14,2,3,11,4,1,5,13]) 1 [(14,.w (W i)),(2,.w (W fr)),(3,.w (W to)),(11,.w (.c (.jb (zu (zW m 0 l))))),(4,.w (W tick)),(1,.w (.c (.jb (zu l)))),(5,.w (Pt 0)),(13,.w (W out))] [bx 5 (zf m)] =
    some (.exit 0,[(29,.w (Bo false)),(14,.w (W l.length)),(2,.w (W fr)),(3,.w (W to)),(11,.w (.c (.jb (zu (zW m 0 l))))),(4,.w (W tick)),(1,.w (.c (.jb (zu l)))),(5,.w (Pt 0)),(13,.w (W (zNU m fr to tick a out r)))],[bx 5 (zf m)]):=by
 intro r;induction r with
 |nil =>
  intro i out a hd hi hs ha1 ha2;obtain rfl:=zUb hd hi;simp only[zf];rw[zj zJw.eq_1];simp[zNU]
 |cons x r ih =>
  intro i out a hd hi hs ha1 ha2;obtain⟨hil,hx,hd'⟩:=zL hd;have hxm:=hon x (by rw[<-hx];exact je _);have hle:=zcX h hxm;have hw:=zB (i:=i) (by omega);obtain⟨n,rfl⟩:=js hxm.1;have hn:n<m.jc.length:=by omega
  have eL:z8 m n=m.jc[n].len:=by simp[z8,hn]
  have eM:zLS m n=m.jc[n].vC:=by simp[zLS,hn]
  have hLg:=zA3 h hn;rw[zW]at hs;obtain⟨hsl,hsx,hs'⟩:=zL hs;have hw1:=kg (fr-a);have hw2:=kg (to-a);have hin:=zRx (m:=m) hwk l (zu (zW m 0 l)) to fr i out tick n (max 0 (fr-a)) (min (to-a) (z8 m n)) (zLS m n) i rfl hil hx;have ih':=ih (i+1) (zNi m fr to tick a out n) (a+z8 m n) hd' hil hs' (by omega) (by omega);simp only[zNU];rw[<-ih'];simp only[zf,jg]at hin hLg ⊢;rw[zj zJw.eq_1];simp only[zNi];rw[eL,eM]at *;generalize hF:m.kE.foldl (zOx n (max 0 (fr-a)) (min (to-a) m.jc[n].len) tick) m.jc[n].vC=F at *;by_cases c1:min (to-a) m.jc[n].len<max 0 (fr-a)
  ·simp[hil,hx,hsl,hsx,hn,hw,hw1,hw2,c1,zo,hLg]
  ·by_cases c2:out<0
   ·simp[hil,hx,hsl,hsx,hn,hw,hw1,hw2,c1,c2,zo,hin,hLg]
   ·by_cases c3:F<out
    ·simp[hil,hx,hsl,hsx,hn,hw,hw1,hw2,c1,c2,c3,zo,hin,hLg]
    ·simp[hil,hx,hsl,hsx,hn,hw,hw1,hw2,c1,c2,c3,zo,hin,hLg]
theorem zRA{m:zD}(h:zcp m)(hwk:m.kE.length<=1000)(l:List Int)(hl:l.length<=1000)(hon:zj2 m l)(fr to tick:Int)(hfr:0<=fr/\fr<=10000000000)(hto:0<=to/\to<=10000000000) :
  R L Cs zQ8 [.a (zf m),.c (.jb (zu l)),W fr,W to,W tick] []=some (.w (W (max 0 (zNU m fr to tick 0 (-1) l))),[]):=by
 have hb:=zRw h hwk l hl hon fr to tick hfr hto l 0 (-1) 0 rfl (jt _) rfl (by omega) (by omega);have hbg:=zvX h hl hon;simp only[zf,jg]at hb hbg ⊢;rw[zUa zRb rfl];simp[zJO,hb,hbg]
theorem zxB:∀{rows:List (List Cl)},(∀r∈rows,zfo zmN r)->∃l,rows=zu l/\∀x∈l,zk0 x
 |[],_=>⟨[],rfl,by simp⟩
 |r::rows,h=>by
  have h1:=h r (jr ..);simp only[zfo]at h1;obtain⟨a,rfl,q⟩:=h1;obtain⟨l,rfl,hl⟩:=zxB fun x hx=>h x (jv _ hx)
  refine⟨a::l,rfl,fun x hx=>?_⟩;rcases jy.1 hx with rfl|hx
  ·exact q
  ·exact hl x hx
def zpO(m:zD)(e:Ego)(len:Int):Int->List Int->List zk->List zk
 |_,[],l=>l
 |a,x::r,l=>zpO m e len (a+z8 m x) r (zhn x (e.shi-len-a) (e.slo-a) l)
theorem zCj(m:zD)(l:List Int)(len:Int)(e:Ego)(he:-1000000000000000<=e.slo/\e.slo<=1000000000000000/\-1000000000000000<=e.shi/\e.shi<=1000000000000000)(hn:0<=len/\len<=20000):R L Cs zhP [.a (zh m l len),.a (zch e)] []=some (.w (Bo (decide (e.shi-len<=e.slo))),[]):=by
 have hw1:=kg (e.shi-len);rw[zUa zm1 rfl];simp[zfG,zh,hw1]
theorem zzJ{m:zD}(h:zcp m)(l:List Int)(hl:l.length<=8)(hon:zj2 m l)(len:Int)(e:Ego)(he:-1000000000000000<=e.slo/\e.slo<=1000000000000000/\-1000000000000000<=e.shi/\e.shi<=1000000000000000)(hn:0<=len/\len<=20000):∀(r:List Int) (i:Nat) (bs:List zk) (a:Int),l.drop i=r->i<=l.length->(zW m 0 l).drop i=zW m a r->0<=a->a<=i*1000000->bs.length*2 ^ r.length<=100000000000 ->
  Y L Cs zdn (some [1,17,16,15,5,3]) 3 [(1,.w (.c (.jb (zI bs)))),(17,.w (W i)),(16,.w (W l.length)),(15,.w (.c (.jb (zu l)))),(5,.w (Pt 1)),(3,.w (Pt 0))] [bx 11 (zh m l len),bx 4 (zch e),gb 6] =
    some (.exit 0,[(18,.w (Bo false)),(1,.w (.c (.jb (zI (zpO m e len a r bs))))),(17,.w (W l.length)),(16,.w (W l.length)),(15,.w (.c (.jb (zu l)))),(5,.w (Pt 1)),(3,.w (Pt 0))],[bx 11 (zh m l len),bx 4 (zch e),gb 6]):=by
 intro r;induction r with
 |nil =>
  intro i bs a hd hi hs ha1 ha2 hb;obtain rfl:=zUb hd hi;simp only[zh,zi];rw[zj zdn.eq_1];simp[zpO]
 |cons x r ih =>
  intro i bs a hd hi hs ha1 ha2 hb;obtain⟨hil,hx,hd'⟩:=zL hd;have hxm:=hon x (by rw[<-hx];exact je _);have hle:=zcX h hxm;have hw:=zB (i:=i) (by omega);rw[zW]at hs;obtain⟨hsl,hsx,hs'⟩:=zL hs;have hw0:=kg (e.shi-len);have hw1:=kg (e.shi-len-a);have hw2:=kg (e.slo-a);have hcl:=zod x (e.shi-len-a) (e.slo-a) bs;have hb2:(zhn x (e.shi-len-a) (e.slo-a) bs).length*2 ^ r.length<=100000000000:=by
   refine j9 (jT _ hcl) ?_;simp only[jk,yU]at hb;rw[k9 2,Nat.mul_assoc,k9 2];exact hb
  have hb1:bs.length<=100000000000:=j9 (kP _ (Nat.two_pow_pos _)) hb;have AC:=zDp x (e.shi-len-a) (e.slo-a) ⟨by omega,by omega⟩ ⟨by omega,by omega⟩ bs hb1;simp only[zpO];rw[<-ih (i+1) (zhn x (e.shi-len-a) (e.slo-a) bs) (a+z8 m x) hd' hil hs' (by omega) (by omega) hb2];clear ih hb hb2 hcl;simp only[zh,zi];rw[zj zdn.eq_1];simp[hil,hx,hsl,hsx,hw,hw0,hw1,hw2,AC]
theorem zya{m:zD}(h:zcp m)(l:List Int)(hl:l.length<=8)(hon:zj2 m l)(len:Int)(e:Ego)(he:-1000000000000000<=e.slo/\e.slo<=1000000000000000/\-1000000000000000<=e.shi/\e.shi<=1000000000000000)(hn:0<=len/\len<=20000):∀(r:List Int) (i:Nat) (bs:List zk) (a:Int),l.drop i=r->i<=l.length->(zW m 0 l).drop i=zW m a r->0<=a->a<=i*1000000->bs.length*2 ^ r.length<=100000000000 ->
  Y L Cs zc7 (some [3,13,1,2,9,11]) 3 [(3,.w (.c (.jb (zI bs)))),(13,.w (W i)),(1,.w (.c (.jb (zu l)))),(2,.w (W len)),(9,.w (Pt 1)),(11,.w (.c (.jb (zu (zW m 0 l)))))] [bx 5 (zf m),bx 4 (zch e),gb 6] =
    some (.exit 0,[(31,.w (Bo false)),(3,.w (.c (.jb (zI (zpO m e len a r bs))))),(13,.w (W l.length)),(1,.w (.c (.jb (zu l)))),(2,.w (W len)),(9,.w (Pt 1)),(11,.w (.c (.jb (zu (zW m 0 l)))))],[bx 5 (zf m),bx 4 (zch e),gb 6]):=by
 intro r;induction r with
 |nil =>
  intro i bs a hd hi hs ha1 ha2 hb;obtain rfl:=zUb hd hi;rw[zj zc7.eq_1];simp[zpO]
 |cons x r ih =>
  intro i bs a hd hi hs ha1 ha2 hb;obtain⟨hil,hx,hd'⟩:=zL hd;have hxm:=hon x (by rw[<-hx];exact je _);have hle:=zcX h hxm;have hw:=zB (i:=i) (by omega);rw[zW]at hs;obtain⟨hsl,hsx,hs'⟩:=zL hs;have hw0:=kg (e.shi-len);have hw1:=kg (e.shi-len-a);have hw2:=kg (e.slo-a);have hcl:=zod x (e.shi-len-a) (e.slo-a) bs;have hb2:(zhn x (e.shi-len-a) (e.slo-a) bs).length*2 ^ r.length<=100000000000:=by
   refine j9 (jT _ hcl) ?_;simp only[jk,yU]at hb;rw[k9 2,Nat.mul_assoc,k9 2];exact hb
  have hb1:bs.length<=100000000000:=j9 (kP _ (Nat.two_pow_pos _)) hb;have AC:=zCR x (e.shi-len-a) (e.slo-a) ⟨by omega,by omega⟩ ⟨by omega,by omega⟩ bs hb1;simp only[zpO];rw[<-ih (i+1) (zhn x (e.shi-len-a) (e.slo-a) bs) (a+z8 m x) hd' hil hs' (by omega) (by omega) hb2];clear ih hb hb2 hcl;rw[zj zc7.eq_1];simp[hil,hx,hsl,hsx,hw,hw0,hw1,hw2,AC]
theorem zuX(m:zD)(e:Ego)(len:Int):∀(r:List Int) (a:Int) (bs:List zk),(zpO m e len a r bs).length<=bs.length*2 ^ r.length
 |[],_,bs=>by simp[zpO]
 |x::r,a,bs=>by
  have h1:=zuX m e len r (a+z8 m x) (zhn x (e.shi-len-a) (e.slo-a) bs);have h2:=jT (2 ^ r.length) (zod x (e.shi-len-a) (e.slo-a) bs);simp only[zpO,jk,yU];refine j9 h1 (j9 h2 ?_);rw[k9 2 bs.length,Nat.mul_assoc,k9 2];exact jo _
open Go Go.Eng Go.PlanLaw
theorem zSv(v a:Int)(hv:0<=v/\v<=2000)(ha:-2000<=a/\a<=2000):R L Cs zSt [W v,W a] []=some (.w (W (doV v a)),[]):=by
 have w0:=kg (v+a);have e:doV v a=max 0 (min (v+a) 2000):=by unfold doV;omega
 rw[e,zUa zSw rfl];simp[zSk,w0]
theorem zS3(v x:Int):doV v (max (-2000) (min x 2000))=doV v x:=by unfold doV;omega
abbrev slI(id:Nat)(l:List Int):WV:=.c (.slice id l.length 1 0 l.length none)
abbrev owI(l:List Int):Option Blk:=some (own 1 (zu l))
abbrev rsE(a v:Int)(l:List Int):Env:=[(1,.w (W a)),(2,.w (W v)),(7,.w (slI 2 l)),(3,.w (Pl.Pt 0))]
theorem zST{c:Car}(hc:c.ok):∀(f:Nat) (l:List Int) (a v:Int) (r:List Int),zGI c f (decide (l.length=0)) a v=some r->l.length+f<=1000->0<=v/\v<=2000 ->
  ∃a' v',Y L Cs zSh (some [1,2,7,3]) 3 (rsE a v l) [bx 5 (Pl.jH c),gb 1,owI l]=some (.exit 0,(24,.w (Bo false))::rsE a' v' (l++r),[bx 5 (Pl.jH c),gb 1,owI (l++r)]):=by
 intro f;induction f with
 |zero=>intro l a v r h;cases h
 |succ f ih =>
  intro l a v r h hf hv;have AD:=hc;obtain⟨q1,q2,q3,q4,q5,q6,q7,q8,q9,q10⟩:=AD;rw[zF7]at h;by_cases cnd:(decide (l.length=0)=true)\/0<v\/0<a
  ·rw[if_pos cnd]at h;obtain⟨r',hr',rfl⟩:=ja.1 h;have hx:=zNt hc a (-c.ky);have hd:=zG1 v (zFX c a (-c.ky));have hS:=zSv v (zFX c a (-c.ky)) hv (by omega);have hR:=Pl.AE hc a (-c.ky);have w0:=kg (-c.ky);simp only[Pl.jH]at hR;generalize zFX c a (-c.ky)=x at *;obtain⟨a',v',h⟩:=ih (l++[x]) x (doV v x) r' (by rw[show decide ((l++[x]).length=0)=false by simp];exact hr') (by simp;omega) hd;refine⟨a',v',?_⟩;rw[show l++x::r'=l++[x]++r' by simp,<-h];have jX:(l.length+1)*8<=140737488355328:=by omega
   rw[zj zSh.eq_1];by_cases e1:l.length=0
   ·have e2:l=[]:=kq e1;subst e2;simp[rsE,slI,owI,own,Pl.jH,w0,hR,hS]
   ·have e0:((l.length:Int)==0)=false:=by rw[beq_eq_false_iff_ne];omega
    by_cases e2:0<v
    ·simp[rsE,slI,owI,own,Pl.jH,w0,hR,hS,e0,e1,e2,jX]
    ·have e3:0<a:=by
      rcases cnd with q|q|q
      ·exact absurd (of_decide_eq_true q) e1
      ·omega
      ·exact q
     simp[rsE,slI,owI,own,Pl.jH,w0,hR,hS,e0,e1,e2,e3,jX]
  ·rw[if_neg cnd]at h;obtain rfl:=v5 h;have e1:¬l.length=0:=fun e=>cnd (.inl (by simp[e]))
   have e2:¬0<v:=fun e=>cnd (.inr (.inl e))
   have e3:¬0<a:=fun e=>cnd (.inr (.inr e))
   have e0:((l.length:Int)==0)=false:=by rw[beq_eq_false_iff_ne];omega
   refine⟨a,v,?_⟩;rw[zj zSh.eq_1];simp[rsE,slI,owI,own,Pl.jH,e0,e1,e2,e3]
theorem zSH{c:Car}(hc:c.ok)(a v:Int):R L Cs zSu [.a (Pl.jH c),W a,W v] []=some (.w (.c (.jb (zu (stops c a (max 0 (min v 2000)))))),[]):=by
 have h1:=Pl.vQ hc;obtain⟨h2,_,h4⟩:=zMs hc a (max 0 (min v 2000)) (by omega) (by omega);obtain⟨a',v',h3⟩:=zST hc 111 [] a (max 0 (min v 2000)) _ h2 (by simp) (by omega);generalize stops c a (max 0 (min v 2000))=r at *;simp only[Pl.jH]at h1;simp only[rsE,owI,slI,own,Pl.jH,zay,jp,jf,jg]at h3;rw[zUa zSx rfl];simp[zSl,Pl.jH,h1,h3,zg]
abbrev rpM(c:Car)(l:List Int):Mem:=[bx 5 (Pl.jH c),bx 1 [.jd],owI l]
abbrev zS2(q:List Int)(up hold:Nat)(i:Nat)(s:Drv):Env:=[(2,.w (W s.last)),(13,.w (slI 2 s.l)),(3,.w (W s.v)),(14,.w (W i)),(6,.w (Pl.Pt 0)),(5,.w (W hold)),(12,.w (Pl.Pt 1)),(4,.w (W up)),(1,.w (.c (.jb (zu q))))]
abbrev zS5(q:List Int)(up hold:Nat)(i:Nat)(s:Drv):Env:=[(31,.w (Bo false)),(2,.w (W s.last)),(13,.w (slI 2 s.l)),(3,.w (W s.v)),(14,.w (W i)),(6,.w (Pl.Pt 0)),(5,.w (W hold)),(12,.w (Pl.Pt 1)),(4,.w (W up)),(1,.w (.c (.jb (zu q))))]
theorem zSS(c:Car)(q:List Int)(hql:q.length<=1000)(up hold:Nat):∀(r:List Int) (i:Nat) (s:Drv),(q.take 5).drop i=r->i<=(q.take 5).length->s.l.length<=i->0<=s.v/\s.v<=2000 ->
  Y L Cs zSf (some [2,13,3,14,6,5,12,4,1]) 3 (zS2 q up hold i s) (rpM c s.l)=some (.exit 0,zS5 q up hold (q.take 5).length (Drv.queue r s),rpM c (Drv.queue r s).l):=by
 intro r;induction r with
 |nil =>
  intro i s hd hi hs hv;obtain rfl:=zUb hd hi;rw[zj zSf.eq_1];by_cases e:q.length<=5
  ·have e1:(q.take 5).length=q.length:=by simp;omega
   rw[e1];simp[zS2,zS5,rpM,Drv.queue]
  ·have e1:(q.take 5).length=5:=by simp;omega
   have e2:(5:Int)<q.length:=by omega
   have e3:5<q.length:=by omega
   rw[e1];simp[zS2,zS5,rpM,Drv.queue,e2,e3]
 |cons x r ih =>
  intro i s hd hi hs hv;obtain⟨hil,hx,hd'⟩:=zL hd;have h5:i<5/\i<q.length:=by simp at hil;omega
  have hx':q[i]'(h5.2)=x:=by rw[<-hx];simp
  have u0:=ih (i+1) (s.qV x) hd' hil (by simp[Drv.qV];omega) (zG1 ..);have hw:=zB (i:=i) (by omega);have hS:=zSv s.v (max (-2000) (min x 2000)) hv (by omega);rw[zS3]at hS;have jX:(s.l.length+1)*8<=140737488355328:=by omega
  have h5':(i:Int)<5:=by omega
  have h6':(i:Int)<q.length:=by omega
  have h6:=h5.2;rw[Drv.queue,<-u0,zj zSf.eq_1];simp[zS2,rpM,slI,owI,own,Pl.jH,h5',h6',h6,hx',hS,hw,jX,Drv.qV]
abbrev zS1(hold n:Nat)(i:Nat)(s:Drv):Env:=[(2,.w (W s.last)),(13,.w (slI 2 s.l)),(3,.w (W s.v)),(15,.w (W i)),(4,.w (W n)),(12,.w (Pl.Pt 1)),(5,.w (W hold)),(6,.w (Pl.Pt 0))]
theorem zSR{c:Car}(hc:c.ok)(hold n:Nat)(hn:n<=20):∀(t i:Nat) (s:Drv),i+t=n->s.l.length<=5+i->0<=s.v/\s.v<=2000 ->
  Y L Cs zSe (some [2,13,3,15,4,12,5,6]) 3 (zS1 hold n i s) (rpM c s.l)=some (.exit 2,(59,.w (Bo false))::zS1 hold n n (Drv.qm c c.kO t s),rpM c (Drv.qm c c.kO t s).l):=by
 intro t;induction t with
 |zero =>
  intro i s hi hs hv;obtain rfl:i=n:=by omega
  rw[zj zSe.eq_1];simp[zS1,rpM,Drv.qm]
 |succ t ih =>
  intro i s hi hs hv;have u0:=ih (i+1) (s.qV (zFX c s.last c.kO)) (by omega) (by simp[Drv.qV];omega) (zG1 ..);have hw:=zB (i:=i) (by omega);have hx:=zNt hc s.last c.kO;have hR:=Pl.AE hc s.last c.kO;have AD:=hc;obtain⟨q1,q2,q3,q4,q5,q6,q7,q8,q9,q10⟩:=AD;have hS:=zSv s.v (zFX c s.last c.kO) hv (by omega);have jX:(s.l.length+1)*8<=140737488355328:=by omega
  have h5:(i:Int)<n:=by omega
  have h5':(i:Int)<20:=by omega
  have h6:i<20:=by omega
  have h7:i<n:=by omega
  rw[Drv.qm,<-u0,zj zSe.eq_1];generalize zFX c s.last c.kO=x at *;simp only[Pl.jH]at hR;simp[zS1,rpM,slI,owI,own,Pl.jH,h5,h5',h6,h7,hR,hS,hw,jX,Drv.qV]
abbrev zS0(n:Nat)(i:Nat)(s:Drv):Env:=[(2,.w (W s.last)),(13,.w (slI 2 s.l)),(3,.w (W s.v)),(16,.w (W i)),(5,.w (W n)),(12,.w (Pl.Pt 1)),(6,.w (Pl.Pt 0))]
theorem zSQ{c:Car}(hc:c.ok)(n:Nat)(hn:n<=20):∀(t i:Nat) (s:Drv),i+t=n->s.l.length<=25+i->0<=s.v/\s.v<=2000 ->
  Y L Cs zSd (some [2,13,3,16,5,12,6]) 3 (zS0 n i s) (rpM c s.l)=some (.exit 4,(80,.w (Bo false))::zS0 n n (Drv.qm c 0 t s),rpM c (Drv.qm c 0 t s).l):=by
 intro t;induction t with
 |zero =>
  intro i s hi hs hv;obtain rfl:i=n:=by omega
  rw[zj zSd.eq_1];simp[zS0,rpM,Drv.qm]
 |succ t ih =>
  intro i s hi hs hv;have u0:=ih (i+1) (s.qV (zFX c s.last 0)) (by omega) (by simp[Drv.qV];omega) (zG1 ..);have hw:=zB (i:=i) (by omega);have hx:=zNt hc s.last 0;have hR:=Pl.AE hc s.last 0;have AD:=hc;obtain⟨q1,q2,q3,q4,q5,q6,q7,q8,q9,q10⟩:=AD;have hS:=zSv s.v (zFX c s.last 0) hv (by omega);have jX:(s.l.length+1)*8<=140737488355328:=by omega
  have h5:(i:Int)<n:=by omega
  have h5':(i:Int)<20:=by omega
  have h6:i<20:=by omega
  have h7:i<n:=by omega
  rw[Drv.qm,<-u0,zj zSd.eq_1];generalize zFX c s.last 0=x at *;simp only[Pl.jH]at hR;simp[zS0,rpM,slI,owI,own,Pl.jH,h5,h5',h6,h7,hR,hS,hw,jX,Drv.qV]
theorem zSy{c:Car}{w:Int}:∀{n:Nat} {s:Drv},0<=s.v/\s.v<=2000->0<=(Drv.qm c w n s).v/\(Drv.qm c w n s).v<=2000
 |0,s,h=>h
 |n+1,s,h=>zSy (n:=n) (zG1 s.v _)
theorem zSD:∀{q:List Int} {s:Drv},0<=s.v/\s.v<=2000->0<=(Drv.queue q s).v/\(Drv.queue q s).v<=2000
 |[],s,h=>h
 |x::q,s,h=>zSD (q:=q) (zG1 s.v _)
theorem zSO{c:Car}(hc:c.ok)(q:List Int)(hql:q.length<=1000)(last v:Int)(up hold:Nat)(hu:up<=20)(hh:hold<=20) :
  R L Cs zSq [.a (Pl.jH c),.c (.jb (zu q)),W last,W v,W up,W hold] []=some (.w (.a [.jb (zu (zJ2 c q last (max 0 (min v 2000)) up hold))]),[]):=by
 have h0:=Pl.vQ hc;have hv:0<=max 0 (min v 2000)/\max 0 (min v 2000)<=2000:=by omega
 generalize hvv:max 0 (min v 2000)=v' at hv;have ht5:(q.take 5).length<=5:=by simp;omega
 have hl1:(Drv.queue (q.take 5) (Drv.mk last v' [])).l.length=(q.take 5).length:=by rw[Drv.Ad];simp
 have h1:=zSS c q hql up hold (q.take 5) 0 (Drv.mk last v' []) rfl (jt _) (by simp) hv;have g1:=zSD (q:=q.take 5) (s:=Drv.mk last v' []) hv;unfold zJ2;generalize Drv.queue (q.take 5) (Drv.mk last v' [])=s1 at *;have h2:=zSR hc hold up hu up 0 s1 (by omega) (by omega) g1;have g2:=zSy (c:=c) (w:=c.kO) (n:=up) g1;have hl2:=Drv.vH (c:=c) (w:=c.kO) (n:=up) (s:=s1);simp only[];generalize Drv.qm c c.kO up s1=s2 at *;have h3:=zSQ hc hold hh hold 0 s2 (by omega) (by omega) g2;have g3:=zSy (c:=c) (w:=0) (n:=hold) g2;have hl3:=Drv.vH (c:=c) (w:=0) (n:=hold) (s:=s2);generalize Drv.qm c 0 hold s2=s3 at *;have h4:=zSH hc s3.last s3.v;rw[show max 0 (min s3.v 2000)=s3.v by omega]at h4;have h5:=zMs hc s3.last s3.v g3.1 g3.2;generalize stops c s3.last s3.v=st at *;simp only[zS2,zS5,zS1,zS0,rpM,slI,owI,own,Pl.jH,zay,zfq,jp,jg]at h0 h1 h2 h3 h4;have jX:(s3.l.length+st.length)*8<=140737488355328:=by omega
 have hne:zu st≠[]:=by
  have:=h5.2.1;intro e;have e2:(zu st).length=0:=by rw[e];rfl
  rw[zfq]at e2;omega
 have hT:List.take (s3.l.length+st.length) (zu s3.l++zu st)=zu s3.l++zu st:=jG (by simp);rw[zUa zSs rfl];simp[zSi,Pl.jH,hvv,h0,h1,h2,h3,h4,jX,hne,hT,zg,zX]
end Go.TrRun
