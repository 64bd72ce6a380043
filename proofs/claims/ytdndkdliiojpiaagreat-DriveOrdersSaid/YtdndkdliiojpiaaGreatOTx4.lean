/- This text proves what functions of this seat's program answer, run by the evaluator; no condition. -/
import Derived.Test.YtdndkdliiojpiaaGreatOTx3
set_option linter.defProp false
set_option maxHeartbeats 8000000
set_option linter.unusedVariables false
set_option linter.unusedSimpArgs false
set_option linter.unusedSectionVars false
set_option maxRecDepth 10000
namespace Go.TrRun
open Go Go.Eng
def Zie(x:Mrk):zb [x]=[[I x.st,I x.lo,I x.hi]]:=rfl
def ZjD(x:zZP):ZlG [x]=[[I x.qd,.jb (zWx x.seen),.jb (zWs x.pts)]]:=rfl
def ZiU:zb []=[]:=rfl
def ZiT:ZlG []=[]:=rfl
def Zix(l:List Mrk):(zb l).take l.length=zb l:=jx wD
def Zid(l:List Mrk)(r:List Cl):(zb l++[r]).take (l.length+1)=zb l++[r]:=jx wD
def Ziw(l:List zZP):(ZlG l).take l.length=ZlG l:=jx wD
def Zic(l:List zZP)(r:List Cl):(ZlG l++[r]).take (l.length+1)=ZlG l++[r]:=jx wD
abbrev ZkL(l:List Mrk)(i:Nat):Env:=[(16,.w (W i)),(15,.w (W l.length)),(3,.w (Pt 3)),(14,.w (.c (.jb (zb l)))),(0,.w (Pt 0))]
def ZkK{S:StV}(d:NdV)(g:RgV)(q:Int×List Zou)(v w u:Nat)(hn:0<=d.now/\d.now<=1099511627776)(X:Int×List zZP×List Mrk×List Mrk)(l:List Mrk)(hl:l.length<=1000)(i:Nat)(h1:i<l.length)(ho:Zlq 1000 q.2) :
  ∃u',(u<=u'/\(u'=u->he1 d q l[i]=q))/\Y L Cs zn2 (some [16,15,3,14,0]) 4 (ZkL l i) (heM S d g q v w u (Zkx X.1 X.2.1 X.2.2.1 X.2.2.2))=Y L Cs zn2 (some [16,15,3,14,0]) 4 (ZkL l (i+1)) (heM S d g (he1 d q l[i]) v w u' (Zkx X.1 X.2.1 X.2.2.1 X.2.2.2)):=by
 have hw:=zB (i:=i) wA;have hci:(i:Int)<l.length:=wA
 have kY:(zb l)[i]?=some (ZjO l[i]):=Zif h1;generalize l[i]=x at *;obtain⟨c,es⟩:=q;have hC:=ZiY S d g c es v w u hn x.st;have hG:∀(M:Mem),M[2]?=some (mpB c es u)->znp M false true (.a [.jc,.jc,.jc]) [.c (.map 2 true),.c (.int .i64 x.st)]=_:=fun M h=>Zih h x.st _
 have hq:=ho x.st;simp only[ZjO]at kY;unfold he1;cases hb:Zjv d x.st with
 |false =>
  rw[hb]at hC;refine⟨u,⟨jm _,fun _=>wD⟩,?_⟩;simp only[jI,if_false];obtain⟨s0,s1,s2,s3,s4,n,ini,p⟩:=g;rw[ZfM zn2.eq_1];cases hf:znB x.st es with
  |none =>
   rw[hf]at hG;cases ini<;>simp[ndM,ndC,rgC,mpB,bxv]at hC<;>simp[hci,hw,kY,hC,hG,Zly,-Int.natCast_add]
  |some y =>
   rw[hf]at hG;cases ini<;>simp[ndM,ndC,rgC,mpB,bxv]at hC<;>simp[hci,hw,kY,hC,hG,Zly,-Int.natCast_add]
 |true =>
  rw[hb]at hC;refine⟨u+1,⟨kL u,fun h=>absurd h wA⟩,?_⟩;simp only[if_true];obtain⟨s0,s1,s2,s3,s4,n,ini,p⟩:=g;rw[ZfM zn2.eq_1];unfold Ziq at hq ⊢;cases hf:znB x.st es with
  |none =>
   rw[hf]at hG;have hK:=Zij [] wC;have hP:∀(M:Mem),M[2]?=some (mpB c es u)->zoJ M true [.c (.map 2 true),.c (.int .i64 x.st),.a [.jb (zb [x]),.jb (zb []),.jb (ZlG [])]]=_:=fun M h=>ZhM h x.st ⟨[x],[],[]⟩
   simp only[Zie,ZiU,ZiT]at hP hK;simp only[Ah,je];generalize ZiZ x.st ⟨[x],[],[]⟩ (c,es)=z at *;obtain⟨c',es'⟩:=z;cases ini<;>simp[ndM,ndC,rgC,mpB,bxv]at hC<;>simp[hci,hw,kY,hC,hG,hK,hP,Zig,zX,Zly,-Int.natCast_add]
  |some y =>
   rw[hf]at hG hq;simp only[uf]at hq ⊢;have hK:=Zij y.jD wA;have hr:(y.jD.length+1)*24<=140737488355328:=wA
   have hP:∀(M:Mem),M[2]?=some (mpB c es u)->zoJ M true [.c (.map 2 true),.c (.int .i64 x.st),.a [.jb (zb (y.jD++[x])),.jb (zb y.jO),.jb (ZlG y.jP)]]=_:=fun M h=>ZhM h x.st ⟨y.jD++[x],y.jO,y.jP⟩
   simp only[ZiP,Zie]at hP;generalize ZiZ x.st ⟨y.jD++[x],y.jO,y.jP⟩ (c,es)=z at *;obtain⟨c',es'⟩:=z;cases ini<;>simp[ndM,ndC,rgC,mpB,bxv]at hC<;>simp[hci,hw,kY,hC,hG,hK,hP,hr,Zig,zX,Zly,Zix,Zid,Ziw,Zic,-Int.natCast_add]
abbrev ZkJ(l:List Mrk)(i:Nat):Env:=[(49,.w (W i)),(48,.w (W l.length)),(3,.w (Pt 3)),(47,.w (.c (.jb (zb l)))),(0,.w (Pt 0))]
def ZkI{S:StV}(d:NdV)(g:RgV)(q:Int×List Zou)(v w u:Nat)(hn:0<=d.now/\d.now<=1099511627776)(X:Int×List zZP×List Mrk×List Mrk)(l:List Mrk)(hl:l.length<=1000)(i:Nat)(h1:i<l.length)(ho:Zlq 1000 q.2) :
  ∃u',(u<=u'/\(u'=u->he2 d q l[i]=q))/\Y L Cs znM (some [49,48,3,47,0]) 4 (ZkJ l i) (heM S d g q v w u (Zkx X.1 X.2.1 X.2.2.1 X.2.2.2))=Y L Cs znM (some [49,48,3,47,0]) 4 (ZkJ l (i+1)) (heM S d g (he2 d q l[i]) v w u' (Zkx X.1 X.2.1 X.2.2.1 X.2.2.2)):=by
 have hw:=zB (i:=i) wA;have hci:(i:Int)<l.length:=wA
 have kY:(zb l)[i]?=some (ZjO l[i]):=Zif h1;generalize l[i]=x at *;obtain⟨c,es⟩:=q;have hC:=ZiY S d g c es v w u hn x.st;have hG:∀(M:Mem),M[2]?=some (mpB c es u)->znp M false true (.a [.jc,.jc,.jc]) [.c (.map 2 true),.c (.int .i64 x.st)]=_:=fun M h=>Zih h x.st _
 have hq:=ho x.st;simp only[ZjO]at kY;unfold he2;cases hb:Zjv d x.st with
 |false =>
  rw[hb]at hC;refine⟨u,⟨jm _,fun _=>wD⟩,?_⟩;simp only[jI,if_false];obtain⟨s0,s1,s2,s3,s4,n,ini,p⟩:=g;rw[ZfM znM.eq_1];cases hf:znB x.st es with
  |none =>
   rw[hf]at hG;cases ini<;>simp[ndM,ndC,rgC,mpB,bxv]at hC<;>simp[hci,hw,kY,hC,hG,Zly,-Int.natCast_add]
  |some y =>
   rw[hf]at hG;cases ini<;>simp[ndM,ndC,rgC,mpB,bxv]at hC<;>simp[hci,hw,kY,hC,hG,Zly,-Int.natCast_add]
 |true =>
  rw[hb]at hC;refine⟨u+1,⟨kL u,fun h=>absurd h wA⟩,?_⟩;simp only[if_true];obtain⟨s0,s1,s2,s3,s4,n,ini,p⟩:=g;rw[ZfM znM.eq_1];unfold Ziq at hq ⊢;cases hf:znB x.st es with
  |none =>
   rw[hf]at hG;have hK:=Zij [] wC;have hP:∀(M:Mem),M[2]?=some (mpB c es u)->zoJ M true [.c (.map 2 true),.c (.int .i64 x.st),.a [.jb (zb []),.jb (zb [x]),.jb (ZlG [])]]=_:=fun M h=>ZhM h x.st ⟨[],[x],[]⟩
   simp only[Zie,ZiU,ZiT]at hP hK;simp only[Ah,je];generalize ZiZ x.st ⟨[],[x],[]⟩ (c,es)=z at *;obtain⟨c',es'⟩:=z;cases ini<;>simp[ndM,ndC,rgC,mpB,bxv]at hC<;>simp[hci,hw,kY,hC,hG,hK,hP,Zig,zX,Zly,-Int.natCast_add]
  |some y =>
   rw[hf]at hG hq;simp only[uf]at hq ⊢;have hK:=Zij y.jO wA;have hr:(y.jO.length+1)*24<=140737488355328:=wA
   have hP:∀(M:Mem),M[2]?=some (mpB c es u)->zoJ M true [.c (.map 2 true),.c (.int .i64 x.st),.a [.jb (zb y.jD),.jb (zb (y.jO++[x])),.jb (ZlG y.jP)]]=_:=fun M h=>ZhM h x.st ⟨y.jD,y.jO++[x],y.jP⟩
   simp only[ZiP,Zie]at hP;generalize ZiZ x.st ⟨y.jD,y.jO++[x],y.jP⟩ (c,es)=z at *;obtain⟨c',es'⟩:=z;cases ini<;>simp[ndM,ndC,rgC,mpB,bxv]at hC<;>simp[hci,hw,kY,hC,hG,hK,hP,hr,Zig,zX,Zly,Zix,Zid,Ziw,Zic,-Int.natCast_add]
def heD(d:NdV)(y:zZP):NdV:=if Zjv d y.qd then { d with last:=max d.last y.qd } else d
abbrev ZkH(l:List zZP)(i:Nat):Env:=[(82,.w (W i)),(81,.w (W l.length)),(80,.w (.c (.jb (ZlG l)))),(0,.w (Pt 0))]
def ZkG{S:StV}(d:NdV)(g:RgV)(q:Int×List Zou)(v w u:Nat)(hn:0<=d.now/\d.now<=1099511627776)(X:Int×List zZP×List Mrk×List Mrk)(l:List zZP)(hl:l.length<=1000)(hse:∀x∈l,x.seen.length<=5000)(hpt:∀x∈l,x.pts.length<=1000)(i:Nat)(h1:i<l.length)(ho:Zlq 1000 q.2) :
  ∃u' v',((u<=u'/\(u'=u->he3 d q l[i]=q))/\(v<=v'/\(v'=v->heD d l[i]=d)))/\Y L Cs znK (some [82,81,80,0]) 4 (ZkH l i) (heM S d g q v w u (Zkx X.1 X.2.1 X.2.2.1 X.2.2.2))=Y L Cs znK (some [82,81,80,0]) 4 (ZkH l (i+1)) (heM S (heD d l[i]) g (he3 d q l[i]) v' w u' (Zkx X.1 X.2.1 X.2.2.1 X.2.2.2)):=by
 have hw:=zB (i:=i) wA;have hci:(i:Int)<l.length:=wA
 have kY:(ZlG l)[i]?=some (zX6 l[i]):=ZjE h1;have q1:=hse _ (jf h1);have q2:=hpt _ (jf h1);generalize l[i]=x at *;obtain⟨c,es⟩:=q;have hC:=ZiY S d g c es v w u hn x.qd;have hG:∀(M:Mem),M[2]?=some (mpB c es u)->znp M false true (.a [.jc,.jc,.jc]) [.c (.map 2 true),.c (.int .i64 x.qd)]=_:=fun M h=>Zih h x.qd _
 have hS1:=Zkh x.seen wA;have hS2:=Zkb x.pts wA;have hq:=ho x.qd;simp only[zX6]at kY;unfold he3 heD;cases hb:Zjv d x.qd with
 |false =>
  rw[hb]at hC;refine⟨u,v,⟨⟨jm _,fun _=>wD⟩,⟨jm _,fun _=>wD⟩⟩,?_⟩;simp only[jI,if_false];obtain⟨s0,s1,s2,s3,s4,n,ini,p⟩:=g;rw[ZfM znK.eq_1];cases hf:znB x.qd es with
  |none =>
   rw[hf]at hG;cases ini<;>simp[ndM,ndC,rgC,mpB,bxv]at hC<;>simp[hci,hw,kY,hC,hG,Zly,-Int.natCast_add]
  |some y =>
   rw[hf]at hG;cases ini<;>simp[ndM,ndC,rgC,mpB,bxv]at hC<;>simp[hci,hw,kY,hC,hG,Zly,-Int.natCast_add]
 |true =>
  rw[hb]at hC;refine⟨u+1,v+1,⟨⟨kL u,fun h=>absurd h wA⟩,⟨kL v,fun h=>absurd h wA⟩⟩,?_⟩;simp only[if_true];obtain⟨s0,s1,s2,s3,s4,n,ini,p⟩:=g;rw[ZfM znK.eq_1];unfold Ziq at hq ⊢;cases hf:znB x.qd es with
  |none =>
   rw[hf]at hG;have hK:=ZjJ [] wC;have hP:∀(M:Mem),M[2]?=some (mpB c es u)->zoJ M true [.c (.map 2 true),.c (.int .i64 x.qd),.a [.jb (zb []),.jb (zb []),.jb (ZlG [x])]]=_:=fun M h=>ZhM h x.qd ⟨[],[],[x]⟩
   simp only[ZjD,ZiU,ZiT]at hP hK;simp only[Ah,je];generalize ZiZ x.qd ⟨[],[],[x]⟩ (c,es)=z at *;obtain⟨c',es'⟩:=z;cases ini<;>simp[ndM,ndC,rgC,mpB,bxv]at hC<;>simp[hci,hw,kY,hC,hG,hK,hP,hS1,hS2,Zig,zX,Zly,-Int.natCast_add]
  |some y =>
   rw[hf]at hG hq;simp only[uf]at hq ⊢;have hK:=ZjJ y.jP wA;have hr:(y.jP.length+1)*56<=140737488355328:=wA
   have hP:∀(M:Mem),M[2]?=some (mpB c es u)->zoJ M true [.c (.map 2 true),.c (.int .i64 x.qd),.a [.jb (zb y.jD),.jb (zb y.jO),.jb (ZlG (y.jP++[x]))]]=_:=fun M h=>ZhM h x.qd ⟨y.jD,y.jO,y.jP++[x]⟩
   simp only[ZjN,ZjD]at hP;generalize ZiZ x.qd ⟨y.jD,y.jO,y.jP++[x]⟩ (c,es)=z at *;obtain⟨c',es'⟩:=z;cases ini<;>simp[ndM,ndC,rgC,mpB,bxv]at hC<;>simp[hci,hw,kY,hC,hG,hK,hP,hS1,hS2,hr,Zig,zX,Zly,Zix,Zid,Ziw,Zic,-Int.natCast_add]
def ZjL(d:NdV):NdV:={ d with told:=d.kW,uu:=Pl.vh d.kW 0,kW:=Pl.yy d.kW,now:=d.now+1 }
def Zkl(S:StV)(d:NdV){g:RgV}(hg:ZjQ g)(h4:g.na<=4)(c:Int)(es:List Zou)(v w u:Nat)(hn:0<=d.now/\d.now<=1099511627776)(hp:d.kW.length<=1000) :
  R L Cs Zhq [Pt 0] (ndM S d g c es v w u)=some (.w (.c .qT),ndM S (ZjL d) (ZhJ g (Pl.vh d.kW 0)) c es (v+4) (w+2) u):=by
 have hA:=Pl.CY d.kW hp 0;have hT:=Pl.R_Tail d.kW hp;have hR:=ZkC hg h4 (Pl.vh d.kW 0) w;have hi:=(ZjF h4 (Pl.vh d.kW 0)).2.2.2.2;have hw:IntKind.i64.wrap (d.now+1)=d.now+1:=zTd _ wA wA;unfold ZjL;generalize Pl.vh d.kW 0=a at *;generalize Pl.yy d.kW=t at *;generalize ZhJ g a=g' at *;obtain⟨s0,s1,s2,s3,s4,n,ini,p⟩:=g;obtain⟨r0,r1,r2,r3,r4,n',ini',p'⟩:=g';simp only at hi;subst hi;rw[zUa ZiO rfl];cases ini<;>simp[ndM,ndC,rgC,mpB,bxv]at hR<;>simp[ZhA,hA,hT,hR,hw,zX,Zly]
def ZiF(S:StV)(d:NdV):NdV:={ d with mode:=if S.uk<d.now-d.last then 2 else d.mode,looked:=0 }
def ZjV(S:StV)(d:NdV)(g:RgV)(c:Int)(es:List Zou)(v w u:Nat)(hn:0<=d.now/\d.now<=1099511627776)(hl:0<=d.last/\d.last<=1099511627776) :
  ∃v',v<v'/\R L Cs ZhK [Pt 0] (ndM S d g c es v w u)=some (.w (.c (.fn (if(ZiF S d).mode=1 then ZhB else Zhq) [.ptr 0 0 0 0] [])),ndM S (ZiF S d) g c es v' w u):=by
 have hw:IntKind.i64.wrap (d.now-d.last)=d.now-d.last:=zTd _ wA wA;unfold ZiF;obtain⟨s0,s1,s2,s3,s4,n,ini,p⟩:=g;rw[zUa Ziv rfl];by_cases h1:S.uk<d.now-d.last
 ·refine⟨v+2,wA,?_⟩;simp only[h1,if_true];cases ini<;>simp[Zhk,hw,h1,Zly]
 ·refine⟨v+1,wA,?_⟩;simp only[h1,if_false];by_cases h2:d.mode=1
  ·cases ini<;>simp[Zhk,hw,h1,h2,Zly]
  ·cases ini<;>simp[Zhk,hw,h1,h2,Zly]
open Go Go.Eng Go.PlanLaw
def zLx{c:zK8}{w:Int}:∀{n:Nat} {s:Drv},0<=s.v/\s.v<=2000->0<=(Drv.uI c w n s).v/\(Drv.uI c w n s).v<=2000
 |0,s,h=>h
 |n+1,s,h=>zLx (n:=n) (zG1 s.v _)
def zMg:∀{q:List Int} {s:Drv},0<=s.v/\s.v<=2000->0<=(Drv.queue q s).v/\(Drv.queue q s).v<=2000
 |[],s,h=>h
 |x::q,s,h=>zMg (q:=q) (zG1 s.v _)
def zOt{c:zK8}(hc:c.ok)(q:List Int)(last v:Int)(up hold:Nat)(hv:0<=v/\v<=2000):(zJ2 c q last v up hold).length<=115+up+hold:=by
 unfold zJ2;have h1:=zMg (q:=q.take 5) (s:=Drv.mk last v []) hv;have h2:=zLx (c:=c) (w:=c.qN) (n:=up) h1;have h3:=zLx (c:=c) (w:=0) (n:=hold) h2;have hl1:(Drv.queue (q.take 5) (Drv.mk last v [])).l.length=(q.take 5).length:=by rw[Drv.Ba];simp
 have hl2:=Drv.Ab (c:=c) (w:=c.qN) (n:=up) (s:=Drv.queue (q.take 5) (Drv.mk last v []));have hl3:=Drv.Ab (c:=c) (w:=0) (n:=hold) (s:=Drv.uI c c.qN up (Drv.queue (q.take 5) (Drv.mk last v [])));generalize Drv.uI c 0 hold (Drv.uI c c.qN up (Drv.queue (q.take 5) (Drv.mk last v [])))=s at *;have h4:=(zMs hc s.last s.v h3.1 h3.2).2.2;have h5:(q.take 5).length<=5:=by simp;omega
 simp only[jF];omega
def zNC{c:zK8}{l:List Int}(h:uK c l=0):(∀a∈l,zk0 a)/\l.length<=200/\l≠[]:=by
 obtain⟨hc,hne,hl⟩:=zVR h;refine⟨?_,hl,hne⟩;unfold uK at h;rw[if_neg (by simp[hc]),if_neg (by simpa using hne),if_neg wA]at h;split at h
 ·cases h
 split at h
 ·cases h
 rename_i hb;have hb:l.any (zLD c)=false:=by simpa using hb
 intro a ha;have h1:=List.any_eq_false.1 hb a ha;obtain⟨q1,q2,q3,q4,q5,q6,q7,q8,q9,q10⟩:=hc;simp[zLD]at h1;constructor<;>omega
def zNa{c:zK8}(hc:c.ok)(q:List Int)(last v:Int)(hv:0<=v/\v<=2000):∀p∈Pl.yp c q last v,p.length<=200:=by
 intro p hp;have h:=fun up hold=>zOt hc q last v up hold hv
 simp only[Pl.yp,jK,qg,or_false]at hp;rcases hp with rfl|rfl|rfl|rfl|rfl|rfl|rfl|rfl
 ·have:=h 6 4;omega
 ·have:=h 6 0;omega
 ·have:=h 3 4;omega
 ·have:=h 3 0;omega
 ·have:=h 1 4;omega
 ·have:=h 1 0;omega
 ·have:=h 0 4;omega
 ·have:=h 0 0;omega
def zK5(kH:Int)(ok:List Int->Bool):List (List Int)->Nat->Int×Int
 |[],i=>(-1,i)
 |p::t,i=>if kH<=i then(-1,i) else if ok p=true then(i,(i+1:Nat)) else zK5 kH ok t (i+1)
def okC(m:zD)(zs:List Zon)(ss:List Sgn)(r:List Int)(c:zK8)(k:zci)(signals able:Bool)(p:List Int):Bool:=able&&decide (uK c p=0)&&(zNw m zs ss r c.len k p signals).1
abbrev zLh(m:zD)(c:zK8)(k:zci):Mem:=[bx 5 (zf m),bx 5 (Pl.kS c),bx 6 (zG k),bx 1 [.jc]]
abbrev seE(J:WV)(l:List (List Int))(kH:Int)(signals able:Bool)(i:Nat):Env:=[(51,.w (W i)),(50,.w (W l.length)),(49,.w (.c (.jb (Pl.uA l)))),(6,.w (W kH)),(7,.w (Bo signals)),(11,.w (Pt 2)),(23,.w J),(10,.w (Pt 1)),(22,.w (Bo able)),(21,.w (W (-1))),(19,.w (.c (.jb (Pl.uA l)))),(20,.w (W i)),(16,.w (Pt 3))]
def SeX(E:Env)(T:Mem)(l:List (List Int))(x:Int×Int):Prop:=(T=[]\/∃p,T=[bxv 1 1 [.jb (zu p)]])/\E.get 21=some (.w (W x.1))/\E.get 20=some (.w (W x.2))/\E.get 19=some (.w (.c (.jb (Pl.uA l))))/\E.get 16=some (.w (Pt 3))
def zOp(m:zD)(zs:List Zon)(ss:List Sgn)(r:List Int)(c:zK8)(k:zci)(signals:Bool)(kH:Int)(l:List (List Int))(hll:l.length<=100):∀(t:List (List Int)) (i:Nat),l.drop i=t->i<=l.length ->
  ∃E T,SeX E T l (zK5 kH (okC m zs ss r c k signals false) t i)/\Y L Cs zIx (some [51,50,49,6,7,11,23,10,22,21,19,20,16]) 4 (seE (.c .kX) l kH signals false i) (zLh m c k)=some (.exit 0,E,zLh m c k++T):=by
 intro t;induction t with
 |nil =>
  intro i hd hi;obtain rfl:=zUb hd hi;refine⟨(52,.w (Bo false))::seE (.c .kX) l kH signals false l.length,[],⟨.inl rfl,rfl,rfl,rfl,rfl⟩,?_⟩;rw[ZfM zIx.eq_1];simp
 |cons p t ih =>
  intro i hd hi;obtain⟨hil,hx,hd'⟩:=zL hd;have hw:=zB (i:=i) wA;unfold zK5;by_cases c1:kH<=(i:Int)
  ·rw[if_pos c1];refine⟨[(58,.w (Bo true)),(24,.w (W i)),(51,.w (W i)),(50,.w (W l.length)),(49,.w (.c (.jb (Pl.uA l)))),(6,.w (W kH)),(7,.w (Bo signals)),(11,.w (Pt 2)),(23,.w (.c .kX)),(10,.w (Pt 1)),(22,.w (Bo false)),(25,.w (Pt 4)),(21,.w (W (-1))),(19,.w (.c (.jb (Pl.uA l)))),(20,.w (W i)),(16,.w (Pt 3))],[bxv 1 1 [.jb (zu p)]],⟨.inr ⟨p,rfl⟩,rfl,rfl,rfl,rfl⟩,?_⟩;rw[ZfM zIx.eq_1];simp (maxSteps:=1000000) [seE,zLh,jC,zox,zh,zi,zf,zG,own,zJY,zJ4,Pl.kS,Pl.uA,hil,hx,hw,c1,zg,zH]
  ·rw[if_neg c1,if_neg (by simp[okC])];obtain⟨E,T,h1,h2⟩:=ih (i+1) hd' hil;refine⟨E,T,h1,?_⟩;rw[<-h2,ZfM zIx.eq_1];clear h2 ih;simp (maxSteps:=1000000) [seE,zLh,jC,zox,zh,zi,zf,zG,own,zJY,zJ4,Pl.kS,Pl.uA,hil,hx,hw,c1,zg,zH]
abbrev zNM(m:zD)(r:List Int)(len:Int)(ps:List Pss)(vs:List Vis)(u:Nat)(was NW:List Cl)(SW:Cl):Mem:=[bxv u 26 (jC m r len ps (.slice 5 vs.length 10 0 vs.length none) was NW SW),some (Go.Eng.own 10 (zKt vs))]
abbrev zNL(m:zD)(r:List Int)(len:Int)(ps:List Pss)(vs:List Vis)(u:Nat)(was NW:List Cl)(SW:Cl):Mem:=[bxv u 26 (jC m r len ps .jc was NW SW)]
abbrev zV0(qq:Nat)(m:zD)(r:List Int)(len:Int)(ps:List Pss)(vs:List Vis)(u:Nat)(was NW:List Cl)(SW:Cl):Mem:=if qq=0 then zNL m r len ps vs u was NW SW else zNM m r len ps vs u was NW SW
def zV1{m:zD}{zs:List Zon}{ss:List Sgn}(hF:zKj m zs ss){r:List Int}(hr:zdA m r=0)(c:zK8)(hc:c.ok)(k:zci)(hk:KJ m k)(ht:0<=k.tick/\k.tick<=1099511627776)(signals:Bool)(kH:Int)(vs:List Vis)(hvs:vs=pvV m zs r)(qq:Nat)(hq0:qq=0/\vs=[]\/qq=1/\vs≠[])(l:List (List Int))(hll:l.length<=100)(hl:∀p∈l,p.length<=1000):∀(t:List (List Int)) (i u:Nat) (WAS NW:List Cl) (SW:Cl),zMo WAS->zKq NW SW->l.drop i=t->i<=l.length ->
  ∃E T u' Cu NW' SW',zMo Cu/\zKq NW' SW'/\SeX E T l (zK5 kH (okC m zs ss r c k signals true) t i)/\Y L Cs zIx (some [51,50,49,6,7,11,23,10,22,21,19,20,16]) (qq+5) (seE (.c (.ptr 4 0 0 0)) l kH signals true i) (zLh m c k++zV0 qq m r c.len (zKh m zs 0 r) vs u WAS NW SW)=some (.exit 0,E,zLh m c k++zV0 qq m r c.len (zKh m zs 0 r) vs u' Cu NW' SW'++T):=by
 intro t;induction t with
 |nil =>
  intro i u WAS NW SW oW oS hd hi;obtain rfl:=zUb hd hi;refine⟨(52,.w (Bo false))::seE (.c (.ptr 4 0 0 0)) l kH signals true l.length,[],u,WAS,NW,SW,oW,oS,⟨.inl rfl,rfl,rfl,rfl,rfl⟩,?_⟩;rw[ZfM zIx.eq_1];simp
 |cons p t ih =>
  intro i u WAS NW SW oW oS hd hi;obtain⟨hil,hx,hd'⟩:=zL hd;have hpl:p∈l:=by rw[<-hx];exact jf hil
  have hw:=zB (i:=i) wA;have hC:=Pl.Cv c p (hl p hpl);have hcl:0<=c.len/\c.len<=20000:=by have:=hc.1;have:=hc.2.1;omega
  simp only[Pl.kS]at hC;unfold zK5;by_cases c1:kH<=(i:Int)
  ·rw[if_pos c1];clear ih;refine⟨[(58,.w (Bo true)),(24,.w (W i)),(51,.w (W i)),(50,.w (W l.length)),(49,.w (.c (.jb (Pl.uA l)))),(6,.w (W kH)),(7,.w (Bo signals)),(11,.w (Pt 2)),(23,.w (.c (.ptr 4 0 0 0))),(10,.w (Pt 1)),(22,.w (Bo true)),(25,.w (Pt (qq+5))),(21,.w (W (-1))),(19,.w (.c (.jb (Pl.uA l)))),(20,.w (W i)),(16,.w (Pt 3))],[bxv 1 1 [.jb (zu p)]],u,WAS,NW,SW,oW,oS,⟨.inr ⟨p,rfl⟩,rfl,rfl,rfl,rfl⟩,?_⟩;rw[ZfM zIx.eq_1];rcases hq0 with⟨rfl,-⟩ |⟨rfl,-⟩<;>rcases oW with rfl |⟨kw,rfl⟩<;>rcases oS with⟨rfl,rfl⟩ |⟨k0,x,rfl,rfl⟩<;>simp (maxSteps:=1000000) [seE,zLh,zV0,zNM,zNL,jC,zox,zh,zi,zf,zG,own,zJY,zJ4,Pl.kS,Pl.uA,hil,hx,hw,c1,zg,zH]
  ·rw[if_neg c1];by_cases c2:uK c p=0
   ·obtain⟨hin,hp2,hne⟩:=zNC c2;rw[c2]at hC;obtain⟨u',W',N',S',oW',oS',hu,h4⟩:=zL8 hF hr c.len hcl signals p hin wA u k WAS NW SW hk ht oW oS hne;have hok:okC m zs ss r c k signals true p=(zNw m zs ss r c.len k p signals).1:=by simp[okC,c2]
    rw[hok];rw[<-hvs]at h4;generalize zNw m zs ss r c.len k p signals=y at *;obtain⟨y1,y2,y3⟩:=y;simp only[zJ3,zVW hq0]at h4;cases y1 with
    |true =>
     clear ih;rw[if_pos rfl];refine⟨[(21,.w (W i)),(19,.w (.c (.jb (Pl.uA l)))),(20,.w (W (i+1:Nat))),(16,.w (Pt 3))],[bxv 1 1 [.jb (zu p)]],u',W',N',S',oW',oS',⟨.inr ⟨p,rfl⟩,rfl,rfl,rfl,rfl⟩,?_⟩;rw[ZfM zIx.eq_1];rcases hq0 with⟨rfl,-⟩ |⟨rfl,-⟩<;>rcases oW with rfl |⟨kw,rfl⟩<;>rcases oS with⟨rfl,rfl⟩ |⟨k0,x,rfl,rfl⟩<;>rcases oW' with rfl |⟨kw',rfl⟩<;>rcases oS' with⟨rfl,rfl⟩ |⟨k0',x',rfl,rfl⟩<;>simp only[jU,↓reduceIte,jJ,Nat.reduceAdd,jC,zox,zh,zi,zf,zG,own,zJY,zJ4,Pl.kS,Pl.uA,zJZ,jh,je]at h4<;>simp (maxSteps:=1000000) [seE,zLh,zV0,zNM,zNL,jC,zox,zh,zi,zf,zG,own,zJY,zJ4,Pl.kS,Pl.uA,hil,hx,hw,c1,hC,h4,hu,zg,zH]
    |false =>
     rw[if_neg wD];obtain⟨E,T,u2,W2,N2,S2,oW2,oS2,h1,h2⟩:=ih (i+1) u' W' N' S' oW' oS' hd' hil;refine⟨E,T,u2,W2,N2,S2,oW2,oS2,h1,?_⟩;rw[<-h2,ZfM zIx.eq_1];clear h1 h2 ih;rcases hq0 with⟨rfl,-⟩ |⟨rfl,-⟩<;>rcases oW with rfl |⟨kw,rfl⟩<;>rcases oS with⟨rfl,rfl⟩ |⟨k0,x,rfl,rfl⟩<;>rcases oW' with rfl |⟨kw',rfl⟩<;>rcases oS' with⟨rfl,rfl⟩ |⟨k0',x',rfl,rfl⟩<;>simp only[jU,↓reduceIte,jJ,Nat.reduceAdd,jC,zox,zh,zi,zf,zG,own,zJY,zJ4,Pl.kS,Pl.uA,zJZ,jh,je]at h4<;>simp (maxSteps:=1000000) [seE,zLh,zV0,zNM,zNL,jC,zox,zh,zi,zf,zG,own,zJY,zJ4,Pl.kS,Pl.uA,hil,hx,hw,c1,hC,h4,hu,zg,zH]
   ·have hb:(uK c p==0)=false:=by simpa using c2
    have hok:okC m zs ss r c k signals true p=false:=by simp[okC,c2]
    rw[hok,if_neg wD];obtain⟨E,T,u2,W2,N2,S2,oW2,oS2,h1,h2⟩:=ih (i+1) u WAS NW SW oW oS hd' hil;refine⟨E,T,u2,W2,N2,S2,oW2,oS2,h1,?_⟩;rw[<-h2,ZfM zIx.eq_1];clear h1 h2 ih;generalize uK c p=e at *;rcases hq0 with⟨rfl,-⟩ |⟨rfl,-⟩<;>rcases oW with rfl |⟨kw,rfl⟩<;>rcases oS with⟨rfl,rfl⟩ |⟨k0,x,rfl,rfl⟩<;>simp (maxSteps:=1000000) [seE,zLh,zV0,zNM,zNL,jC,zox,zh,zi,zf,zG,own,zJY,zJ4,Pl.kS,Pl.uA,hil,hx,hw,c1,hC,hb,zg,zH]
def zOd(kH:Int)(ok:List Int->Bool):∀(t:List (List Int)) (i:Nat),(zK5 kH ok t i).1=-1\/((i:Int)<=(zK5 kH ok t i).1/\(zK5 kH ok t i).1<i+t.length)
 |[],i=>.inl rfl
 |p::t,i=>by
  unfold zK5;split
  ·grind
  ·split
   ·grind
   ·rcases zOd kH ok t (i+1)with h|h
    ·grind
    grind
abbrev zLj(c:zK8)(q:List Int)(last:Int)(k:zci):List (List Int):=Pl.yp c q last (max 0 (min k.ego.vhi 2000))
def zMT(l:List (List Int))(f:Int):List Int:=if f<0 then [] else l.getD f.toNat []
def zOU(m:zD)(zs:List Zon)(ss:List Sgn)(r:List Int)(c:zK8)(k:zci)(q:List Int)(last kH:Int)(signals:Bool):Int×Int :=
 zK5 kH (okC m zs ss r c k signals (zKW m r c k)) (zLj c q last k) 0
def zPl{m:zD}{zs:List Zon}{ss:List Sgn}(hF:zKj m zs ss)(r:List Int)(hl:r.length<=1000)(c:zK8)(hc:c.ok)(k:zci)(hk:k.jZ.length<=100000000000)(q:List Int)(hq:q.length<=5)(last kH:Int)(signals:Bool) :
  R L Cs zMZ [.a (zf m),.c (.jb (zu r)),.a (Pl.kS c),.a (zG k),.c (.jb (zu q)),W last,W kH,Bo signals] [] =
    some (.t [.a [.jb (zu (zMT (zLj c q last k) (zOU m zs ss r c k q last kH signals).1))],W (zOU m zs ss r c k q last kH signals).2,Bo (decide (0<=(zOU m zs ss r c k q last kH signals).1))],[]):=by
 have h1:=zPi hF r hl c k hk;have h2:=Pl.Cb hc q hq last k.ego.vhi;have hin:=zOd kH (okC m zs ss r c k signals (zKW m r c k)) (zLj c q last k) 0;have hlen:(zLj c q last k).length=8:=rfl;have hlenI:((zLj c q last k).length:Int)=8:=rfl;have hpl:=zNa hc q last (max 0 (min k.ego.vhi 2000)) wA;unfold zOU;by_cases d1:zKW m r c k=true
 ·obtain⟨hr,_,_,hck⟩:=zNz d1;have hke:=zte hck;have hkj:=zPP hF.full.qO hck;obtain⟨u,h3⟩:=zMM hF hr c.len;rw[show zKE (zKh m zs 0 r) 0 zs.length=pvV m zs r from rfl]at h3;rw[d1]at h1 hin ⊢;obtain⟨qq,hq0⟩:∃qq,qq=0/\pvV m zs r=[]\/qq=1/\pvV m zs r≠[]:=by
   grind
  obtain⟨E,T,u',W',N',S',oW,oS,⟨hT,g1,g2,g3,g4⟩,hL⟩:=zV1 hF hr c hc k hkj wA signals kH (pvV m zs r) rfl qq hq0 (zLj c q last k) wA (fun p hp=>by grind) (zLj c q last k) 0 u zox zox .jc (.inl rfl) (.inl ⟨rfl,rfl⟩) rfl (jr _);simp only[zJ3,zVW hq0]at h3;simp only[zLj]at *;generalize pvV m zs r=vs at *;generalize zKh m zs 0 r=ps at *;generalize zK5 kH (okC m zs ss r c k signals true) (Pl.yp c q last (max 0 (min k.ego.vhi 2000))) 0=y at *;generalize Pl.yp c q last (max 0 (min k.ego.vhi 2000))=ws at *;obtain⟨f,n⟩:=y;simp only at g1 g2 g3 g4 hin ⊢;rcases hq0 with⟨rfl,-⟩ |⟨rfl,-⟩
  all_goals
   simp only[jU,↓reduceIte,jJ,Nat.reduceAdd,zf,zG,Pl.kS,Pl.uA,jC,zox,zh,zi,own,zJZ,jh,je,seE,zLh,zV0,zNM,zNL,hlenI,jg]at h1 h2 h3 hL g3;rw[zUa zLc rfl];rcases hin with rfl |⟨i1,i2⟩
   ·rcases hT with rfl |⟨p,rfl⟩<;>simp (maxSteps:=1000000) [zIS,zMT,zf,zG,Pl.kS,h1,h2,h3,hL,g1,g2,g3,g4,hlen,zg,zH]
   ·obtain⟨j,rfl⟩:∃j:Nat,f=j:=⟨f.toNat,wA⟩;have j1:¬(j:Int)<0:=wA
    have j2:(0:Int)<=j:=wA
    have j3:j<ws.length:=wA
    have j4:j<8:=wA
    have j5:(j:Int)<8:=wA
    rcases hT with rfl |⟨p,rfl⟩<;>simp (maxSteps:=1000000) [zIS,zMT,zf,zG,Pl.kS,h1,h2,h3,hL,g1,g2,g3,g4,hlen,j1,j2,j3,j4,j5,zg,zH]
 ·have d1:zKW m r c k=false:=by simpa using d1
  rw[d1]at h1 hin ⊢;obtain⟨E,T,⟨hT,g1,g2,g3,g4⟩,hL⟩:=zOp m zs ss r c k signals kH (zLj c q last k) wA (zLj c q last k) 0 rfl (jr _);simp only[zLj]at *;generalize zK5 kH (okC m zs ss r c k signals false) (Pl.yp c q last (max 0 (min k.ego.vhi 2000))) 0=y at *;generalize Pl.yp c q last (max 0 (min k.ego.vhi 2000))=ws at *;obtain⟨f,n⟩:=y;simp only at g1 g2 g3 g4 hin ⊢;simp only[zf,zG,Pl.kS,Pl.uA,jh,je,seE,zLh,hlenI,jg]at h1 h2 hL g3;rw[zUa zLc rfl];rcases hin with rfl |⟨i1,i2⟩
  ·rcases hT with rfl |⟨p,rfl⟩<;>simp (maxSteps:=1000000) [zIS,zMT,zf,zG,Pl.kS,h1,h2,hL,g1,g2,g3,g4,hlen,zg,zH]
  ·obtain⟨j,rfl⟩:∃j:Nat,f=j:=⟨f.toNat,wA⟩;have j1:¬(j:Int)<0:=wA
   have j2:(0:Int)<=j:=wA
   have j3:j<ws.length:=wA
   have j4:j<8:=wA
   have j5:(j:Int)<8:=wA
   rcases hT with rfl |⟨p,rfl⟩<;>simp (maxSteps:=1000000) [zIS,zMT,zf,zG,Pl.kS,h1,h2,hL,g1,g2,g3,g4,hlen,j1,j2,j3,j4,j5,zg,zH]
def Zh2(d:NdV)(n:Nat):List Int:=(List.range n).map fun(i:Nat)=>Pl.vh d.kW (i:Int)
def Zkw(d:NdV)(n:Nat):Zh2 d (n+1)=Zh2 d n++[Pl.vh d.kW n]:=by simp[Zh2,List.range_succ]
def ZjG(d:NdV)(n:Nat):(Zh2 d n).length=n:=by simp[Zh2]
def Zkm(S:StV)(d:NdV)(g:RgV)(c:Int)(es:List Zou)(v w u:Nat)(hp:d.kW.length<=1000)(D:Nat)(hD:D<=5):∀(f i:Nat),i+f=D ->
  Y L Cs Zhj (some [3,14,13,0]) 4 [(3,.w (.c (sl 3 1 (zu (Zh2 d i))))),(14,.w (W i)),(13,.w (W D)),(0,.w (Pt 0))] (ndM S d g c es v w u++[some (own 1 (zu (Zh2 d i)))]) =
    some (.exit 0,[(15,.w (Bo false)),(3,.w (.c (sl 3 1 (zu (Zh2 d D))))),(14,.w (W D)),(13,.w (W D)),(0,.w (Pt 0))],ndM S d g c es v w u++[some (own 1 (zu (Zh2 d D)))])
 |0,i,h=>by
  obtain rfl:i=D:=wA
  obtain⟨s0,s1,s2,s3,s4,n,ini,p⟩:=g;rw[ZfM Zhj.eq_1];cases ini<;>simp[Zly]
 |f+1,i,h=>by
  have ih:=Zkm S d g c es v w u hp D hD f (i+1) wA;have hw:=zB (i:=i) wA;have hci:(i:Int)<D:=wA
  have hA:=Pl.CY d.kW hp i;have hq:=ZjG d i;have hr:((Zh2 d i).length+1)*8<=140737488355328:=wA
  rw[<-ih,Zkw];generalize Pl.vh d.kW (i:Int)=a at *;generalize Zh2 d i=q at *;obtain⟨s0,s1,s2,s3,s4,n,ini,p⟩:=g;rw[ZfM Zhj.eq_1];cases ini<;>simp[hci,hw,hA,hr,zX,Zly,-Int.natCast_add]
def Zkd(S:StV)(zs:List Zon)(ss:List Sgn)(d:NdV):Int×Int:=zOU S.m zs ss S.r S.car d.qy (Zh2 d S.car.uj.toNat) d.uu S.kH S.sig
def ZiG(S:StV)(zs:List Zon)(ss:List Sgn)(d:NdV):NdV:={ d with looked:=(Zkd S zs ss d).2,kW:=if 0<=(Zkd S zs ss d).1 then zMT (zLj S.car (Zh2 d S.car.uj.toNat) d.uu d.qy) (Zkd S zs ss d).1 else d.kW }
def ZjR{S:StV}{zs:List Zon}{ss:List Sgn}(hS:z6u S zs ss)(d:NdV)(g:RgV)(c:Int)(es:List Zou)(v w u:Nat)(hp:d.kW.length<=1000)(hk:d.qy.jZ.length<=100000000000) :
  ∃v',v<v'/\R L Cs ZhB [Pt 0] (ndM S d g c es v w u)=some (.w (.c (.fn Zhq [.ptr 0 0 0 0] [])),ndM S (ZiG S zs ss d) g c es v' w u):=by
 obtain⟨q1,q2,q3,q4,q5,q6,q7,q8,q9,q10⟩:=hS.car;obtain⟨D,hD⟩:=jA q9;have hr2:=zlP hS.full.full.yn hS.vS;have hL:=Zkm S d g c es v w u hp D wA D 0 wA;have hS2:=zPl hS.full S.r wA S.car hS.car d.qy hk (Zh2 d D) (by rw[ZjG];omega) d.uu S.kH S.sig;have hql:=ZjG d D;have htk:(zu (Zh2 d D)).take D=zu (Zh2 d D):=jx (by simp[hql]);unfold ZiG Zkd;have eD:S.car.uj.toNat=D:=by rw[hD];rfl
 rw[eD];have q0:Zh2 d 0=[]:=rfl;generalize zOU S.m zs ss S.r S.car d.qy (Zh2 d D) d.uu S.kH S.sig=y at *;generalize zLj S.car (Zh2 d D) d.uu d.qy=z at *;obtain⟨f,n⟩:=y;simp only at hS2 ⊢;simp only[q0,ndM,jh,je,jg,zay,sl,own,jp,zfq,hql]at hL;simp only[zf,Pl.kS,zG,hD]at hS2;obtain⟨s0,s1,s2,s3,s4,na,ini,p⟩:=g;by_cases hf:0<=f
 ·refine⟨v+2,wA,?_⟩;simp only[hf,if_true,decide_true]at hS2 ⊢;rw[zUa ZhH rfl];cases ini<;>simp[Zho,hL,hS2,hD,htk,hql,zX,Zly,zr]
 ·refine⟨v+1,wA,?_⟩;simp only[hf,if_false,decide_false]at hS2 ⊢;rw[zUa ZhH rfl];cases ini<;>simp[Zho,hL,hS2,hD,htk,hql,zX,Zly,zr]
structure KB(m:zD)(k:zci):Prop where
 nd:KNd m k
 far:k.ego.shi<=1000000000+2000*k.tick
 few:k.tick<=100000
def KB.step{S:StV}{zs:List Zon}{ss:List Sgn}(hS:z6u S zs ss){k:zci}(h:KB S.m k)(ht:k.tick<100000)(a:Int):KB S.m (ZhP S zs ss k a)/\(ZhP S zs ss k a).tick=k.tick+1:=by
 have hd:=zLs hS.full.full.qO hS.vS h.nd.j.ego a;have hf:=h.far;have h0:=h.nd.t;have e:(ZhP S zs ss k a).ego=zaN S.m S.r k.ego a:=rfl;have et:(ZhP S zs ss k a).tick=k.tick+1:=rfl;have hj:=zNm hS.full.full hS.vS S.car.len S.sig h.nd.j a (show(zaN S.m S.r k.ego a).shi<=1099511627776 by omega);exact⟨⟨⟨hj,by grind⟩,by grind,by grind⟩,et⟩
def ZjY:∀(l:List Mrk) (k:zci) (b:Bool),(ZhZ l (k,b)).1.ego.shi=k.ego.shi
 |[],k,b=>rfl
 |x::l,k,b=>by
  show(ZhZ l ((z9f k x.st x.lo x.hi).1,b&&(z9f k x.st x.lo x.hi).2)).1.ego.shi=_;rw[ZjY l]
  grind [ZhO]
def Zka:∀(l:List Mrk) (k:zci) (b:Bool),(Zis l (k,b)).1.ego.shi<=k.ego.shi
 |[],k,b=>jQ _
 |x::l,k,b=>by
  refine Int.le_trans (Zka l _ _) ?_
  grind [Zag]
def ZjZ(S:StV):∀(l:List zZP) (k:zci) (b:Bool),(ZiH S l (k,b)).1.ego=k.ego
 |[],k,b=>rfl
 |x::l,k,b=>by
  show(ZiH S l (Zhv S (Zib S.m k x),b&&ZiS S.m (Zhv S (Zib S.m k x)) x.pts)).1.ego=_;rw[ZjZ S l];rfl
def ZkN(S:StV)(q:Option Hrd)(k:zci):(znE S q k).1.ego.shi<=k.ego.shi:=by
 cases q with
 |none=>exact jQ _
 |some y =>
  have e:(znE S (some y) k).1.ego=(Zis y.jO (ZhZ y.jD (k,true))).1.ego:=ZjZ S y.jP _ _;rw[e];refine Int.le_trans (Zka y.jO _ _) ?_;exact Int.le_of_eq (ZjY y.jD k true)
def KB.A3{S:StV}{k:zci}(h:KB S.m k)(q:Option Hrd):KB S.m (znE S q k).1/\(znE S q k).1.tick=k.tick:=by
 obtain⟨h1,h2⟩:=h.nd.A3 q;have:=ZkN S q k;have:=h.far;have:=h.few;exact⟨⟨h1,by grind,by grind⟩,h2⟩
def chN(S:StV)(zs:List Zon)(ss:List Sgn)(es:List Zou)(l:List Int)(x:zci×Bool):zci×Bool :=
 l.foldl (fun q a=>((znE S (znB (q.1.tick+1) es) (ZhP S zs ss q.1 a)).1,q.2&&(znE S (znB (q.1.tick+1) es) (ZhP S zs ss q.1 a)).2)) x
def Zir(g:RgV):Nat->Int
 |0=>g.s0
 |1=>g.s1
 |2=>g.s2
 |3=>g.s3
 |_=>g.s4
def ZkB{g:RgV}(h:g.na<=5){i:Nat}(hi:i<g.na):g.jR.drop i=Zir g i::g.jR.drop (i+1):=by
 obtain⟨s0,s1,s2,s3,s4,n,ini,p⟩:=g;simp only at h hi;rcases n with _|_|_|_|_|_|n
 all_goals first |(omega) |(rcases i with _ |_ |_ |_ |_ |i<;>first |rfl |(omega))
def Zk8(es:List Zou):Prop:=∀t h,znB t es=some h->Zld h t
def ZkP{S:StV}{zs:List Zon}{ss:List Sgn}(hS:z6u S zs ss)(es:List Zou):∀(l:List Int) (k:zci) (b:Bool),KB S.m k->k.tick+l.length<=100000->KB S.m (chN S zs ss es l (k,b)).1/\(chN S zs ss es l (k,b)).1.tick=k.tick+l.length
 |[],k,b,h,ht=>⟨h,by simp[chN]⟩
 |a::l,k,b,h,ht=>by
  simp only[jl]at ht;obtain⟨h1,h2⟩:=h.step hS wA a;obtain⟨h3,h4⟩:=h1.A3 (znB (k.tick+1) es);obtain⟨h5,h6⟩:=ZkP hS es l _ (b&&(znE S (znB (k.tick+1) es) (ZhP S zs ss k a)).2) h3 (by grind);refine⟨h5,h6.trans ?_⟩
  grind
abbrev fgE(i na:Nat)(A:Cl)(ok:Bool):Env:=[(4,.w (Bo ok)),(29,.w (W i)),(28,.w (W na)),(27,.w (.c A)),(0,.w (Pt 0)),(3,.w (Pt 3))]
def Zks{S:StV}{zs:List Zon}{ss:List Sgn}(hS:z6u S zs ss)(d:NdV){g:RgV}(hg:g.na<=5)(hi0:g.ini=false)(ha:∀a∈g.jR,zk0 a)(c:Int)(es:List Zou)(he:Zk8 es)(v w u:Nat):∀(f i:Nat) (k:zci) (ok:Bool) (vk:Nat),i+f=g.na->KB S.m k->k.tick+f<=100000 ->
  ∃vk',Y L Cs Zhc (some [4,29,28,27,0,3]) 4 (fgE i g.na (.bsl 1 0 0 0 1 g.na 5) ok) (ndM S d g c es v w u++[bxv vk 6 (zG k)]) =
   some (.exit 0,(30,.w (Bo false))::fgE g.na g.na (.bsl 1 0 0 0 1 g.na 5) (chN S zs ss es (g.jR.drop i) (k,ok)).2,ndM S d g c es v w u++[bxv vk' 6 (zG (chN S zs ss es (g.jR.drop i) (k,ok)).1)])
 |0,i,k,ok,vk,hf,hk,ht=>by
  obtain rfl:i=g.na:=wA
  have e:g.jR.drop g.na=[]:=uc (by simp[RgV.jR];omega);rw[e];refine⟨vk,?_⟩;obtain⟨s0,s1,s2,s3,s4,n,ini,p⟩:=g;simp only at hi0;subst hi0;rw[ZfM Zhc.eq_1];simp[chN,Zly]
 |f+1,i,k,ok,vk,hf,hk,ht=>by
  have hin:i<g.na:=wA
  have e:=ZkB hg hin;have ha0:zk0 (Zir g i):=ha _ (qp (by rw[e];exact js));obtain⟨k1,k2⟩:=hk.step hS wA (Zir g i);obtain⟨k3,k4⟩:=k1.A3 (znB (k.tick+1) es);have h1:=Zkc hS d g c es v w u hk.nd (Zir g i) ha0;have h2:=ZjM hS d g c es v w u k1.nd (fun h hh=>he _ h hh);rw[k2]at h2;obtain⟨vk',ih⟩:=Zks hS d hg hi0 ha c es he v w u f (i+1) (znE S (znB (k.tick+1) es) (ZhP S zs ss k (Zir g i))).1 (ok&&(znE S (znB (k.tick+1) es) (ZhP S zs ss k (Zir g i))).2) (vk+1) wA k3 (by rw[k4,k2];omega);refine⟨vk',?_⟩;have ec:chN S zs ss es (g.jR.drop i) (k,ok)=chN S zs ss es (g.jR.drop (i+1)) ((znE S (znB (k.tick+1) es) (ZhP S zs ss k (Zir g i))).1,ok&&(znE S (znB (k.tick+1) es) (ZhP S zs ss k (Zir g i))).2):=by rw[e];rfl
  rw[ec,<-ih];have hw:=zB (i:=i) wA;have hci:(i:Int)<g.na:=wA
  clear ih ec k1 k2 k3 k4;generalize znE S (znB (k.tick+1) es) (ZhP S zs ss k (Zir g i))=y at *;obtain⟨ky,oy⟩:=y;generalize ZhP S zs ss k (Zir g i)=ks at *;obtain⟨s0,s1,s2,s3,s4,n,ini,p⟩:=g;simp only at hi0 hg hin hci;subst hi0;simp only[zG]at h1 h2;rw[ZfM Zhc.eq_1];simp[ndM,ndC,rgC,mpB,bxv]at h1 h2;have e1:(1:Int)<n<->1<n:=wA
  have e2:(2:Int)<n<->2<n:=wA
  have e3:(3:Int)<n<->3<n:=wA
  have e4:(4:Int)<n<->4<n:=wA
  rcases i with _|_|_|_|_|i
  case succ.succ.succ.succ.succ=>omega
  all_goals simp only[Zir]at h1
  all_goals have hin':=hin
  all_goals simp (config:={ failIfUnchanged:=false }) only[jJ,Nat.reduceAdd]at hin'
  all_goals cases ok<;>simp[fgE,hin',e1,e2,e3,e4,h1,h2,wk1,wk2,wk3,wk4,wk5,zG,Zly,-Int.natCast_add]
def Zkz(S:StV)(zs:List Zon)(ss:List Sgn)(g:RgV)(es:List Zou):zci×Bool:=chN S zs ss es g.jR (znE S (znB g.jY.tick es) g.jY)
def Zlo(ok:Bool)(M:Mem):Y L Cs Zhc (some [4,29,28,27,0,3]) 4 [(4,.w (Bo ok)),(29,.w (W 0)),(28,.w (W 0)),(27,.w (.c .jc)),(0,.w (Pt 0)),(3,.w (Pt 3))] M=some (.exit 0,[(30,.w (Bo false)),(4,.w (Bo ok)),(29,.w (W 0)),(28,.w (W 0)),(27,.w (.c .jc)),(0,.w (Pt 0)),(3,.w (Pt 3))],M):=by
 rw[ZfM Zhc.eq_1];simp
def Zkj{S:StV}{zs:List Zon}{ss:List Sgn}(hS:z6u S zs ss)(d:NdV){g:RgV}(hg:ZjQ g)(ha:∀a∈g.jR,zk0 a)(hk:KB S.m g.jY)(ht:g.jY.tick+g.na<=100000)(c:Int)(es:List Zou)(he:Zk8 es)(v w u:Nat) :
  R L Cs ZhW [Pt 0] (ndM S d g c es v w u)=some (.w (.c (.fn (if(Zkz S zs ss g es).2 then ZhK else ZiI) [.ptr 0 0 0 0] [])),ndM S { d with qy:=(Zkz S zs ss g es).1 } g c es (v+1) w u):=by
 obtain⟨k1,k2⟩:=hk.A3 (znB g.jY.tick es);have h1:=ZjM hS d g c es v w u hk.nd (fun h hh=>he _ h hh);unfold Zkz;cases hi:g.ini with
 |true =>
  have h0:=hg.ini hi;have e:g.jR=[]:=by simp[RgV.jR,h0]
  rw[e];simp only[chN,List.foldl_nil];generalize znE S (znB g.jY.tick es) g.jY=y at *;obtain⟨ky,oy⟩:=y;obtain⟨s0,s1,s2,s3,s4,n,ini,p⟩:=g;simp only at hi h0;subst hi;subst h0;simp only[zG]at h1;rw[zUa ZhX rfl];simp[ndM,ndC,rgC,mpB,bxv]at h1;cases oy<;>simp[Zhr,h1,Zlo,zG,Zly,zr]
 |false =>
  obtain⟨vk',hL⟩:=Zks hS d hg.few hi ha c es he v w u g.na 0 (znE S (znB g.jY.tick es) g.jY).1 (znE S (znB g.jY.tick es) g.jY).2 1 wA k1 (by rw[k2];exact ht);simp only[u7]at hL;generalize znE S (znB g.jY.tick es) g.jY=y at *;obtain⟨ky,oy⟩:=y;simp only at hL;generalize chN S zs ss es g.jR (ky,oy)=z at *;obtain⟨kz,oz⟩:=z;obtain⟨s0,s1,s2,s3,s4,n,ini,p⟩:=g;simp only at hi;subst hi;simp only[zG,fgE,ndM,jh,je,jg]at h1 hL;rw[zUa ZhX rfl];simp[ndC,rgC,mpB,bxv]at h1;cases oz<;>simp[Zhr,h1,hL,zG,Zly,zr]
def ZjP(n:Int)(es:List Zou):List Zou:=match ZiR n es 0 with
 |some (i,_)=>es.eraseIdx i
 |none=>es
def Zi0{α β:Type}{f:α->β}:∀(l:List α) (i:Nat),(l.map f).eraseIdx i=(l.eraseIdx i).map f
 |[],_=>rfl
 |_::_,0=>rfl
 |a::l,i+1=>by simp[Zi0 l i]
def Zkf{M:Mem}{c:Int}{es:List Zou}{u:Nat}{id:Nat}(h:M[id]?=some (mpB c es u))(n:Int):∃u' fp,(u<=u'/\(u'=u->ZjP n es=es))/\zoK M [.c (.map id true),.c (.int .i64 n)]=some (.t [],M.set id (mpB c (ZjP n es) u'),fp):=by
 unfold zoK ZjP;simp only[Zia h,ZiE,zlW];cases ZiR n es 0 with
 |none =>
  refine⟨u,.no,⟨jm _,fun _=>rfl⟩,?_⟩;simp only[Option.map_none]
  congr 3
  apply qw;intro k;by_cases hk:id=k
  ·subst hk;rw[jS (jy.1 h).1,h]
  ·rw[jz hk]
 |some q =>
  refine⟨u+1,.wr [(id,0,whole)],⟨kL u,fun h=>absurd h wA⟩,?_⟩;simp[mpB,Zi0]
def Zh0(t:Int)(ks:List Int)(es:List Zou):List Zou:=ks.foldl (fun es k=>if k<t then ZjP k es else es) es
def Zgm(S:StV)(d:NdV)(g:RgV)(c:Int)(v w:Nat)(ks:List Int)(hks:ks.length<=1000):∀(r:List Int) (i:Nat) (es:List Zou) (u:Nat),ks.drop i=r->i<=ks.length ->
  ∃u',(u<=u'/\(u'=u->Zh0 g.jY.tick r es=es))/\Y L Cs Zlz (some [62,61,60,0]) 4 [(62,.w (W i)),(61,.w (W ks.length)),(60,.w (.c (.jb (zu ks)))),(0,.w (Pt 0))] (ndM S d g c es v w u++[bx 1 [.map 2 true]]) =
   some (.exit 2,[(63,.w (Bo false)),(62,.w (W ks.length)),(61,.w (W ks.length)),(60,.w (.c (.jb (zu ks)))),(0,.w (Pt 0))],ndM S d g c (Zh0 g.jY.tick r es) v w u'++[bx 1 [.map 2 true]])
 |[],i,es,u,hd,hi=>by
  have e:i=ks.length:=by
   have:=congrArg List.length hd;simp at this;omega
  subst e;refine⟨u,⟨jm _,fun _=>rfl⟩,?_⟩;obtain⟨s0,s1,s2,s3,s4,n,ini,p⟩:=g;rw[ZfM Zlz.eq_1];cases ini<;>simp[Zh0,Zly]
 |x::r,i,es,u,hd,hi=>by
  have h1:i<ks.length:=by
   have:=congrArg List.length hd;simp at this;omega
  have h2:ks[i]=x:=by rw[jv h1]at hd;exact(ka hd).1
  have h3:ks.drop (i+1)=r:=by rw[jv h1]at hd;exact(ka hd).2
  have hw:=zB (i:=i) wA;have hci:(i:Int)<ks.length:=wA
  have kY:(zu ks)[i]?=some [I x]:=by simp[zu,h1,h2]
  by_cases hc:x<g.jY.tick
  ·have hM:(ndM S d g c es v w u++[bx 1 [.map 2 true]])[2]?=some (mpB c es u):=rfl;obtain⟨u1,fp,hfp,hD⟩:=Zkf hM x;obtain⟨u',hu,ih⟩:=Zgm S d g c v w ks hks r (i+1) (ZjP x es) u1 h3 wA;have e:Zh0 g.jY.tick (x::r) es=Zh0 g.jY.tick r (ZjP x es):=by simp[Zh0,hc]
   refine⟨u',⟨jT hfp.1 hu.1,fun q=>?_⟩,?_⟩
   ·have h5:=hfp.1;have h6:=hu.1;rw[e,hu.2 wA];exact hfp.2 wA
   rw[e,<-ih];clear hfp hu;generalize ZjP x es=es' at *;obtain⟨s0,s1,s2,s3,s4,n,ini,p⟩:=g;simp only[ndM,jh,je,own,zfq]at hD;simp only at hc;rw[ZfM Zlz.eq_1];cases ini<;>simp[hci,h1,h2,hw,hc,hD,Zly,-Int.natCast_add]
  ·obtain⟨u',hu,ih⟩:=Zgm S d g c v w ks hks r (i+1) es u h3 wA;have e:Zh0 g.jY.tick (x::r) es=Zh0 g.jY.tick r es:=by simp[Zh0,hc]
   refine⟨u',⟨hu.1,fun q=>by rw[e];exact hu.2 q⟩,?_⟩;rw[e,<-ih];clear hu;obtain⟨s0,s1,s2,s3,s4,n,ini,p⟩:=g;simp only at hc;rw[ZfM Zlz.eq_1];cases ini<;>simp[hci,h1,h2,hw,hc,Zly,-Int.natCast_add]
def Zj9(S:StV)(d:NdV)(g:RgV)(c:Int)(es:List Zou)(v w u:Nat)(hn:0<=d.now/\d.now<=1099511627776)(h:¬g.jY.tick<d.now-4):Y L Cs ZlA (some [0]) 3 [(0,.w (Pt 0))] (ndM S d g c es v w u)=some (.exit 0,[(19,.w (Bo false)),(0,.w (Pt 0))],ndM S d g c es v w u):=by
 have hw:IntKind.i64.wrap (d.now-4)=d.now-4:=zTd _ wA wA;obtain⟨s0,s1,s2,s3,s4,n,ini,p⟩:=g;simp only at h;rw[ZfM ZlA.eq_1];cases ini<;>simp[hw,h,Zly]
def Zh9(S:StV)(zs:List Zon)(ss:List Sgn)(es:List Zou)(g:RgV):RgV:=ZhL { g with jY:=ZhP S zs ss (znE S (znB g.jY.tick es) g.jY).1 g.s0 }
def ZgL{S:StV}{zs:List Zon}{ss:List Sgn}(hS:z6u S zs ss)(d:NdV){g:RgV}(hg:g.na<=5)(h0:0<g.na)(hi:g.ini=false)(ha:zk0 g.s0)(hk:KB S.m g.jY)(ht:g.jY.tick<100000)(c:Int)(es:List Zou)(he:Zk8 es)(v w u:Nat)(hn:0<=d.now/\d.now<=1099511627776)(h:g.jY.tick<d.now-4) :
  Y L Cs ZlA (some [0]) 3 [(0,.w (Pt 0))] (ndM S d g c es v w u)=Y L Cs ZlA (some [0]) 3 [(0,.w (Pt 0))] (ndM S d (Zh9 S zs ss es g) c es v (w+3) u):=by
 have hw:IntKind.i64.wrap (d.now-4)=d.now-4:=zTd _ wA wA;obtain⟨k1,k2⟩:=hk.A3 (znB g.jY.tick es);have h1:=ZjM hS d g c es v w u hk.nd (fun h hh=>he _ h hh);have h2:=Zkc hS d g c es v w u k1.nd g.s0 ha;have h3:=Zki (g:={ g with jY:=ZhP S zs ss (znE S (znB g.jY.tick es) g.jY).1 g.s0 }) hg h0 hi (w+1);have h4:=(Zjr (g:={ g with jY:=ZhP S zs ss (znE S (znB g.jY.tick es) g.jY).1 g.s0 }) hg h0 hi).2.2.2.2;unfold Zh9;generalize ZhL { g with jY:=ZhP S zs ss (znE S (znB g.jY.tick es) g.jY).1 g.s0 }=g' at *;generalize znE S (znB g.jY.tick es) g.jY=y at *;obtain⟨ky,oy⟩:=y;simp only at h1 h2 h3;generalize ZhP S zs ss ky g.s0=ks at *;obtain⟨s0,s1,s2,s3,s4,n,ini,p⟩:=g;obtain⟨r0,r1,r2,r3,r4,n',ini',p'⟩:=g';simp only at h4 hi h h0 hg;subst h4;subst hi;have hn1:0<n:=h0;simp only[zG]at h1 h2;rw[ZfM ZlA.eq_1];simp[ndM,ndC,rgC,mpB,bxv]at h1 h2 h3;simp[hw,h,h1,h2,h3,hn1,zG,Zly];rfl
def ZkS(c:Int)(es:List Zou)(u:Nat):R L Cs Zi1 [.c (.map 0 true)] [mpB c es u]=some (.w (.c (.fn Zhd [] [.ptr 1 0 0 0])),[mpB c es u,bx 1 [.map 0 true]]):=by
 rw[zUa Zjd rfl];simp[ZhC,zr,Zly]
def ZjC(c:Int)(es:List Zou)(ks:List Int):Prop:=∀u,R L Cs Zit [.c (.fn Zhd [] [.ptr 0 0 0 0])] [bx 1 [.map 1 true],mpB c es u]=some (.w (.c (.jb (zu ks))),[bx 1 [.map 1 true],mpB c es u])
def Zjs{S:StV}(d:NdV)(g:RgV)(c:Int)(es:List Zou)(v w u:Nat)(g':RgV)(w1:Nat)(h1:Y L Cs ZlA (some [0]) 3 [(0,.w (Pt 0))] (ndM S d g c es v w u)=some (.exit 0,[(19,.w (Bo false)),(0,.w (Pt 0))],ndM S d g' c es v w1 u))(ks:List Int)(hK:ZjC c es ks)(hks:ks.length<=1000) :
  ∃u',(u<=u'/\(u'=u->Zh0 g'.jY.tick ks es=es))/\R L Cs Zhz [Pt 0] (ndM S d g c es v w u)=some (.t [],ndM S d g' c (Zh0 g'.jY.tick ks es) v w1 u'):=by
 have hk1:=ZkS c es u;have hk2:=hK u;obtain⟨u',hu,hL⟩:=Zgm S d g' c v w1 ks hks ks 0 es u rfl (jr _);refine⟨u',hu,?_⟩;clear hu;generalize Zh0 g'.jY.tick ks es=es' at *;obtain⟨r0,r1,r2,r3,r4,n',ini',p'⟩:=g';simp only[ndM,jh,je,jg,zfq]at hL hk2;rw[zUa ZhY rfl];cases ini'<;>simp[Zhs,h1,hk1,hk2,hL,zr,Zly]
def Zhl(S:StV)(zs:List Zon)(ss:List Sgn)(es:List Zou)(g:RgV):RgV:=if g.na=5 then Zh9 S zs ss es g else g
theorem Zj0{S:StV}{zs:List Zon}{ss:List Sgn}(hS:z6u S zs ss){g:RgV}(hg:g.na<=5)(h0:0<g.na)(hi:g.ini=false)(hk:KB S.m g.jY)(ht:g.jY.tick<100000)(es:List Zou) :
  ZjQ (Zh9 S zs ss es g)/\(Zh9 S zs ss es g).na+1=g.na/\(Zh9 S zs ss es g).jR=g.jR.tail/\(Zh9 S zs ss es g).jY=ZhP S zs ss (znE S (znB g.jY.tick es) g.jY).1 g.s0/\KB S.m (Zh9 S zs ss es g).jY/\(Zh9 S zs ss es g).jY.tick=g.jY.tick+1:=by
 obtain⟨k1,k2⟩:=hk.A3 (znB g.jY.tick es);obtain⟨k3,k4⟩:=k1.step (zs:=zs) (ss:=ss) hS (by rw[k2];exact ht) g.s0;obtain⟨a1,a2,a3,a4,a5⟩:=Zjr (g:={ g with jY:=ZhP S zs ss (znE S (znB g.jY.tick es) g.jY).1 g.s0 }) hg h0 hi;refine⟨a4,a2,a1,a3,?_,?_⟩
 ·unfold Zh9;rw[a3];exact k3
 ·unfold Zh9;rw[a3];simp only;rw[k4,k2]
def Zkk{S:StV}{zs:List Zon}{ss:List Sgn}(hS:z6u S zs ss)(d:NdV){g:RgV}(hg:ZjQ g)(ha:∀a∈g.jR,zk0 a)(hk:KB S.m g.jY)(hn:d.now=g.jY.tick+g.na)(ht:d.now<=100000)(c:Int)(es:List Zou)(he:Zk8 es)(v w u:Nat)(ks:List Int)(hK:ZjC c es ks)(hks:ks.length<=1000) :
  ∃w' u',(w<=w'/\(w'=w->Zhl S zs ss es g=g))/\(u<=u'/\(u'=u->Zh0 (Zhl S zs ss es g).jY.tick ks es=es))/\R L Cs Zhz [Pt 0] (ndM S d g c es v w u)=some (.t [],ndM S d (Zhl S zs ss es g) c (Zh0 (Zhl S zs ss es g).jY.tick ks es) v w' u'):=by
 have hf:=hg.few;have h0:=hk.nd.t;unfold Zhl;by_cases h5:g.na=5
 ·rw[if_pos h5];have hi:g.ini=false:=by
   cases hi:g.ini with
   |false=>rfl
   |true=>have:=hg.ini hi;omega
  have hs0:g.s0∈g.jR:=by simp[RgV.jR,h5]
  obtain⟨b1,b2,b3,b4,b5,b6⟩:=Zj0 (zs:=zs) (ss:=ss) hS hf wA hi hk wA es;have e1:=ZgL (zs:=zs) (ss:=ss) hS d hf wA hi (ha _ hs0) hk wA c es he v w u wA wA;have e2:=Zj9 S d (Zh9 S zs ss es g) c es v (w+3) u wA (by rw[b6];omega);obtain⟨u',hu,h⟩:=Zjs d g c es v w u (Zh9 S zs ss es g) (w+3) (e1.trans e2) ks hK hks;exact⟨_,u',⟨wA,fun q=>absurd q wA⟩,hu,h⟩
 ·rw[if_neg h5];have e2:=Zj9 S d g c es v w u wA wA;obtain⟨u',hu,h⟩:=Zjs d g c es v w u g w e2 ks hK hks;exact⟨_,u',⟨jm _,fun _=>rfl⟩,hu,h⟩
structure Zlw(n:Nat)(h:Hrd)(t:Int):Prop where
 n1:h.jD.length<=n
 n2:h.jO.length<=n
 n3:h.jP.length<=n
 s1:∀x∈h.jD,x.st=t
 s2:∀x∈h.jO,x.st=t
 s3:∀x∈h.jP,x.qd=t/\x.seen.length<=5000/\x.pts.length<=1000
def EsN(n:Nat)(es:List Zou):Prop:=∀e∈es,Zlw n e.hrd e.key
def ZlB{n:Int}{h:Hrd}:∀{es:List Zou},znB n es=some h->∃e∈es,e.key=n/\e.hrd=h
 |[],hf=>nomatch hf
 |e::r,hf=>by
  unfold znB at hf;split at hf
  ·grind
  ·obtain⟨e',h1,h2⟩:=ZlB hf
   grind
theorem EsN.nil(n:Nat):EsN n []:=fun e h=>nomatch h
def EsN.at{n:Nat}{es:List Zou}(h:EsN n es)(t:Int):Zlw n (Ziq es t) t:=by
 unfold Ziq;cases hf:znB t es with
 |none=>exact⟨jr _,jr _,jr _,fun x hx=>absurd hx wD,fun x hx=>absurd hx wD,fun x hx=>absurd hx wD⟩
 |some y =>
  obtain⟨e,h1,rfl,rfl⟩:=ZlB hf;exact h e h1
def EsN.ok{n:Nat}(hn:n<=1000){es:List Zou}(h:EsN n es):Zk8 es:=fun t y hy=>by
 obtain⟨e,h1,rfl,rfl⟩:=ZlB hy;obtain⟨a,b,c,d,e,f⟩:=h e h1;exact⟨jT a hn,jT b hn,jT c hn,fun x hx=>(f x hx).1,fun x hx=>(f x hx).2.1,fun x hx=>(f x hx).2.2⟩
def EsN.he{n:Nat}(hn:n<=1000){es:List Zou}(h:EsN n es):Zlq 1000 es:=fun t=>by
 obtain⟨a,b,c,_⟩:=h.at t;omega
theorem EsN.mono{n k:Nat}(hn:n<=k){es:List Zou}(h:EsN n es):EsN k es:=fun t ht=>by
 obtain⟨a,b,c,d,e,f⟩:=h t ht;exact⟨wA,wA,wA,d,e,f⟩
def ZjI{α:Type}{f:α->α}{x:α}:∀{l:List α} {i:Nat},x∈l.modify i f->x∈l\/∃y∈l,x=f y
 |[],i,h=>by grind
 |a::l,0,h=>by
  grind
 |a::l,i+1,h=>by
  rcases jK.1 h with rfl|h
  ·grind
  ·rcases ZjI h with h |⟨y,hy,e⟩
   ·grind
   grind
def EsN.put{n:Nat}{q:Int×List Zou}(h:EsN n q.2)(t:Int){y:Hrd}(hy:Zlw (n+1) y t):EsN (n+1) (ZiZ t y q).2:=by
 intro e he;unfold ZiZ at he;split at he
 ·rcases ZjI he with he |⟨z,_,rfl⟩
  ·exact h.mono (kL n) e he
  grind
 ·rcases jL.1 he with he|he
  ·exact h.mono (kL n) e he
  grind
def EsN.del{n:Nat}{es:List Zou}(h:EsN n es)(t:Int):EsN n (ZjP t es):=by
 intro e he;unfold ZjP at he;split at he
 ·exact h e (List.mem_of_mem_eraseIdx he)
 ·exact h e he
def EsN.fgt{n:Nat}(t:Int):∀(ks:List Int) {es:List Zou},EsN n es->EsN n (Zh0 t ks es)
 |[],es,h=>h
 |k::ks,es,h=>by
  show EsN n (Zh0 t ks (if k<t then ZjP k es else es));refine EsN.fgt t ks ?_;split
  ·exact h.del k
  grind
def EsN.he1{n:Nat}{d:NdV}{q:Int×List Zou}(h:EsN n q.2)(y:Mrk):EsN (n+1) (he1 d q y).2:=by
 unfold Go.TrRun.he1;split
 ·obtain⟨a,b,c,d,e,f⟩:=h.at y.st;exact h.put _ ⟨by grind,qU b,qU c,fun x hx=>by
   grind,e,f⟩
 ·exact h.mono (kL n)
def EsN.he2{n:Nat}{d:NdV}{q:Int×List Zou}(h:EsN n q.2)(y:Mrk):EsN (n+1) (he2 d q y).2:=by
 unfold Go.TrRun.he2;split
 ·obtain⟨a,b,c,d,e,f⟩:=h.at y.st;exact h.put _ ⟨qU a,by grind,qU c,d,fun x hx=>by
   grind,f⟩
 ·exact h.mono (kL n)
def EsN.he3{n:Nat}{d:NdV}{q:Int×List Zou}(h:EsN n q.2){y:zZP}(hy:y.seen.length<=5000/\y.pts.length<=1000):EsN (n+1) (he3 d q y).2:=by
 unfold Go.TrRun.he3;split
 ·obtain⟨a,b,c,d,e,f⟩:=h.at y.qd;exact h.put _ ⟨qU a,qU b,by grind,d,e,fun x hx=>by
   grind⟩
 ·exact h.mono (kL n)
structure Zjo where
 tick:Int
 jP:List zZP
 jD:List Mrk
 jO:List Mrk
abbrev inC(x:Zjo):List Cl:=[I x.tick,.jb (ZlG x.jP),.jb (zb x.jD),.jb (zb x.jO)]
structure Zlc(x:Zjo):Prop where
 n1:x.jP.length<=100
 n2:x.jD.length<=100
 n3:x.jO.length<=100
 sc:∀y∈x.jP,y.seen.length<=5000/\y.pts.length<=1000
def Zj5{S:StV}(d:NdV)(g:RgV)(v w:Nat)(hn:0<=d.now/\d.now<=1099511627776)(x:Zjo)(l:List Mrk)(hl:l.length<=100):∀(r:List Mrk) (i:Nat) (q:Int×List Zou) (u n:Nat),l.drop i=r->i<=l.length->EsN n q.2->n+r.length<=1000 ->
  ∃u',(u<=u'/\(u'=u->r.foldl (he1 d) q=q))/\EsN (n+r.length) (r.foldl (he1 d) q).2/\Y L Cs zn2 (some [16,15,3,14,0]) 4 (ZkL l i) (heM S d g q v w u (inC x))=some (.exit 0,(17,.w (Bo false))::ZkL l l.length,heM S d g (r.foldl (he1 d) q) v w u' (inC x))
 |[],i,q,u,n,hd,hi,hq,hk=>by
  have e:i=l.length:=by
   grind
  subst e;refine⟨u,⟨jm _,fun _=>rfl⟩,hq,?_⟩;obtain⟨s0,s1,s2,s3,s4,n,ini,p⟩:=g;rw[ZfM zn2.eq_1];cases ini<;>simp[Zly]
 |a::r,i,q,u,n,hd,hi,hq,hk=>by
  have h1:i<l.length:=by
   grind
  have h2:l[i]=a:=by grind [List.drop_eq_getElem_cons,List.cons.inj]
  have h3:l.drop (i+1)=r:=by grind [List.drop_eq_getElem_cons,List.cons.inj]
  simp only[jl]at hk;obtain⟨u1,m1,e⟩:=ZkK (S:=S) d g q v w u hn (x.tick,x.jP,x.jD,x.jO) l wA i h1 (hq.he wA);obtain⟨u2,m2,c1,ih⟩:=Zj5 (S:=S) d g v w hn x l hl r (i+1) (he1 d q a) u1 (n+1) h3 wA (hq.he1 a) wA;rw[h2]at e m1;exact⟨u2,⟨jT m1.1 m2.1,fun q'=>by
   rw[j8,m2.2 wA];exact m1.2 wA⟩,by rw[jl,<-qf,yM];exact c1,e.trans ih⟩
def Zj4{S:StV}(d:NdV)(g:RgV)(v w:Nat)(hn:0<=d.now/\d.now<=1099511627776)(x:Zjo)(l:List Mrk)(hl:l.length<=100):∀(r:List Mrk) (i:Nat) (q:Int×List Zou) (u n:Nat),l.drop i=r->i<=l.length->EsN n q.2->n+r.length<=1000 ->
  ∃u',(u<=u'/\(u'=u->r.foldl (he2 d) q=q))/\EsN (n+r.length) (r.foldl (he2 d) q).2/\Y L Cs znM (some [49,48,3,47,0]) 4 (ZkJ l i) (heM S d g q v w u (inC x))=some (.exit 2,(50,.w (Bo false))::ZkJ l l.length,heM S d g (r.foldl (he2 d) q) v w u' (inC x))
 |[],i,q,u,n,hd,hi,hq,hk=>by
  have e:i=l.length:=by
   grind
  subst e;refine⟨u,⟨jm _,fun _=>rfl⟩,hq,?_⟩;obtain⟨s0,s1,s2,s3,s4,n,ini,p⟩:=g;rw[ZfM znM.eq_1];cases ini<;>simp[Zly]
 |a::r,i,q,u,n,hd,hi,hq,hk=>by
  have h1:i<l.length:=by
   grind
  have h2:l[i]=a:=by grind [List.drop_eq_getElem_cons,List.cons.inj]
  have h3:l.drop (i+1)=r:=by grind [List.drop_eq_getElem_cons,List.cons.inj]
  simp only[jl]at hk;obtain⟨u1,m1,e⟩:=ZkI (S:=S) d g q v w u hn (x.tick,x.jP,x.jD,x.jO) l wA i h1 (hq.he wA);obtain⟨u2,m2,c1,ih⟩:=Zj4 (S:=S) d g v w hn x l hl r (i+1) (he2 d q a) u1 (n+1) h3 wA (hq.he2 a) wA;rw[h2]at e m1;exact⟨u2,⟨jT m1.1 m2.1,fun q'=>by
   rw[j8,m2.2 wA];exact m1.2 wA⟩,by rw[jl,<-qf,yM];exact c1,e.trans ih⟩
theorem Zkp(d:NdV)(y:zZP):(heD d y).now=d.now:=by grind [heD]
def heS:List zZP->NdV×(Int×List Zou)->NdV×(Int×List Zou)
 |[],x=>x
 |y::r,x=>heS r (heD x.1 y,he3 x.1 x.2 y)
def Zj3{S:StV}(g:RgV)(w:Nat)(x:Zjo)(l:List zZP)(hl:l.length<=100)(hsc:∀y∈l,y.seen.length<=5000/\y.pts.length<=1000):∀(r:List zZP) (i:Nat) (d:NdV) (q:Int×List Zou) (u v n:Nat),0<=d.now/\d.now<=1099511627776->l.drop i=r->i<=l.length->EsN n q.2->n+r.length<=1000 ->
  ∃u' v',((u<=u'/\(u'=u->(heS r (d,q)).2=q))/\(v<=v'/\(v'=v->(heS r (d,q)).1=d)))/\EsN (n+r.length) (heS r (d,q)).2.2/\Y L Cs znK (some [82,81,80,0]) 4 (ZkH l i) (heM S d g q v w u (inC x))=some (.exit 4,(83,.w (Bo false))::ZkH l l.length,heM S (heS r (d,q)).1 g (heS r (d,q)).2 v' w u' (inC x))
 |[],i,d,q,u,v,n,hn,hd,hi,hq,hk=>by
  have e:i=l.length:=by
   grind
  refine⟨u,v,⟨⟨jm _,fun _=>rfl⟩,⟨jm _,fun _=>rfl⟩⟩,hq,?_⟩
  simp_all [ZfM,znK.eq_1,Zly,heS]
 |a::r,i,d,q,u,v,n,hn,hd,hi,hq,hk=>by
  have h1:i<l.length:=by
   have:=congrArg List.length hd;simp at this;omega
  have h2:l[i]=a:=by rw[jv h1]at hd;exact(ka hd).1
  have h3:l.drop (i+1)=r:=by rw[jv h1]at hd;exact(ka hd).2
  have ha:a∈l:=by rw[<-h2];exact jf h1
  simp only[jl]at hk;obtain⟨u1,v1,⟨m1,m2⟩,e⟩:=ZkG (S:=S) d g q v w u hn (x.tick,x.jP,x.jD,x.jO) l wA (fun y hy=>(hsc y hy).1) (fun y hy=>(hsc y hy).2) i h1 (hq.he wA);rw[h2]at e m1 m2;obtain⟨u2,v2,⟨m3,m4⟩,c1,ih⟩:=Zj3 (S:=S) g w x l hl hsc r (i+1) (heD d a) (he3 d q a) u1 v1 (n+1) (by rw[Zkp];exact hn) h3 wA (hq.he3 (hsc a ha)) wA;exact⟨u2,v2,⟨⟨jT m1.1 m3.1,fun q'=>by
   show(heS r (heD d a,he3 d q a)).2=q;rw[m3.2 wA];exact m1.2 wA⟩,⟨jT m2.1 m4.1,fun q'=>by
   show(heS r (heD d a,he3 d q a)).1=d;rw[m4.2 wA];exact m2.2 wA⟩⟩,by rw[jl,<-qf,yM];exact c1,e.trans ih⟩
def ZiQ(d:NdV)(q:Int×List Zou)(x:Zjo):NdV×(Int×List Zou):=heS x.jP (d,x.jO.foldl (he2 d) (x.jD.foldl (he1 d) q))
def ZkR{S:StV}(d:NdV)(g:RgV)(q:Int×List Zou)(v w u n:Nat)(hn:0<=d.now/\d.now<=1099511627776)(x:Zjo)(hx:Zlc x)(hq:EsN n q.2)(hk:n+300<=1000) :
  ∃v' u',((u<=u'/\(u'=u->(ZiQ d q x).2=q))/\(v<=v'/\(v'=v->(ZiQ d q x).1=d)))/\EsN (n+300) (ZiQ d q x).2.2/\R L Cs Zh4 [Pt 0,.a (inC x)] (ndM S d g q.1 q.2 v w u)=some (.t [],ndM S (ZiQ d q x).1 g (ZiQ d q x).2.1 (ZiQ d q x).2.2 v' w u'):=by
 obtain⟨x1,x2,x3,x4⟩:=hx;obtain⟨u1,m1,a1,h1⟩:=Zj5 (S:=S) d g v w hn x x.jD x2 x.jD 0 q u n rfl (jr _) hq wA;obtain⟨u2,m2,a2,h2⟩:=Zj4 (S:=S) d g v w hn x x.jO x3 x.jO 0 (x.jD.foldl (he1 d) q) u1 _ rfl (jr _) a1 wA;obtain⟨u3,v3,⟨m3,m4⟩,a3,h3⟩:=Zj3 (S:=S) g w x x.jP x1 x4 x.jP 0 d (x.jO.foldl (he2 d) (x.jD.foldl (he1 d) q)) u2 v _ hn rfl (jr _) a2 wA;refine⟨v3,u3,⟨⟨jT m1.1 (jT m2.1 m3.1),fun e=>?_⟩,m4⟩,a3.mono wA,?_⟩
 ·grind [ZiQ]
 unfold ZiQ;obtain⟨s0,s1,s2,s3,s4,na,ini,p⟩:=g;simp only[ZkL,ZkJ,ZkH,heM,ndM,jh,je,jg]at h1 h2 h3;rw[zUa Zjh rfl];cases ini<;>simp[ZhF,h1,h2,h3,Zly]
abbrev fnN(f:Nat):Cl:=.fn f [.ptr 0 0 0 0] []
def ZjB(S:StV)(d d':NdV)(g:RgV)(c:Int)(es:List Zou)(v v' w u f f':Nat)(x:Zjo)(hv:¬v'=v)(hR:R L Cs f [Pt 0] (ndM S d g c es v w u)=some (.w (.c (fnN f')),ndM S d' g c es v' w u)) :
  Y L Cs zj (some [6,0]) 4 [(6,.w (.c (fnN f))),(0,.w (Pt 0))] (ndM S d g c es v w u++[bx 4 (inC x)])=Y L Cs zj (some [6,0]) 4 [(6,.w (.c (fnN f'))),(0,.w (Pt 0))] (ndM S d' g c es v' w u++[bx 4 (inC x)]):=by
 obtain⟨s0,s1,s2,s3,s4,na,ini,p⟩:=g;rw[ZfM zj.eq_1];cases ini<;>simp[ndM,ndC,rgC,mpB,bxv]at hR<;>simp[hR,hv,Zly,zr]
def ZkV(S:StV)(d d':NdV)(g g':RgV)(c:Int)(es:List Zou)(v v' w w' u f:Nat)(x:Zjo)(hv:¬v'=v)(hw:¬w'=w)(hR:R L Cs f [Pt 0] (ndM S d g c es v w u)=some (.w (.c .qT),ndM S d' g' c es v' w' u)) :
  Y L Cs zj (some [6,0]) 4 [(6,.w (.c (fnN f))),(0,.w (Pt 0))] (ndM S d g c es v w u++[bx 4 (inC x)])=some (.exit 1,[(43,.w (Bo false)),(6,.w (.c .qT)),(0,.w (Pt 0))],ndM S d' g' c es v' w' u++[bx 4 (inC x)]):=by
 obtain⟨s0,s1,s2,s3,s4,na,ini,p⟩:=g;obtain⟨r0,r1,r2,r3,r4,ma,jni,p'⟩:=g';rw[ZfM zj.eq_1];cases ini<;>cases jni<;>simp[ndM,ndC,rgC,mpB,bxv]at hR<;>simp[hR,hv,hw,Zly,zr]<;>rw[ZfM zj.eq_1]<;>simp[Zly]
structure Zk7(S:StV)(d:NdV)(g:RgV)(es:List Zou)(n:Nat):Prop where
 rg:ZjQ g
 jR:∀a∈g.jR,zk0 a
 jY:KB S.m g.jY
 now:d.now=g.jY.tick+g.na
 few:d.now<=90000
 ents:EsN n es
 last:0<=d.last/\d.last<=1099511627776
 kW:d.kW.length<=900
def goN(S:StV)(zs:List Zon)(ss:List Sgn)(d:NdV)(k:zci):NdV :=
 if(ZiF S { d with qy:=k }).mode=1 then ZiG S zs ss (ZiF S { d with qy:=k }) else ZiF S { d with qy:=k }
def hrN(S:StV)(zs:List Zon)(ss:List Sgn)(d:NdV)(g:RgV)(c:Int)(es:List Zou)(ks:List Int)(x:Zjo):NdV×(Int×List Zou):=ZiQ d (c,Zh0 (Zhl S zs ss es g).jY.tick ks es) x
def Zla:∀(l:List zZP) (d:NdV) (q:Int×List Zou),(heS l (d,q)).1.now=d.now/\(heS l (d,q)).1.kW=d.kW/\(heS l (d,q)).1.first=d.first/\(heS l (d,q)).1.mode=d.mode/\(heS l (d,q)).1.uu=d.uu/\(heS l (d,q)).1.told=d.told/\(heS l (d,q)).1.qy=d.qy
 |[],d,q=>⟨rfl,rfl,rfl,rfl,rfl,rfl,rfl⟩
 |y::l,d,q=>by
  have h:=Zla l (heD d y) (he3 d q y);have e:(heD d y).now=d.now/\(heD d y).kW=d.kW/\(heD d y).first=d.first/\(heD d y).mode=d.mode/\(heD d y).uu=d.uu/\(heD d y).told=d.told/\(heD d y).qy=d.qy:=by
   unfold heD;split<;>exact⟨rfl,rfl,rfl,rfl,rfl,rfl,rfl⟩
  obtain⟨a1,a2,a3,a4,a5,a6,a7⟩:=h;obtain⟨b1,b2,b3,b4,b5,b6,b7⟩:=e;exact⟨a1.trans b1,a2.trans b2,a3.trans b3,a4.trans b4,a5.trans b5,a6.trans b6,a7.trans b7⟩
def Zj2:∀(l:List zZP) (d:NdV) (q:Int×List Zou),0<=d.last/\d.last<=1099511627776->0<=d.now/\d.now<=1099511627776->0<=(heS l (d,q)).1.last/\(heS l (d,q)).1.last<=1099511627776
 |[],d,q,h,_=>h
 |y::l,d,q,h,hn=>by
  refine Zj2 l (heD d y) (he3 d q y) ?_ (by rw[Zkp];exact hn);unfold heD Zjv;split
  ·rename_i hc;simp only[jk,decide_eq_true_eq]at hc;simp only;omega
  ·exact h
def Zko{S:StV}{d d':NdV}{g g':RgV}{c c':Int}{es es':List Zou}{v v' w w' u u' f:Nat}{xs:List Cl}{X:List Cl}(hxs:xs=[]\/∃x:Zjo,xs=inC x)(hX:∃x:Zjo,X=inC x)(hv:v'=v->d'=d)(hw:w'=w->g'=g)(hu:u'=u->c'=c/\es'=es)
  (hR:R L Cs f (Pt 0::if xs=[] then [] else [.a xs]) (ndM S d g c es v w u)=some (.t [],ndM S d' g' c' es' v' w' u')) :
  ∃fp,zx (R L Cs) ⟨true⟩ (.c (.fn f [] [])) (Pt 0::if xs=[] then [] else [.a xs]) (ndM S d g c es v w u++[bx 4 X])=some (.t [],ndM S d' g' c' es' v' w' u'++[bx 4 X],fp):=by
 obtain⟨x0,rfl⟩:=hX;obtain⟨s0,s1,s2,s3,s4,na,ini,p⟩:=g;obtain⟨r0,r1,r2,r3,r4,ma,jni,p'⟩:=g';by_cases a1:v'=v
 ·have:=hv a1;subst this;subst a1;by_cases a2:w'=w
  ·have:=hw a2;cases this;subst a2;by_cases a3:u'=u
   ·obtain⟨rfl,rfl⟩:=hu a3;subst a3;refine⟨.no,?_⟩;rcases hxs with rfl |⟨x,rfl⟩<;>cases ini<;>simp[ndM,ndC,rgC,mpB,bxv]at hR<;>simp[hR,Zly]
   ·refine⟨.wr [(2,0,whole)],?_⟩;rcases hxs with rfl |⟨x,rfl⟩<;>cases ini<;>simp[ndM,ndC,rgC,mpB,bxv]at hR<;>simp[hR,Zly,a3]
  ·by_cases a3:u'=u
   ·obtain⟨rfl,rfl⟩:=hu a3;subst a3;refine⟨.wr [(1,0,whole)],?_⟩;rcases hxs with rfl |⟨x,rfl⟩<;>cases ini<;>cases jni<;>simp[ndM,ndC,rgC,mpB,bxv]at hR<;>simp[hR,Zly,a2]
   ·refine⟨.wr [(1,0,whole),(2,0,whole)],?_⟩;rcases hxs with rfl |⟨x,rfl⟩<;>cases ini<;>cases jni<;>simp[ndM,ndC,rgC,mpB,bxv]at hR<;>simp[hR,Zly,a2,a3]
 ·by_cases a2:w'=w
  ·have:=hw a2;cases this;subst a2;by_cases a3:u'=u
   ·obtain⟨rfl,rfl⟩:=hu a3;subst a3;refine⟨.wr [(0,0,whole)],?_⟩;rcases hxs with rfl |⟨x,rfl⟩<;>cases ini<;>simp[ndM,ndC,rgC,mpB,bxv]at hR<;>simp[hR,Zly,a1]
   ·refine⟨.wr [(0,0,whole),(2,0,whole)],?_⟩;rcases hxs with rfl |⟨x,rfl⟩<;>cases ini<;>simp[ndM,ndC,rgC,mpB,bxv]at hR<;>simp[hR,Zly,a1,a3]
  ·by_cases a3:u'=u
   ·obtain⟨rfl,rfl⟩:=hu a3;subst a3;refine⟨.wr [(0,0,whole),(1,0,whole)],?_⟩;rcases hxs with rfl |⟨x,rfl⟩<;>cases ini<;>cases jni<;>simp[ndM,ndC,rgC,mpB,bxv]at hR<;>simp[hR,Zly,a1,a2]
   ·refine⟨.wr [(0,0,whole),(1,0,whole),(2,0,whole)],?_⟩;rcases hxs with rfl |⟨x,rfl⟩<;>cases ini<;>cases jni<;>simp[ndM,ndC,rgC,mpB,bxv]at hR<;>simp[hR,Zly,a1,a2,a3]
def ZkX{S:StV}{zs:List Zon}{ss:List Sgn}(hS:z6u S zs ss){d:NdV}{g:RgV}{es:List Zou}{n:Nat}(h:Zk7 S d g es n):ZjQ (Zhl S zs ss es g)/\(Zhl S zs ss es g).na<=4/\(∀a∈(Zhl S zs ss es g).jR,zk0 a)/\KB S.m (Zhl S zs ss es g).jY/\(Zhl S zs ss es g).jY.tick+(Zhl S zs ss es g).na=d.now:=by
 obtain⟨hg,ha,hk,hn,hf,_⟩:=h;have h5:=hg.few;unfold Zhl;by_cases c:g.na=5
 ·have hi:g.ini=false:=by
   cases hi:g.ini with
   |false=>rfl
   |true=>have:=hg.ini hi;omega
  grind [Zj0,List.mem_of_mem_tail]
 grind
def Zlu(S:StV)(d:NdV):Int:=Pl.vh d.told S.car.uj
theorem ZkA{S:StV}{zs:List Zon}{ss:List Sgn}(hS:z6u S zs ss)(q:List Int)(last:Int)(k:zci)(f:Int):(zMT (zLj S.car q last k) f).length<=900:=by
 have h:=zNa hS.car q last (max 0 (min k.ego.vhi 2000)) wA
 grind [zMT]
def Zkv{S:StV}{zs:List Zon}{ss:List Sgn}(hS:z6u S zs ss){d:NdV}(h:d.kW.length<=900):(ZiG S zs ss d).kW.length<=900:=by
 grind [ZiG,ZkA]
def ZkM{S:StV}{zs:List Zon}{ss:List Sgn}(hS:z6u S zs ss){d:NdV}(h:d.kW.length<=900)(K:zci):(goN S zs ss d K).kW.length<=900/\(goN S zs ss d K).now=d.now/\(goN S zs ss d K).last=d.last/\(goN S zs ss d K).qy=K/\(goN S zs ss d K).mode=(if S.uk<d.now-d.last then 2 else d.mode):=by
 unfold goN;split
 ·exact⟨Zkv hS h,rfl,rfl,rfl,rfl⟩
 ·exact⟨h,rfl,rfl,rfl,rfl⟩
def Zlp{S:StV}{zs:List Zon}{ss:List Sgn}(hS:z6u S zs ss){d:NdV}{g:RgV}{es:List Zou}{n:Nat}(h:Zk7 S d g es n)(hn:n+300<=1000)(c:Int)(v w u:Nat)(ks:List Int)(hK:ZjC c es ks)(hks:ks.length<=1000){x:Zjo}(hx:Zlc x)(hx8:x.jP.length<=8/\x.jD.length<=8/\x.jO.length<=8)(ht:x.tick=d.now)
  {d2:NdV} {c2:Int} {es2:List Zou} (e2:hrN S zs ss d g c es ks x=(d2,(c2,es2))) {K:zci} (eK:Zkz S zs ss (Zhl S zs ss es g) es2=(K,true)) :
  ∃v' w' u',(v<v'/\w<w'/\(u<=u'/\(u'=u->c2=c/\es2=es)))/\EsN (n+300) es2 /\
   R L Cs Zh5 [Pt 0,.a (inC x)] (ndM S d g c es v w u)=some (.t [W (Zlu S (ZjL (goN S zs ss d2 K))),W 0],ndM S (ZjL (goN S zs ss d2 K)) (ZhJ (Zhl S zs ss es g) (Pl.vh (goN S zs ss d2 K).kW 0)) c2 es2 v' w' u'):=by
 have hh:=h;obtain⟨hg,ha,hk,hnow,hfew,Bz,yz,hplan⟩:=h;have hk0:=hk.nd.t;obtain⟨g1,g2,g3,g4,g5⟩:=ZkX (zs:=zs) (ss:=ss) hS hh;have h0:=ZkQ S d g c es v w u;obtain⟨w1,u1,m1,m2,h1⟩:=Zkk hS d hg ha hk hnow wA c es (Bz.ok wA) v w u ks hK hks;have Bx:=Bz.fgt (Zhl S zs ss es g).jY.tick ks;obtain⟨v2,u2,⟨m3,m4⟩,yX,h2⟩:=ZkR (S:=S) d (Zhl S zs ss es g) (c,Zh0 (Zhl S zs ss es g).jY.tick ks es) v w1 u1 n wA x hx Bx hn;rw[show ZiQ d (c,Zh0 (Zhl S zs ss es g).jY.tick ks es) x=(d2,(c2,es2)) from e2]at h2 yX m3 m4;simp only at h2 yX m3 m4;have hd:=Zla x.jP d (x.jO.foldl (he2 d) (x.jD.foldl (he1 d) (c,Zh0 (Zhl S zs ss es g).jY.tick ks es)));have hl2:=Zj2 x.jP d (x.jO.foldl (he2 d) (x.jD.foldl (he1 d) (c,Zh0 (Zhl S zs ss es g).jY.tick ks es))) yz wA;rw[show heS x.jP (d,x.jO.foldl (he2 d) (x.jD.foldl (he1 d) (c,Zh0 (Zhl S zs ss es g).jY.tick ks es)))=(d2,(c2,es2)) from e2]at hd hl2;simp only at hd hl2;obtain⟨AR,yZ,-⟩:=hd;have h3:=Zkj hS d2 g1 g3 g4 wA c2 es2 (yX.ok wA) v2 w1 u2;have A0:=ZkP hS es2 (Zhl S zs ss es g).jR (znE S (znB (Zhl S zs ss es g).jY.tick es2) (Zhl S zs ss es g).jY).1 (znE S (znB (Zhl S zs ss es g).jY.tick es2) (Zhl S zs ss es g).jY).2 (g4.A3 _).1 (by
  rw[(g4.A3 _).2];have:(Zhl S zs ss es g).jR.length<=5:=by simp[RgV.jR];omega
  omega)
 have hKB:KB S.m K:=by
  have:=A0.1;have e:chN S zs ss es2 (Zhl S zs ss es g).jR (znE S (znB (Zhl S zs ss es g).jY.tick es2) (Zhl S zs ss es g).jY)=(K,true):=eK;rw[show((znE S (znB (Zhl S zs ss es g).jY.tick es2) (Zhl S zs ss es g).jY).1,(znE S (znB (Zhl S zs ss es g).jY.tick es2) (Zhl S zs ss es g).jY).2)=znE S (znB (Zhl S zs ss es g).jY.tick es2) (Zhl S zs ss es g).jY from rfl,e]at this;exact this
 rw[eK]at h3;simp only[if_true]at h3;clear A0 eK;obtain⟨v4,m5,h4⟩:=ZjV S { d2 with qy:=K } (Zhl S zs ss es g) c2 es2 (v2+1) w1 u2 (by simp only[AR];omega) hl2;have hgo:∃v5,v2<v5/\∀T,Y L Cs zj (some [6,0]) 4 [(6,.w (.c (fnN Zhq))),(0,.w (Pt 0))] (ndM S (goN S zs ss d2 K) (Zhl S zs ss es g) c2 es2 v5 w1 u2++[bx 4 (inC x)])=T->Y L Cs zj (some [6,0]) 4 [(6,.w (.c (fnN ZhW))),(0,.w (Pt 0))] (ndM S d2 (Zhl S zs ss es g) c2 es2 v2 w1 u2++[bx 4 (inC x)])=T:=by
  have s1:=ZjB S d2 _ (Zhl S zs ss es g) c2 es2 v2 (v2+1) w1 u2 _ _ x wA h3;unfold goN;by_cases hm:(ZiF S { d2 with qy:=K }).mode=1
  ·rw[if_pos hm]at h4 ⊢;have s2:=ZjB S _ _ (Zhl S zs ss es g) c2 es2 (v2+1) v4 w1 u2 _ _ x wA h4;obtain⟨v5,m6,h5⟩:=ZjR hS (ZiF S { d2 with qy:=K }) (Zhl S zs ss es g) c2 es2 v4 w1 u2 (show d2.kW.length<=1000 by rw[yZ];omega) (show K.jZ.length<=100000000000 by have:=hKB.nd.len hS;omega);have s3:=ZjB S _ _ (Zhl S zs ss es g) c2 es2 v4 v5 w1 u2 _ _ x wA h5;exact⟨v5,wA,fun T hT=>s1.trans (s2.trans (s3.trans hT))⟩
  ·rw[if_neg hm]at h4 ⊢;have s2:=ZjB S _ _ (Zhl S zs ss es g) c2 es2 (v2+1) v4 w1 u2 _ _ x wA h4;exact⟨v4,wA,fun T hT=>s1.trans (s2.trans hT)⟩
 obtain⟨v5,m6,hgo⟩:=hgo;have hpl:(goN S zs ss d2 K).kW.length<=1000/\(goN S zs ss d2 K).now=d.now:=by
  obtain⟨q1,q2,_⟩:=ZkM (zs:=zs) (ss:=ss) hS (d:=d2) (by rw[yZ];exact hplan) K;exact⟨jT q1 wC,q2.trans AR⟩
 generalize goN S zs ss d2 K=d5 at *;have h6:=Zkl S d5 g1 g2 c2 es2 v5 w1 u2 wA hpl.1;have hlp:=hgo _ (ZkV S d5 (ZjL d5) (Zhl S zs ss es g) _ c2 es2 v5 (v5+4) w1 (w1+2) u2 _ x wA wA h6);have hA:=Pl.CY (ZjL d5).told (show d5.kW.length<=1000 from hpl.1) S.car.uj;refine⟨v5+4,w1+2,u2,⟨wA,wA,wA,fun e=>?_⟩,yX,?_⟩
 ·have e1:=m3.2 wA;have e2':=m2.2 wA;rw[e2']at e1;exact⟨congrArg Prod.fst e1,congrArg Prod.snd e1⟩
 have c1:¬8<max (x.jP.length:Int) (max x.jD.length x.jO.length):=wA
 have c2':¬(1099511626776:Int)<=d.now:=wA
 obtain⟨fp1,hc1⟩:=Zko (f:=Zhz) (xs:=[]) (X:=inC x) (.inl rfl) ⟨x,rfl⟩ (fun _=>rfl) m1.2 (fun q=>⟨rfl,m2.2 q⟩) (by simpa using h1);obtain⟨fp2,hc2⟩:=Zko (f:=Zh4) (xs:=inC x) (X:=inC x) (.inr ⟨x,rfl⟩) ⟨x,rfl⟩ m4.2 (fun _=>rfl) (fun q=>by
  have:=m3.2 q;exact⟨congrArg Prod.fst this,congrArg Prod.snd this⟩) (by simpa using h2)
 have hc0:zx (R L Cs) ⟨true⟩ (.c (.fn Zh3 [] [])) [Pt 0] (ndM S d g c es v w u++[bx 4 (inC x)])=some (.w (Bo false),ndM S d g c es v w u++[bx 4 (inC x)],.no):=by
  obtain⟨s0,s1,s2,s3,s4,na,ini,p⟩:=g;cases ini<;>simp[ndM,ndC,rgC,mpB,bxv]at h0<;>simp[h0,Zly]
 have hcA:∀M,zx (R L Cs) ⟨true⟩ (.c (.fn zGR [] [])) [.a [.jb (zu (ZjL d5).told)],W S.car.uj] M=some (.w (W (Pl.vh (ZjL d5).told S.car.uj)),M,.no):=fun M=>by
  simp[hA]
 unfold Zlu;generalize Pl.vh (ZjL d5).told S.car.uj=cc at *;generalize ZhJ (Zhl S zs ss es g) (Pl.vh d5.kW 0)=g9 at *;generalize Zh0 (Zhl S zs ss es g).jY.tick ks es=es1 at *;generalize Zhl S zs ss es g=g' at *;generalize ZjL d5=d6 at *;clear hg ha hk hnow Bz Bx yX g1 g2 g3 g4 g5 h0 h1 h2 h3 h4 h6 hgo hKB hh e2 hK hA m1 m2 m3 m4 m5 m6 hl2 hpl;obtain⟨xt,xsc,xsp,xfx⟩:=x;simp only at ht c1;subst ht;simp only[inC,List.cons_ne_nil,reduceCtorEq,if_false,if_true,ndM,jh,je]at hc0 hc1 hc2 hlp;rw[zUa Zji rfl];simp[-zx,ZhG,hc0,hc1,hc2,hlp,hcA,c1,c2',Zly,zr];cases g9.ini<;>simp
def Znq(l:List Pss)(hl:l.length<=100000000000)(fnv:Cl)(f:Pss->Bool)(M:Mem)(hc:∀p∈l,zx (R L Cs) ⟨true⟩ (.c fnv) [.a (zKF p)] M=some (.w (Bo (f p)),M,.no))(ha:l.any f=true) :
  ∃k:Nat,k<l.length/\R L Cs zLd [.c (.jb (zKd l)),.c fnv] M=some (.w (W k),M):=by
 have htk:∀p:Pss,List.take (zKF p).length (zKF p)=zKF p:=fun p=>kC
 have h:=zxf (L:=L) (Cs:=Cs) (b:=zHw) (live:=some [7,1,0,8]) (n0:=M.length) l (fun i=>[(7,.w (W l.length)),(1,.w (.c fnv)),(0,.w (.c (.jb (zKd l)))),(8,.w (W i))]) M f (fun i=>(.ret,[(4,.w (W i))],M)) (.exit 0,[(9,.w (Bo false)),(0,.w (.c (.jb (zKd l)))),(1,.w (.c fnv)),(7,.w (W l.length)),(8,.w (W l.length))],M) ?_ ?_ ?_
 ·cases hq:l.findIdx? f with
  |none =>
   grind
  |some k =>
   rw[hq]at h;obtain⟨h1,_⟩:=j6.1 hq;refine⟨k,h1,?_⟩;simp only[jg]at h;rw[zUa zKB rfl];simp[zHI,h]
 ·intro i hi hp;have hw:=zB (i:=i) wA;have hcc:=hc l[i] (jf hi);have ht:=htk l[i];simp only[zNu]at ht;rw[hp]at hcc;rw[ZfM zHw.eq_1];simp[hi,hw,hcc,ht,-zx]
 ·intro i hi hp;have hcc:=hc l[i] (jf hi);have ht:=htk l[i];simp only[zNu]at ht;rw[hp]at hcc;rw[ZfM zHw.eq_1];simp[hi,hcc,ht,-zx]
 simp[ZfM,zHw.eq_1]
def onZ(z:Int)(p:Pss):Bool:=decide (p.qe=z)
def Zme(z:Int)(p:Pss):R L Cs ZlT [.a (zKF p),Pt 0] [bxv 1 1 [I z]]=some (.w (Bo (onZ z p)),[bxv 1 1 [I z]]):=by
 rw[zUa Zmy rfl];unfold onZ;by_cases c:p.qe=z
 ·simp[Zjl,zKF,c,zg,zH]
 simp_all [Zjl,zKF,zg,zH]
abbrev zFn(k:Nat):Cl:=.fn ZlT [] [.ptr k 0 0 0]
def ZmU(z:Int)(ps:List Pss)(hs:ps.length<=1000):R L Cs zKY [.c (.jb (zKd ps)),.c (zFn 0)] [bxv 1 1 [I z]]=some (.w (Bo (ps.any (onZ z))),[bxv 1 1 [I z]]):=by
 obtain⟨k,h1,h2⟩:=zO6 ps wA (zFn 0) (onZ z) [bxv 1 1 [I z]] (fun p _=>by
  have h:=Zme z p
  simp_all [zKF])
 rw[zUa zK2 rfl];simp[zHz,h1,h2]
def Znu(z:Int)(ps:List Pss)(hs:ps.length<=1000)(ha:ps.any (onZ z)=true):∃k:Nat,k<ps.length/\R L Cs zLd [.c (.jb (zKd ps)),.c (zFn 0)] [bxv 1 1 [I z]]=some (.w (W k),[bxv 1 1 [I z]]) :=
 Znq ps wA (zFn 0) (onZ z) [bxv 1 1 [I z]] (fun p _=>by
  have h:=Zme z p
  simp_all [zKF]) ha
abbrev pkE(ps:List Pss)(n i z:Nat)(zn:Nat):Env:=[(83,.w (W i)),(82,.w (W n)),(66,.w (W z)),(65,.w (W zn)),(3,.w (Pt 1)),(1,.w (Pt 0)),(4,.w (.c (.jb (zKd ps)))),(7,.w (Pt 3)),(81,.w (.c (.jb (zKd ps)))),(6,.w (.c (zFn 2))),(8,.w (Pt 4))]
def ZmI(S:StV)(e:Ego)(z zn:Nat)(ps:List Pss)(hs:ps.length<=1000)(f:Pss):∀(r:List Pss) (i v:Nat) (l:Pss),ps.drop i=r->i<=ps.length ->
  ∃v' l',Y L Cs Zja (some [83,82,66,65,3,1,4,7,81,6,8]) 5 (pkE ps ps.length i z zn) [bx 19 (ZlR S),bxv 1 4 (zch e),bxv 1 1 [I z],bxv 1 4 (zKF f),bxv v 4 (zKF l)] =
   some (.exit 2,(84,.w (Bo false))::[(83,.w (W ps.length)),(82,.w (W ps.length)),(66,.w (W z)),(65,.w (W zn)),(3,.w (Pt 1)),(1,.w (Pt 0)),(4,.w (.c (.jb (zKd ps)))),(7,.w (Pt 3)),(81,.w (.c (.jb (zKd ps)))),(6,.w (.c (zFn 2))),(8,.w (Pt 4))],[bx 19 (ZlR S),bxv 1 4 (zch e),bxv 1 1 [I z],bxv 1 4 (zKF f),bxv v' 4 (zKF l')])
 |[],i,v,l,hd,hi=>by
  have ee:i=ps.length:=by
   have:=congrArg List.length hd;simp at this;omega
  subst ee;refine⟨v,l,?_⟩;rw[ZfM Zja.eq_1];simp
 |p::r,i,v,l,hd,hi=>by
  have g1:i<ps.length:=by
   have:=congrArg List.length hd;simp at this;omega
  have g2:ps[i]=p:=by rw[jv g1]at hd;exact(ka hd).1
  have g3:ps.drop (i+1)=r:=by rw[jv g1]at hd;exact(ka hd).2
  have hw:=zB (i:=i) wA;have hci:(i:Int)<ps.length:=wA
  have hP:=Zme z p;cases hz:onZ z p with
  |true =>
   rw[hz]at hP;obtain⟨v',l',ih⟩:=ZmI S e z zn ps hs f r (i+1) (v+1) p g3 wA;refine⟨v',l',?_⟩;rw[<-ih];simp only[zKF]at hP;rw[ZfM Zja.eq_1];simp[hci,g1,g2,hw,hP,zKF,zr,-Int.natCast_add]
  |false =>
   rw[hz]at hP;obtain⟨v',l',ih⟩:=ZmI S e z zn ps hs f r (i+1) v l g3 wA;refine⟨v',l',?_⟩;rw[<-ih];simp only[zKF]at hP;rw[ZfM Zja.eq_1];simp[hci,g1,g2,hw,hP,zKF,zr,-Int.natCast_add]
def Zm0(S:StV)(e:Ego)(zn:Nat)(hzn:zn<=1000)(ps:List Pss)(hs:ps.length<=1000)(hp:∀p∈ps,e.shi<p.lo):∀(f z:Nat),z+f=zn ->
  Y L Cs Zi9 (some [66,65,3,1,4]) 2 [(66,.w (W z)),(65,.w (W zn)),(3,.w (Pt 1)),(1,.w (Pt 0)),(4,.w (.c (.jb (zKd ps))))] [bx 19 (ZlR S),bxv 1 4 (zch e)] =
    some (.exit 0,[(67,.w (Bo false)),(66,.w (W zn)),(65,.w (W zn)),(3,.w (Pt 1)),(1,.w (Pt 0)),(4,.w (.c (.jb (zKd ps))))],[bx 19 (ZlR S),bxv 1 4 (zch e)])
 |0,z,h=>by
  obtain rfl:z=zn:=wA
  rw[ZfM Zi9.eq_1];simp
 |f+1,z,h=>by
  have ih:=Zm0 S e zn hzn ps hs hp f (z+1) wA;have hw:=zB (i:=z) wA;have hci:(z:Int)<zn:=wA
  have hC:=ZmU z ps hs;rw[<-ih];cases ha:ps.any (onZ z)with
  |false =>
   rw[ha]at hC;rw[ZfM Zi9.eq_1];simp[hci,hw,hC,zr,-Int.natCast_add]
  |true =>
   rw[ha]at hC;obtain⟨k,hk,hI⟩:=Znu z ps hs ha;obtain⟨v',l',hL⟩:=ZmI S e z zn ps hs ps[k] ps 0 1 ps[k] rfl (jr _);have hlo:¬ps[k].lo<=e.shi:=by have:=hp _ (jf hk);omega
   simp only[pkE,zKF,jg]at hL;rw[ZfM Zi9.eq_1];simp[hci,hw,hC,hI,hk,hL,hlo,zKF,zr,-Int.natCast_add]
structure Zlr(S:StV)(zs:List Zon):Prop where
 v:S.e0.vlo=0/\S.e0.vhi=0
 s:S.e0.slo<=S.e0.shi/\S.car.len<S.e0.slo/\S.e0.shi-S.e0.slo<S.car.len
 far:S.e0.shi<=zmd S.m 0 S.r
 big:S.e0.shi<=1000000000
 pas:∀p∈zKh S.m zs 0 S.r,S.e0.shi<p.lo
 kind:zaK S.m (S.r.headD 0)=1
 t:0<=S.t0/\S.t0<=50000
def ZnI{S:StV}{zs:List Zon}{ss:List Sgn}(hS:z6u S zs ss)(hB:Zlr S zs):R L Cs ZmL [.a (ZlR S)] []=some (.w (Bo true),[]):=by
 have hf:=hS.full.full;obtain⟨v1,v2⟩:=hB.v;obtain⟨s1,s2,s3⟩:=hB.s;obtain⟨q1,q2,_⟩:=hS.car;have hE:=zsq hf.qO hS.vS;have hP:=zPm hf hS.vS (hS.full.srt _ hS.vS) (hS.full.few _ hS.vS);have hfew:=hS.full.few _ hS.vS;have hz:S.m.qR.length=zs.length:=by have:=hf.zd.z;rw[this];simp[zk8]
 have hL:=Zm0 S S.e0 S.m.qR.length (by have:=hS.full.two;omega) (zKh S.m zs 0 S.r) wA hB.pas S.m.qR.length 0 wA;have hpe:(ZlR S).length=19:=rfl;have hfar:=hB.far;have Bf:=hB.big;have w1:IntKind.i64.wrap (S.e0.shi-S.e0.slo)=S.e0.shi-S.e0.slo:=zTd _ wA wA;have d1:¬S.e0.shi<S.e0.slo:=wA
 have d2:¬S.e0.slo<=S.car.len:=wA
 have d3:¬S.car.len<=S.e0.shi-S.e0.slo:=wA
 have d4:¬zmd S.m 0 S.r<S.e0.shi:=wA
 generalize zKh S.m zs 0 S.r=ps at *;simp only[zf,zch,v1,v2,jg]at hE hP hL;rw[zUa ZmM rfl];simp[ZjK,v1,v2,d1,d2,d3,d4,w1,hE,hP,hL]
def Zl1{f esz bytes:Nat}(hN:L.lookup f=none)(hL:Cs.lookup f=some (esz,bytes,false))(h0:0<esz){rows:List (List Cl)}(hr:rows.length*bytes<=140737488355328)(h:∀x∈rows,x.length=esz):R L Cs f [.c (.jb rows)] []=some (.w (.c (sl 0 esz rows)),[some (own esz rows)]):=by
 have h1:¬esz=0:=wA
 rw[zrP hN];simp[uv,hL,zuh,hr,h1,h0];exact h
def Zmx(l:List Int)(hl:l.length<=100000):R L Cs Zmb [.c (.jb (zu l))] []=some (.w (.c (sl 0 1 (zu l))),[some (own 1 (zu l))]) :=
 Zl1 (esz:=1) (bytes:=8) rfl (by kernel_rfl) wC (by rw[zfq];omega) (fun x hx=>by obtain⟨y,_,rfl⟩:=jW.1 hx;rfl)
def Zna(l:List Prt)(hl:l.length<=100000):R L Cs Zl4 [.c (.jb (zkl l))] []=some (.w (.c (sl 0 4 (zkl l))),[some (own 4 (zkl l))]) :=
 Zl1 (esz:=4) (bytes:=32) rfl (by kernel_rfl) wC (by rw[zCq];omega) (fun x hx=>by obtain⟨y,_,rfl⟩:=jW.1 hx;rfl)
def Zm2(l:List Phs)(hl:l.length<=100000):R L Cs ZlY [.c (.jb (zje l))] []=some (.w (.c (sl 0 2 (zje l))),[some (own 2 (zje l))]) :=
 Zl1 (esz:=2) (bytes:=32) rfl (by kernel_rfl) wC (by rw[zCr];omega) (fun x hx=>by obtain⟨y,_,rfl⟩:=jW.1 hx;rfl)
abbrev Zma(l:List (Int×Int)):List (List Cl):=l.map fun p=>[I p.1,I p.2]
def Zm9(l:List (Int×Int))(hl:l.length<=100000):R L Cs Zl3 [.c (.jb (Zma l))] []=some (.w (.c (sl 0 2 (Zma l))),[some (own 2 (Zma l))]) :=
 Zl1 (esz:=2) (bytes:=16) rfl (by kernel_rfl) wC (by rw[kl];omega) (fun x hx=>by obtain⟨y,_,rfl⟩:=jW.1 hx;rfl)
def Zny(l:List (Int×Int))(hl:l.length<=100000):R L Cs ZmS [.a [.jb (Zma l)]] []=some (.w (.a [.jb (Zma l)]),[]):=by
 have h:=Zm9 l hl;have hh:R L Cs ZmC [.c (.jb (Zma l))] []=some (.w (.a [.jb (Zma l)]),[]):=by
  rw[zUa ZmH rfl];simp[ZjA,h,zX];exact jx wD
 rw[zUa ZmZ rfl];simp[ZjU,hh,zX]
def Znx(l:zfn)(h1:l.pts.length<=100000)(h2:l.next.length<=100000):R L Cs ZlO [.a (zo l)] []=some (.w (.a (zo l)),[]):=by
 have g1:=Zny l.pts h1;have g2:=Zmx l.next h2;rw[zUa ZmF rfl];simp[Zjy,zo,g1,g2,zX]
def Znv(z:Zon)(h:z.parts.length<=100000):R L Cs ZlM [.a (zdP z)] []=some (.w (.a (zdP z)),[]):=by
 have g:=Zna z.parts h;have ht:(zkl z.parts).take z.parts.length=zkl z.parts:=jx wD;rw[zUa ZmD rfl];simp[Zjw,zdP,g,ht,zX]
def Znw(w:zCP):R L Cs ZlN [.a (zaL w)] []=some (.w (.a (zaL w)),[]):=by
 rw[zUa ZmE rfl];simp[Zjx,zaL]
def Znh(s:Sgn)(u0:Nat)(hl:s.j9.length<=1000)(hg:∀p∈s.j9,p.green.length<=100000):∀(f i v:Nat),i+f=s.j9.length ->
  ∃v',Y L Cs Ziy (some [11,10,2,1]) 3 [(11,.w (W i)),(10,.w (W s.j9.length)),(2,.w (Pt 1)),(1,.w (Pt 0))] [bxv u0 2 [I s.offset,.slice 2 s.j9.length 2 0 s.j9.length none],bx 2 [I 0,.jc],some { box:=false,esz:=2,rows:=zje s.j9,gen:=s.j9.length,fz:=false,ver:=v }] =
   some (.exit 0,[(12,.w (Bo false)),(11,.w (W s.j9.length)),(10,.w (W s.j9.length)),(2,.w (Pt 1)),(1,.w (Pt 0))],[bxv u0 2 [I s.offset,.slice 2 s.j9.length 2 0 s.j9.length none],bx 2 [I 0,.jc],some { box:=false,esz:=2,rows:=zje s.j9,gen:=s.j9.length,fz:=false,ver:=v' }])
 |0,i,v,h=>by
  obtain rfl:i=s.j9.length:=wA
  refine⟨v,?_⟩;rw[ZfM Ziy.eq_1];simp
 |f+1,i,v,h=>by
  have h1:i<s.j9.length:=wA
  have hw:=zB (i:=i) wA;have hci:(i:Int)<s.j9.length:=wA
  obtain⟨v',ih⟩:=Znh s u0 hl hg f (i+1) (v+1) wA;refine⟨v',?_⟩;rw[<-ih];have hK:=Zmx s.j9[i].green (hg _ (jf h1));have kY:(zje s.j9)[i]?=some [I s.j9[i].vj,.jb (zu s.j9[i].green)]:=by simp[zje,h1,zr6]
  have AP:(zje s.j9).set i [I s.j9[i].vj,.jb (zu s.j9[i].green)]=zje s.j9:=by
   apply qw;intro k;by_cases hk:i=k
   ·subst hk;rw[jS (by simpa using h1),kY]
   ·rw[jz hk]
  have ht:(zu s.j9[i].green).take s.j9[i].green.length=zu s.j9[i].green:=jx wD;rw[ZfM Ziy.eq_1];simp[hci,h1,hw,kY,AP,hK,ht,zr6,zX,-Int.natCast_add]
def Zm4(s:Sgn)(hl:s.j9.length<=1000)(hg:∀p∈s.j9,p.green.length<=100000):R L Cs ZlK [.a (zeq s)] []=some (.w (.a (zeq s)),[]):=by
 have hK:=Zm2 s.j9 wA;obtain⟨v',hL⟩:=Znh s 1 hl hg s.j9.length 0 s.j9.length wA;have ht:(zje s.j9).take s.j9.length=zje s.j9:=jx wD;simp only[jg]at hL;rw[zUa Zmo rfl];simp[Zi5,zeq,hK,hL,ht,zX]
def Zl9(l:List zfn)(hl:l.length<=1000)(h:∀x∈l,(x.pts.length<=100000/\x.next.length<=100000)):∀(r:List zfn) (i:Nat),l.drop i=r->i<=l.length ->
  Y L Cs ZiB (some [5,10,9,8,1]) 2 [(5,.w (.c (sl 1 5 ((l.take i).map zo)))),(10,.w (W i)),(9,.w (W l.length)),(8,.w (.c (.jb (l.map zo)))),(1,.w (.c (.fn ZlO [] [])))] [gb 5,some (own 5 ((l.take i).map zo))] =
    some (.exit 0,[(11,.w (Bo false)),(5,.w (.c (sl 1 5 (l.map zo)))),(10,.w (W l.length)),(9,.w (W l.length)),(8,.w (.c (.jb (l.map zo)))),(1,.w (.c (.fn ZlO [] [])))],[gb 5,some (own 5 (l.map zo))])
 |[],i,hd,hi=>by
  have e:i=l.length:=by
   have:=congrArg List.length hd;simp at this;omega
  subst e;rw[kC,ZfM ZiB.eq_1];simp
 |x::r,i,hd,hi=>by
  have g1:i<l.length:=by
   have:=congrArg List.length hd;simp at this;omega
  have g2:l[i]=x:=by rw[jv g1]at hd;exact(ka hd).1
  have g3:l.drop (i+1)=r:=by rw[jv g1]at hd;exact(ka hd).2
  have hx:x∈l:=by rw[<-g2];exact jf g1
  have hw:=zB (i:=i) wA;have hci:(i:Int)<l.length:=wA
  have hO:=Znx x (h x hx).1 (h x hx).2;have ih:=Zl9 l hl h r (i+1) g3 wA;have et:(l.take (i+1)).map zo=(l.take i).map zo++[zo x]:=by rw[uq,jq g1,g2];simp
  have kY:(l.map zo)[i]?=some (zo x):=by simp[g1,g2]
  have hlen:((l.take i).map zo).length=i:=by simp;omega
  rw[<-ih,et];have hr:(i+1)*72<=140737488355328:=wA
  generalize (l.take i).map zo=q at *;subst hlen;simp only[zo]at hO kY;rw[ZfM ZiB.eq_1];simp[hci,g1,g2,hw,kY,hO,hr,zo,-Int.natCast_add]
def Znf(l:List zfn)(hl:l.length<=1000)(h:∀x∈l,(x.pts.length<=100000/\x.next.length<=100000)):R L Cs Zmk [.c (.jb (l.map zo)),.c (.fn ZlO [] [])] []=some (.w (.c (.jb (l.map zo))),[]):=by
 have hL:=Zl9 l hl h l 0 rfl (jr _);have ht:(l.map zo).take l.length=l.map zo:=jx wD;simp only[v9,qs,sl,own,jp,kl,jg]at hL;rw[zUa Zmr rfl];simp[Zi8,hL,ht,zr]
def Zl7(l:List Zon)(hl:l.length<=1000)(h:∀x∈l,(x.parts.length<=100000)):∀(r:List Zon) (i:Nat),l.drop i=r->i<=l.length ->
  Y L Cs Ziz (some [5,10,9,8,1]) 2 [(5,.w (.c (sl 1 2 ((l.take i).map zdP)))),(10,.w (W i)),(9,.w (W l.length)),(8,.w (.c (.jb (l.map zdP)))),(1,.w (.c (.fn ZlM [] [])))] [gb 2,some (own 2 ((l.take i).map zdP))] =
    some (.exit 0,[(11,.w (Bo false)),(5,.w (.c (sl 1 2 (l.map zdP)))),(10,.w (W l.length)),(9,.w (W l.length)),(8,.w (.c (.jb (l.map zdP)))),(1,.w (.c (.fn ZlM [] [])))],[gb 2,some (own 2 (l.map zdP))])
 |[],i,hd,hi=>by
  have e:i=l.length:=by
   have:=congrArg List.length hd;simp at this;omega
  subst e;rw[kC,ZfM Ziz.eq_1];simp
 |x::r,i,hd,hi=>by
  have g1:i<l.length:=by
   have:=congrArg List.length hd;simp at this;omega
  have g2:l[i]=x:=by rw[jv g1]at hd;exact(ka hd).1
  have g3:l.drop (i+1)=r:=by rw[jv g1]at hd;exact(ka hd).2
  have hx:x∈l:=by rw[<-g2];exact jf g1
  have hw:=zB (i:=i) wA;have hci:(i:Int)<l.length:=wA
  have hO:=Znv x (h x hx);have ih:=Zl7 l hl h r (i+1) g3 wA;have et:(l.take (i+1)).map zdP=(l.take i).map zdP++[zdP x]:=by rw[uq,jq g1,g2];simp
  have kY:(l.map zdP)[i]?=some (zdP x):=by simp[g1,g2]
  have hlen:((l.take i).map zdP).length=i:=by simp;omega
  rw[<-ih,et];have hr:(i+1)*32<=140737488355328:=wA
  generalize (l.take i).map zdP=q at *;subst hlen;simp only[zdP]at hO kY;rw[ZfM Ziz.eq_1];simp[hci,g1,g2,hw,kY,hO,hr,zdP,-Int.natCast_add]
def Znd(l:List Zon)(hl:l.length<=1000)(h:∀x∈l,(x.parts.length<=100000)):R L Cs Zmi [.c (.jb (l.map zdP)),.c (.fn ZlM [] [])] []=some (.w (.c (.jb (l.map zdP))),[]):=by
 have hL:=Zl7 l hl h l 0 rfl (jr _);have ht:(l.map zdP).take l.length=l.map zdP:=jx wD;simp only[v9,qs,sl,own,jp,kl,jg]at hL;rw[zUa Zmp rfl];simp[Zi6,hL,ht,zr]
def ZlX(l:List Sgn)(hl:l.length<=1000)(h:∀x∈l,(x.j9.length<=1000/\∀p∈x.j9,p.green.length<=100000)):∀(r:List Sgn) (i:Nat),l.drop i=r->i<=l.length ->
  Y L Cs Zik (some [5,10,9,8,1]) 2 [(5,.w (.c (sl 1 2 ((l.take i).map zeq)))),(10,.w (W i)),(9,.w (W l.length)),(8,.w (.c (.jb (l.map zeq)))),(1,.w (.c (.fn ZlK [] [])))] [gb 2,some (own 2 ((l.take i).map zeq))] =
    some (.exit 0,[(11,.w (Bo false)),(5,.w (.c (sl 1 2 (l.map zeq)))),(10,.w (W l.length)),(9,.w (W l.length)),(8,.w (.c (.jb (l.map zeq)))),(1,.w (.c (.fn ZlK [] [])))],[gb 2,some (own 2 (l.map zeq))])
 |[],i,hd,hi=>by
  have e:i=l.length:=by
   have:=congrArg List.length hd;simp at this;omega
  subst e;rw[kC,ZfM Zik.eq_1];simp
 |x::r,i,hd,hi=>by
  have g1:i<l.length:=by
   have:=congrArg List.length hd;simp at this;omega
  have g2:l[i]=x:=by rw[jv g1]at hd;exact(ka hd).1
  have g3:l.drop (i+1)=r:=by rw[jv g1]at hd;exact(ka hd).2
  have hx:x∈l:=by rw[<-g2];exact jf g1
  have hw:=zB (i:=i) wA;have hci:(i:Int)<l.length:=wA
  have hO:=Zm4 x (h x hx).1 (h x hx).2;have ih:=ZlX l hl h r (i+1) g3 wA;have et:(l.take (i+1)).map zeq=(l.take i).map zeq++[zeq x]:=by rw[uq,jq g1,g2];simp
  have kY:(l.map zeq)[i]?=some (zeq x):=by simp[g1,g2]
  have hlen:((l.take i).map zeq).length=i:=by simp;omega
  rw[<-ih,et];have hr:(i+1)*32<=140737488355328:=wA
  generalize (l.take i).map zeq=q at *;subst hlen;simp only[zeq]at hO kY;rw[ZfM Zik.eq_1];simp[hci,g1,g2,hw,kY,hO,hr,zeq,-Int.natCast_add]
def ZmW(l:List Sgn)(hl:l.length<=1000)(h:∀x∈l,(x.j9.length<=1000/\∀p∈x.j9,p.green.length<=100000)):R L Cs Zl5 [.c (.jb (l.map zeq)),.c (.fn ZlK [] [])] []=some (.w (.c (.jb (l.map zeq))),[]):=by
 have hL:=ZlX l hl h l 0 rfl (jr _);have ht:(l.map zeq).take l.length=l.map zeq:=jx wD;simp only[v9,qs,sl,own,jp,kl,jg]at hL;rw[zUa Zl6 rfl];simp[ZiK,hL,ht,zr]
def Zl8(l:List zCP)(hl:l.length<=1000)(h:∀x∈l,True):∀(r:List zCP) (i:Nat),l.drop i=r->i<=l.length ->
  Y L Cs ZiA (some [5,10,9,8,1]) 2 [(5,.w (.c (sl 1 6 ((l.take i).map zaL)))),(10,.w (W i)),(9,.w (W l.length)),(8,.w (.c (.jb (l.map zaL)))),(1,.w (.c (.fn ZlN [] [])))] [gb 6,some (own 6 ((l.take i).map zaL))] =
    some (.exit 0,[(11,.w (Bo false)),(5,.w (.c (sl 1 6 (l.map zaL)))),(10,.w (W l.length)),(9,.w (W l.length)),(8,.w (.c (.jb (l.map zaL)))),(1,.w (.c (.fn ZlN [] [])))],[gb 6,some (own 6 (l.map zaL))])
 |[],i,hd,hi=>by
  have e:i=l.length:=by
   have:=congrArg List.length hd;simp at this;omega
  subst e;rw[kC,ZfM ZiA.eq_1];simp
 |x::r,i,hd,hi=>by
  have g1:i<l.length:=by
   have:=congrArg List.length hd;simp at this;omega
  have g2:l[i]=x:=by rw[jv g1]at hd;exact(ka hd).1
  have g3:l.drop (i+1)=r:=by rw[jv g1]at hd;exact(ka hd).2
  have hw:=zB (i:=i) wA;have hci:(i:Int)<l.length:=wA
  have hO:=Znw x;have ih:=Zl8 l hl h r (i+1) g3 wA;have et:(l.take (i+1)).map zaL=(l.take i).map zaL++[zaL x]:=by rw[uq,jq g1,g2];simp
  have kY:(l.map zaL)[i]?=some (zaL x):=by simp[g1,g2]
  have hlen:((l.take i).map zaL).length=i:=by simp;omega
  rw[<-ih,et];have hr:(i+1)*48<=140737488355328:=wA
  generalize (l.take i).map zaL=q at *;subst hlen;simp only[zaL]at hO kY;rw[ZfM ZiA.eq_1];simp[hci,g1,g2,hw,kY,hO,hr,zaL,-Int.natCast_add]
def Zne(l:List zCP)(hl:l.length<=1000)(h:∀x∈l,True):R L Cs Zmj [.c (.jb (l.map zaL)),.c (.fn ZlN [] [])] []=some (.w (.c (.jb (l.map zaL))),[]):=by
 have hL:=Zl8 l hl h l 0 rfl (jr _);have ht:(l.map zaL).take l.length=l.map zaL:=jx wD;simp only[v9,qs,sl,own,jp,kl,jg]at hL;rw[zUa Zmq rfl];simp[Zi7,hL,ht,zr]
def ZnH{m:zD}{zs:List Zon}{ss:List Sgn}(hF:zKj m zs ss):R L Cs ZmR [.a (zf m)] []=some (.w (.a (zf m)),[]):=by
 have hf:=hF.full;have hz:=hf.zd.z;have hs:=hf.zd.s;have h1:=Znf m.jd (by have:=hf.yn.few;omega) (fun l hl=>by
  obtain⟨x0,y0,x1,y1,e,_⟩:=hf.one.one l hl;refine⟨by rw[e];simp,?_⟩;have:=hf.qO.small.next l hl;omega)
 have h2:=Znd zs (by have:=hF.two;omega) (fun z hq=>by have:=hf.zd.pfew z hq;omega);have h3:=ZmW ss (by have:=hf.zd.sfew;omega) (fun s hq=>by
  have:=hf.zd.ph s hq;exact⟨by have:=this.few;omega,fun p hp=>by have:=this.green p hp;omega⟩)
 have h4:=Zne m.kT hF.kT (fun _ _=>trivial);rw[zUa ZmY rfl];simp only[zk8,zjd]at hz hs;simp[ZjT,zf,hz,hs,h1,h2,h3,h4]
def ZmV{S:StV}{zs:List Zon}{ss:List Sgn}(hS:z6u S zs ss):R L Cs Zmv [.a (ZlR S)] []=some (.w (.a (ZlR S)),[]):=by
 have h1:=ZnH hS.full;have hr2:=zlP hS.full.full.yn hS.vS;have h2:=Zmx S.r wA;simp only[zf]at h1;rw[zUa Zmz rfl];simp[Zjm,h1,h2,zX]
def ZmX{S:StV}{zs:List Zon}{ss:List Sgn}(hS:z6u S zs ss)(hB:Zlr S zs):R L Cs Zmd [.a (ZlR S)] []=some (.w (W 0),[]):=by
 have hf:=hS.full.full;have hr2:=zlP hf.yn hS.vS;obtain⟨hon,hne,hl8⟩:=zg1 hf.qO hS.vS;have h1:=hf.qO.chk;have h2:=zQC hf.qO hS.full.fit.1;have h3:=zos S.m hf.qO.small h1 S.r wA;rw[hS.vS]at h3;have h4:=Pl.Ap hS.car;have h5:=ZnI hS hB;have hk:=hB.kind;have hb:=hS.bud;have hs:=hS.sil;have ht:=hB.t;obtain⟨x,r,hr⟩:∃x r,S.r=x::r:=by cases h:S.r with|nil=>exact absurd h hne|cons x r=>exact⟨x,r,rfl⟩
 have hx:=hon x (by rw[hr];exact js);obtain⟨j,rfl⟩:=jA hx.1;have hj:j<S.m.jd.length:=wA
 rw[hr]at hk;have hk2:S.m.jd[j].kind=1:=by
  simpa [zaK,hj]using hk
 have d1:¬S.t0<0:=wA
 have d2:¬(1099510627776:Int)<S.t0:=wA
 have d3:¬S.kH<0:=wA
 have d4:¬(8:Int)<S.kH:=wA
 have d5:¬S.uk<0:=wA
 have d6:¬(1000:Int)<S.uk:=wA
 have vl:(zu S.r)[0]?=some [I (j:Int)]:=by rw[hr];rfl
 have hlen:0<S.r.length:=by rw[hr];simp
 have hg0:∀h:0<S.r.length,S.r[0]=(j:Int):=fun h=>by simp[hr]
 simp only[zf,Pl.kS]at h1 h2 h3 h4;rw[zUa Zmg rfl];simp[ZiX,h1,h2,h3,h4,h5,d1,d2,d3,d4,d5,d6,hlen,hg0,hj,zo,hk2]
def nd0(S:StV):NdV:=⟨S.t0,S.t0,S.t0,1,[0],0,[0],Zhv S ⟨S.t0,zTA 0 S.m.jd,S.e0⟩,0⟩
def rg0(S:StV):RgV:=⟨0,0,0,0,0,0,true,Zhv S ⟨S.t0,zTA 0 S.m.jd,S.e0⟩⟩
set_option maxRecDepth 100000
open Go Go.Eng Go.PlanLaw
def zT7:List Pss->Bool
 |[]=>true
 |[_]=>true
 |[p,q]=>decide (p.lo<=q.lo)&&decide (p.hi<=q.hi)&&decide (q.lo<=p.hi+300)
 |_=>false
def zTY(ps:List Pss)(z:Int):Bool:=zT7 (ps.filter fun p=>decide (p.qe=z))
def zT6(k:Nat)(hk:k<7)(lim r o1 o2 o3 v:Int)(ws:List zCP):zTx (zq k lim r o1 o2 o3 v ws) (fun l=>(List.range (zsP k r).length).all fun z=>zTY (zKh (zq k lim r o1 o2 o3 v ws) (zsP k r) 0 l) z)=true:=match k,hk with
 |0,_=>by kernel_rfl
 |1,_=>by kernel_rfl
 |2,_=>by kernel_rfl
 |3,_=>by kernel_rfl
 |4,_=>by kernel_rfl
 |5,_=>by kernel_rfl
 |6,_=>by kernel_rfl
def zT3(k:Nat)(hk:k<7)(lim r o1 o2 o3 v:Int)(ws:List zCP):zaK (zq k lim r o1 o2 o3 v ws) ((zDT (zq k lim r o1 o2 o3 v ws) 0).headD 0)=1:=match k,hk with
 |0,_=>by kernel_rfl
 |1,_=>by kernel_rfl
 |2,_=>by kernel_rfl
 |3,_=>by kernel_rfl
 |4,_=>by kernel_rfl
 |5,_=>by kernel_rfl
 |6,_=>by kernel_rfl
set_option maxRecDepth 10000
open Go Go.Eng Go.PlanLaw
def zTQ{m:zD}(h:zcp m):∀(r:List zfn) (i:Nat),m.jd.drop i=r->∀b∈zTA i r,VB m b/\(i:Int)<=b.lane
 |[],i,_,b,hb=>by cases hb
 |l::r,i,hd,b,hb=>by
  obtain⟨hi,hx,hd'⟩:=zL hd;unfold zTA at hb;rcases jK.1 hb with rfl|hb
  ·have hlen:z8 m (i:Int)=l.len:=by simp[z8,hi,hx]
   have hl1:=h.Cf l (by rw[<-hx];exact jf hi);have htop:0<=zeR l.kind:=by unfold zeR;(repeat' split)<;>omega
   have hkd:zaK m (i:Int)=l.kind:=by simp[zaK,hi,hx]
   refine⟨⟨⟨by simp[zTF],by simp[zTF];omega⟩,by simp[zTF],by simp[zTF];omega,by simp[zTF,hlen],by simp[zTF],by simpa [zTF]using htop,by simp[zTF,hkd],by simp[zTF,hlen];omega⟩,by simp[zTF]⟩
  ·have:=zTQ h r (i+1) hd' b hb;exact⟨this.1,wA⟩
def zTX{m:zD}(h:zcp m):∀(r:List zfn) (i:Nat),m.jd.drop i=r->(zTA i r).Pairwise Apt
 |[],i,_=>List.Pairwise.nil
 |l::r,i,hd=>by
  obtain⟨hi,hx,hd'⟩:=zL hd;unfold zTA;refine jX.2 ⟨fun b hb=>.inl ?_,zTX h r (i+1) hd'⟩;have:=(zTQ h r (i+1) hd' b hb).2;show(i:Int)<b.lane;omega
open Go Go.Eng
def KNd.zero{S:StV}{zs:List Zon}{ss:List Sgn}(hS:z6u S zs ss)(hB:Zlr S zs):KNd S.m ⟨S.t0,zTA 0 S.m.jd,S.e0⟩:=by
 have hg:=hS.full.full.qO;obtain⟨v1,v2⟩:=hB.v;obtain⟨s1,s2,s3⟩:=hB.s;obtain⟨q1,q2,_⟩:=hS.car;have hb:=hB.big;have ht:=hB.t;refine⟨⟨fun b hb=>(zTQ hg S.m.jd 0 rfl b hb).1,zTX hg S.m.jd 0 rfl,⟨⟨by simp only;omega,by simp only;omega,by simp only;omega⟩,⟨by simp only;omega,by simp only;omega,by simp only;omega⟩⟩⟩,by simp only;omega⟩
def KB.zero{S:StV}{zs:List Zon}{ss:List Sgn}(hS:z6u S zs ss)(hB:Zlr S zs):KB S.m (Zhv S ⟨S.t0,zTA 0 S.m.jd,S.e0⟩):=by
 have hb:=hB.big;have ht:=hB.t;exact⟨(KNd.zero hS hB).own,by simp only[Zhv];omega,by simp only[Zhv];omega⟩
abbrev Zn3(S:StV):List Cl:=[I S.m.version,.jb (S.m.jd.map zo),.jb S.m.qR,.jb S.m.signals,.jb (S.m.kT.map zaL),.jb (zu S.r),I S.car.len,I S.car.qN,I S.car.qk,I S.car.vX,I S.car.uj,I S.e0.slo,I S.e0.shi,I S.e0.vlo,I S.e0.vhi,I S.t0,I S.kH,I S.uk,.bool S.sig,
 I S.m.version,.jb (S.m.jd.map zo),.jb S.m.qR,.jb S.m.signals,.jb (S.m.kT.map zaL),.jb (zu S.r),.jb (zu (zW S.m 0 S.r)),I (zmd S.m 0 S.r),I S.car.len,.jb (zu (S.m.jd.map zfn.len)),.jb (zgU (srcs S)),
 I S.t0,I S.t0,I S.t0,I 1,.jb [[I 0]],.kX,.map 1 true,I 0,.jc,I 0,.jc,I 0,I 0,I 0,I 0,I 0]
def ZnJ{S:StV}{zs:List Zon}{ss:List Sgn}(hS:z6u S zs ss)(v:Nat){k:zci}(hk:k.jZ.length<=300000000)(he:znd k.ego):R L Cs Zjk [Pt 0,.a (zG k)] [bxv v 46 (Zn3 S),mpB 0 [] 0]=some (.w (.a (zG (Zhv S k))),[bxv v 46 (Zn3 S),mpB 0 [] 0]):=by
 have hG:=hS.full.full.qO;obtain⟨hon,hne,hl8⟩:=zg1 hG hS.vS;have hr2:=zlP hS.full.full.yn hS.vS;have hc:=hS.car;have hlen:0<=S.car.len/\S.car.len<=20000:=by obtain⟨q1,q2,_⟩:=hc;omega
 have hes:=he.s;have h1:=zor hG S.r wA hon S.car.len k.ego wA hlen k.jZ (by
  have:2 ^ S.r.length<=2 ^ 8:=u5 wC wA
  calc k.jZ.length*2 ^ S.r.length<=300000000*2 ^ 8:=v8 hk this
   _<=100000000000:=by decide)
 have h2:=zvv k.jZ wA;simp only[zh,zi,zch]at h1;rw[zUa Zjq rfl];simp[ZhN,zG,Zhv,h1,h2,zX,Zly]
def Znz{S:StV}{zs:List Zon}{ss:List Sgn}(hS:z6u S zs ss)(hB:Zlr S zs):R L Cs ZlW [.a (ZlR S)] []=some (.t [Pt 0,W 0],ndM S (nd0 S) (rg0 S) 0 [] 4 0 0):=by
 have hf:=hS.full.full;have hk:=KNd.zero hS hB;have h1:=ZmX hS hB;have h2:=ZmV hS;have h3:=zB9 hf.qO hS.vS S.car.len;have h4:=Zn6 hf.qO S.t0 S.e0;have h5:=ZnJ hS 1 (k:=⟨S.t0,zTA 0 S.m.jd,S.e0⟩) (by have:=hk.len hS;omega) hk.j.ego;have e0:(Zhv S ⟨S.t0,zTA 0 S.m.jd,S.e0⟩).tick=S.t0/\(Zhv S ⟨S.t0,zTA 0 S.m.jd,S.e0⟩).ego=S.e0:=⟨rfl,rfl⟩;unfold nd0 rg0;generalize Zhv S ⟨S.t0,zTA 0 S.m.jd,S.e0⟩=K at *;obtain⟨kt,kb,ke⟩:=K;simp only at e0;obtain⟨rfl,rfl⟩:=e0;generalize zTA 0 S.m.jd=A at *;simp only[zf,zh,zi,zG,zch,mpB,qs]at h3 h4 h5;rw[zUa ZmG rfl];simp[Zjz,h1,h2,h3,h4,h5,zr]
def ZnK{S:StV}(d:NdV)(g:RgV)(c:Int)(es:List Zou)(v w u:Nat)(hk:d.qy.jZ.length<=100000000000) :
  R L Cs Zml [Pt 0] (ndM S d g c es v w u)=some (.w (.a (zG d.qy)),ndM S d g c es v w u):=by
 have h0:=ZkQ S d g c es v w u;have h1:=z1I d.qy hk;obtain⟨s0,s1,s2,s3,s4,n,ini,p⟩:=g;simp only[zG]at h1;rw[zUa Zmt rfl];cases ini<;>simp[ndM,ndC,rgC,mpB,bxv]at h0<;>simp[Zjc,h0,h1,zG,Zly]
set_option maxRecDepth 100000
open Go Go.Eng Go.PlanLaw
def Zn5(m:zD)(zs:List Zon)(l:List Int):Bool:=!(decide (l.headD 0∈zbK m 0 m.jd)&&decide (zaK m (l.headD 0)=1))||((zKh m zs 0 l).all (fun p=>decide (10250<p.lo))&&decide (10250<=zmd m 0 l))
def Zn4(k:Nat)(hk:k<7)(lim r o1 o2 o3 v:Int)(ws:List zCP):zTx (zq k lim r o1 o2 o3 v ws) (Zn5 (zq k lim r o1 o2 o3 v ws) (zsP k r))=true:=match k,hk with
 |0,_=>by kernel_rfl
 |1,_=>by kernel_rfl
 |2,_=>by kernel_rfl
 |3,_=>by kernel_rfl
 |4,_=>by kernel_rfl
 |5,_=>by kernel_rfl
 |6,_=>by kernel_rfl
structure ZnL(m:zD)(zs:List Zon)(ss:List Sgn):Prop where
 full:zKj m zs ss
 con:∀l,zdA m l=0->∀z:Nat,z<zs.length->zTY (zKh m zs 0 l) z=true
 k0:zaK m ((zDT m 0).headD 0)=1
 wl:∀w∈m.kT,0<=w.vY
 beg:∀k,zaK m ((zDT m k).headD 0)=1->(∀p∈zKh m zs 0 (zDT m k),10250<p.lo)/\10250<=zmd m 0 (zDT m k)
def ZnA(n:Int):∃m zs ss,ZnL m zs ss/\R L Cs zY [W n] []=some (.w (.a (zf m)),[]):=by
 obtain⟨k,lim,r,o1,o2,o3,v,ws,hk,nu,hR⟩:=zA5 n;have hF:=zTs k hk nu;refine⟨_,_,_,⟨hF,fun l hr z hz=>?_,zT3 k hk lim r o1 o2 o3 v ws,fun x hx=>?_,fun j hj=>?_⟩,hR⟩
 ·exact jw.1 (zTp hF.full.yn (zT6 k hk lim r o1 o2 o3 v ws) hr) z (uF.2 hz)
 ·obtain⟨j,hj,_,_,_,_,_,_,_,h7,_⟩:=nu.wv x hx;exact h7
 ·have hr:=zE5 hF.full hF.pos j;have hb:=zTp hF.full.yn (Zn4 k hk lim r o1 o2 o3 v ws) hr;have hne:=zFr hF.full.yn hF.pos;have hin:(zDT (zq k lim r o1 o2 o3 v ws) j).headD 0∈zbK (zq k lim r o1 o2 o3 v ws) 0 (zq k lim r o1 o2 o3 v ws).jd:=by
   have hlen:0<(zbK (zq k lim r o1 o2 o3 v ws) 0 (zq k lim r o1 o2 o3 v ws).jd).length:=kD.2 hne;unfold zDT;rw[if_neg hne,List.headD_cons];have hi:=qF (j % 1048576).toNat hlen;rw[jG,jq hi];exact jf hi
  unfold Zn5 at hb;simp only[hin,hj,decide_true,Bool.and_self,Bool.not_true,ux,jk,decide_eq_true_eq,jw]at hb;exact hb
def Zns(m:zD)(k bu si dl s sp ln ac br ra:Int)(sg:Bool):StV :=
 ⟨m,zDT m k,⟨300+ln % 4700,1+ac % 30,50+br % 41,20+ra % 101,dl % 6⟩,⟨300+ln % 4700+1+s % 5000,300+ln % 4700+1+s % 5000+sp % 250,0,0⟩,0,bu % 9,si % 12,sg⟩
def ZnR{m:zD}{zs:List Zon}{ss:List Sgn}(hM:ZnL m zs ss){k:Int}(hk:k=0\/zaK m ((zDT m k).headD 0)=1)(bu si dl s sp ln ac br ra:Int)(sg:Bool) :
  z6u (Zns m k bu si dl s sp ln ac br ra sg) zs ss/\Zlr (Zns m k bu si dl s sp ln ac br ra sg) zs:=by
 have hkd:zaK m ((zDT m k).headD 0)=1:=by
  rcases hk with rfl|h
  ·exact hM.k0
  ·exact h
 obtain⟨b1,b2⟩:=hM.beg k hkd;have hro:=zE5 hM.full.full hM.full.pos k;unfold Zns;refine⟨⟨hM.full,hro,?_,?_,?_⟩,⟨⟨rfl,rfl⟩,?_,?_,?_,?_,hkd,?_⟩⟩
 ·unfold Car.ok;simp only;omega
 all_goals simp only
 all_goals first |omega |skip
 intro p hp;have:=b1 p hp;omega
def ZnS(n r dl bu si s sp ln ac br ra:Int)(sg:Bool):∃m zs ss k,ZnL m zs ss/\(k=0\/zaK m ((zDT m k).headD 0)=1) /\
  R L Cs ZlI [.a [I n,I r,I dl,I bu,I si,I s,I sp,I ln,I ac,I br,I ra,.bool sg]] []=some (.w (.a (ZlR (Zns m k bu si dl s sp ln ac br ra sg))),[]):=by
 obtain⟨m,zs,ss,hM,hR⟩:=ZnA n;obtain⟨k,hk,hRt⟩:=zT8 hM.full.full.qO r;refine⟨m,zs,ss,k,hM,hk,?_⟩;have e1:=zEW bu 9 wA wA;have e2:=zEW si 12 wA wA;have e3:=zEW dl 6 wA wA;have e4:=zD0 ln 4700 wA wA;have e5:=zD0 ac 30 wA wA;have e6:=zD0 br 41 wA wA;have e7:=zD0 ra 101 wA wA;have e8:=zD0 s 5000 wA wA;have e9:=zD0 sp 250 wA wA;have w1:=zTd (300+ln % 4700) wA wA;have w2:=zTd (1+ac % 30) wA wA;have w3:=zTd (50+br % 41) wA wA;have w4:=zTd (20+ra % 101) wA wA;have w5:=zTd (300+ln % 4700+1) wA wA;have w6:=zTd (300+ln % 4700+1+s % 5000) wA wA;have w7:=zTd (300+ln % 4700+1+s % 5000+sp % 250) wA wA;rw[zUa ZlV rfl];simp only[zf]at hR hRt;unfold Zns;simp[Zil,hR,hRt,e1,e2,e3,e4,e5,e6,e7,e8,e9,w1,w2,w3,w4,w5,w6,w7]
set_option maxRecDepth 10000
open Go Go.Eng Go.PlanLaw
def zUm(m:zD)(zs:List Zon)(ss:List Sgn)(r:List Int)(c:zK8)(k:zci)(p:List Int)(signals:Bool):(zOk m zs ss r c k p signals).1=true <->
  zKW m r c k=true/\uK c p=0/\(zKr m zs ss r c.len (zKh m zs 0 r) (pvV m zs r) signals p 0 k).1=none/\fbF m r p k.tick k.ego=none/\zLQ c.len (pvV m zs r) (zKr m zs ss r c.len (zKh m zs 0 r) (pvV m zs r) signals p 0 k).2=true:=by
 unfold zOk;by_cases h:zKW m r c k=true/\uK c p=0
 ·rw[if_pos h];unfold zNw zLH;generalize zKr m zs ss r c.len (zKh m zs 0 r) (pvV m zs r) signals p 0 k=V;obtain⟨v1,v2⟩:=V;cases v1 with
  |none =>
   by_cases hs:zLQ c.len (pvV m zs r) v2=true
   ·rw[if_pos hs];cases fbF m r p k.tick k.ego with
    |none=>grind [zKX]
    |some b=>simp[zKX]
   ·rw[if_neg hs];cases fbF m r p k.tick k.ego with
    |none=>grind [zKX]
    |some b=>simp[zKX]
  |some x =>
   cases fbF m r p k.tick k.ego with
   |none=>simp[zKX]
   |some b =>
    grind [zKX]
 grind
def Zjt(S:StV)(zs:List Zon)(ss:List Sgn)(k:zci)(p:List Int):Bool:=(zOk S.m zs ss S.r S.car k p S.sig).1
structure ZkT(S:StV)(zs:List Zon)(ss:List Sgn):Prop where
 ok:z6u S zs ss
 be:Zlr S zs
 con:∀z:Nat,z<zs.length->zTY (zKh S.m zs 0 S.r) z=true
 wl:∀w∈S.m.kT,0<=w.vY
theorem InE.trans{a b c:Ego}(h:InE a b)(g:InE b c):InE a c:=⟨by have:=h.slo;have:=g.slo;omega,by have:=h.shi;have:=g.shi;omega,by have:=h.vlo;have:=g.vlo;omega,by have:=h.vhi;have:=g.vhi;omega⟩
theorem InE.refl(a:Ego):InE a a:=⟨jQ _,jQ _,jQ _,jQ _⟩
theorem InK.trans{a b c:zci}(h:InK a b)(g:InK b c):InK a c:=⟨h.tick.trans g.tick,h.ego.trans g.ego,h.bl.trans g.bl⟩
def KNd.le{m:zD}{k:zci}(h:KNd m k):Le k.jZ:=fun x hx=>(h.j.vb x hx).le
def Zke{S:StV}{k:zci}(h:KNd S.m k):InK (Zhv S k) k:=⟨rfl,.refl _,(zVd S.m k.ego S.car.len S.r h.le).1⟩
def Zle{m:zD}{k:zci}(h:KNd m k)(x:zZP):InK (Zib m k x) k:=⟨rfl,.refl _,z0e h.le⟩
def ZkE{S:StV}:∀(l:List zZP) {k:zci} (b:Bool),KNd S.m k->InK (ZiH S l (k,b)).1 k
 |[],k,b,_=>InK.refl k
 |x::l,k,b,h=>(ZkE l (b&&ZiS S.m (Zhv S (Zib S.m k x)) x.pts) (h.upd x).own).trans ((Zke (h.upd x)).trans (Zle h x))
def Zkn(kH:Int)(ok:List Int->Bool):∀(t:List (List Int)) (i:Nat),0<=(zK5 kH ok t i).1->∃j,j<t.length/\(zK5 kH ok t i).1=((i+j:Nat):Int)/\ok (t.getD j [])=true
 |[],i,h=>by simp[zK5]at h
 |p::t,i,h=>by
  unfold zK5 at h ⊢;split
  ·rename_i c;rw[if_pos c]at h;simp at h
  ·rename_i c;rw[if_neg c]at h;split
   ·rename_i c2;exact⟨0,wD,wD,by simpa using c2⟩
   ·rename_i c2;rw[if_neg c2]at h;obtain⟨j,h1,h2,h3⟩:=Zkn kH ok t (i+1) h;exact⟨j+1,by simp;omega,by rw[h2];omega,by simpa using h3⟩
def ZkW{S:StV}{zs:List Zon}{ss:List Sgn}(hc:S.car.ok)(d:NdV)(h:0<=(Zkd S zs ss d).1):Zjt S zs ss d.qy (ZiG S zs ss d).kW=true/\(ZiG S zs ss d).kW.length<=125:=by
 unfold ZiG;simp only[if_pos h];unfold Zkd zOU at h ⊢;obtain⟨j,h1,h2,h3⟩:=Zkn _ _ _ 0 h;unfold zMT;rw[h2,if_neg wA,show(((0+j:Nat):Int)).toNat=j by omega];constructor
 ·unfold okC at h3;simp only[jk,decide_eq_true_eq]at h3;obtain⟨⟨h4,h5⟩,h6⟩:=h3;unfold Zjt zOk;rw[if_pos ⟨h4,h5⟩];exact h6
 ·have hl:=fun up hold=>zOt hc (Zh2 d S.car.uj.toNat) d.uu (max 0 (min d.qy.ego.vhi 2000)) up hold wA
  have hm:(zLj S.car (Zh2 d S.car.uj.toNat) d.uu d.qy).getD j []∈zLj S.car (Zh2 d S.car.uj.toNat) d.uu d.qy:=by
   rw[jG,jq h1];exact jf h1
  generalize (zLj S.car (Zh2 d S.car.uj.toNat) d.uu d.qy).getD j []=p at *;simp only[zLj,Pl.yp,jK,qg,or_false]at hm;rcases hm with rfl|rfl|rfl|rfl|rfl|rfl|rfl|rfl
  ·have:=hl 6 4;omega
  ·have:=hl 6 0;omega
  ·have:=hl 3 4;omega
  ·have:=hl 3 0;omega
  ·have:=hl 1 4;omega
  ·have:=hl 1 0;omega
  ·have:=hl 0 4;omega
  ·have:=hl 0 0;omega
def uB{S:StV}{a b:zci}(h:InK a b)(ha:KNd S.m a):InK (Zhv S a) (Zhv S b):=⟨h.tick,h.ego,zUG S.m h.ego S.car.len S.r h.bl ha.le⟩
def ZpY{m:zD}{a b:zci}(h:InK a b)(ha:KNd m a)(x:zZP):InK (Zib m a x) (Zib m b x):=⟨h.tick,h.ego,z0n h.bl ha.le⟩
theorem ZpD:∀(l:List Mrk) (k:zci) (b:Bool),(ZhZ l (k,b)).2=true->b=true
 |[],k,b,h=>h
 |x::l,k,b,h=>by
  have:=ZpD l _ (b&&(z9f k x.st x.lo x.hi).2) h;simp only[jk]at this;exact this.1
theorem Zo9:∀(l:List Mrk) (k:zci) (b:Bool),(Zis l (k,b)).2=true->b=true
 |[],k,b,h=>h
 |x::l,k,b,h=>by
  have:=Zo9 l _ (b&&(Zag k x.st x.lo x.hi).2) h;simp only[jk]at this;exact this.1
def Zp5{S:StV}:∀(l:List zZP) (k:zci) (b:Bool),(ZiH S l (k,b)).2=true->b=true
 |[],k,b,h=>h
 |x::l,k,b,h=>by
  have:=Zp5 l _ (b&&ZiS S.m (Zhv S (Zib S.m k x)) x.pts) h;simp only[jk]at this;exact this.1
def ZoU(S:StV)(es:List Zou)(t:Int)(k:zci):znE S (znB t es) k=znE S (some (Ziq es t)) k:=by
 unfold Ziq;cases znB t es<;>rfl
def Zql{S:StV}{h:Hrd}{k:zci}(ok:(znE S (some h) k).2=true):(ZhZ h.jD (k,true)).2=true/\(Zis h.jO (ZhZ h.jD (k,true))).2=true:=by
 have h1:(Zis h.jO (ZhZ h.jD (k,true))).2=true:=Zp5 h.jP _ _ ok;exact⟨Zo9 h.jO (ZhZ h.jD (k,true)).1 (ZhZ h.jD (k,true)).2 h1,h1⟩
def Zqa{S:StV}{zs:List Zon}{ss:List Sgn}{es:List Zou}:∀(l:List Int) (k:zci) (b:Bool),(chN S zs ss es l (k,b)).2=true->b=true
 |[],k,b,h=>h
 |x::l,k,b,h=>by
  have:=Zqa l _ (b&&(znE S (znB (k.tick+1) es) (ZhP S zs ss k x)).2) h;simp only[jk]at this;exact this.1
def Zpt{S:StV}{zs:List Zon}{ss:List Sgn}(hS:z6u S zs ss){a b:zci}(h:InK a b)(ha:KNd S.m a)(hb:KNd S.m b)(x:Int):InK (ZhP S zs ss a x) (ZhP S zs ss b x):=(zVi hS.full.full S.r S.car.len h ha.chk hb.chk x S.sig).1
set_option maxRecDepth 100000
open Go Go.Eng
structure Zoz(n:Nat)(c:Int)(es:List Zou):Prop where
 few:es.length<=n
 lt:∀b∈es.map (·.born),b<c
 nb:(es.map (·.born)).Nodup
 nk:(es.map (·.key)).Nodup
 C9:∀k∈es.map (·.key),zk0 k
theorem Zoz.nil(c:Int):Zoz 0 c []:=⟨jm _,wD,wD,wD,wD⟩
theorem Zoz.mono{n m:Nat}{c:Int}{es:List Zou}(h:Zoz n c es)(hm:n<=m):Zoz m c es:=⟨jT h.few hm,h.lt,h.nb,h.nk,h.C9⟩
def Zpg{t:Int}:∀{es:List Zou} {i:Nat},ZiR t es i=none->t∉es.map (·.key)
 |[],i,_=>wD
 |e::es,i,h=>by
  unfold ZiR at h;split at h
  ·grind
  ·rename_i hc;simp only[kR,jK,not_or];exact⟨hc,Zpg h⟩
def Zpf{t:Int}{y:Hrd}:∀{es:List Zou} {i j:Nat},ZiR t es i=some (j,y)->∃k,j=i+k/\(es.map (·.key))[k]?=some t
 |[],i,j,h=>by grind [ZiR]
 |e::es,i,j,h=>by
  unfold ZiR at h;split at h
  ·simp_all
  ·obtain⟨k,h1,h2⟩:=Zpf h;exact⟨k+1,wA,by grind⟩
def ZoN{α β:Type}{f:α->α}{g:α->β}:∀(l:List α) (i:Nat),(∀a,l[i]?=some a->g (f a)=g a)->(l.modify i f).map g=l.map g
 |[],i,_=>wD
 |a::l,0,h=>by grind
 |a::l,i+1,h=>by simp[ZoN l i (fun b hb=>h b (by grind))]
def Zoz.put{n:Nat}{q:Int×List Zou}(h:Zoz n q.1 q.2){t:Int}(ht:zk0 t)(y:Hrd):Zoz (n+1) (ZiZ t y q).1 (ZiZ t y q).2:=by
 obtain⟨c,es⟩:=q;obtain⟨h1,h2,h3,h4,h5⟩:=h;unfold ZiZ;simp only;cases hf:ZiR t es 0 with
 |none =>
  have hn:=Zpg hf;refine⟨by grind,fun b hb=>?_,?_,?_,fun k hk=>?_⟩
  ·grind
  ·grind
  ·grind
  grind
 |some r =>
  obtain⟨j,y'⟩:=r;obtain⟨k,hj,hk⟩:=Zpf hf;have eb:(es.modify j fun e=>(⟨e.born,t,y⟩:Zou)).map (·.born)=es.map (·.born):=ZoN _ _ (fun a _=>rfl);have ek:(es.modify j fun e=>(⟨e.born,t,y⟩:Zou)).map (·.key)=es.map (·.key):=ZoN _ _ (fun a ha=>by
   grind)
  exact⟨by grind,by grind,by grind,by grind,by grind⟩
def Zoz.del{n:Nat}{c:Int}{es:List Zou}(h:Zoz n c es)(t:Int):Zoz n c (ZjP t es):=by
 unfold ZjP;split
 ·rename_i i _ _;have hs:=List.eraseIdx_sublist es i;have hb:=hs.map (fun e:Zou=>e.born);have hk:=hs.map (fun e:Zou=>e.key);exact⟨jT hs.length_le h.few,fun b m=>h.lt b (hb.subset m),h.nb.sublist hb,h.nk.sublist hk,fun k m=>h.C9 k (hk.subset m)⟩
 grind
def Zoz.fgt{n:Nat}{c:Int}(t:Int):∀(ks:List Int) {es:List Zou},Zoz n c es->Zoz n c (Zh0 t ks es)
 |[],es,h=>h
 |k::ks,es,h=>by
  show Zoz n c (Zh0 t ks (if k<t then ZjP k es else es));split
  ·exact Zoz.fgt t ks (h.del k)
  ·exact Zoz.fgt t ks h
def ZpF{d:NdV}(hn:0<=d.now/\d.now<=100000){st:Int}(h:Zjv d st=true):zk0 st:=by
 unfold Zjv at h
 grind [zk0]
def Zoz.he1{n:Nat}{d:NdV}(hn:0<=d.now/\d.now<=100000){q:Int×List Zou}(h:Zoz n q.1 q.2)(y:Mrk):Zoz (n+1) (he1 d q y).1 (he1 d q y).2:=by
 unfold Go.TrRun.he1;split
 ·rename_i c;exact h.put (ZpF hn c) _
 ·exact h.mono (kL n)
def Zoz.he2{n:Nat}{d:NdV}(hn:0<=d.now/\d.now<=100000){q:Int×List Zou}(h:Zoz n q.1 q.2)(y:Mrk):Zoz (n+1) (he2 d q y).1 (he2 d q y).2:=by
 unfold Go.TrRun.he2;split
 ·rename_i c;exact h.put (ZpF hn c) _
 ·exact h.mono (kL n)
def Zoz.he3{n:Nat}{d:NdV}(hn:0<=d.now/\d.now<=100000){q:Int×List Zou}(h:Zoz n q.1 q.2)(y:zZP):Zoz (n+1) (he3 d q y).1 (he3 d q y).2:=by
 unfold Go.TrRun.he3;split
 ·rename_i c;exact h.put (ZpF hn c) _
 ·exact h.mono (kL n)
def Zoz.fold{α:Type}{F:Int×List Zou->α->Int×List Zou}(hF:∀n q y,Zoz n q.1 q.2->Zoz (n+1) (F q y).1 (F q y).2):∀(l:List α) {n:Nat} {q:Int×List Zou},Zoz n q.1 q.2->Zoz (n+l.length) (l.foldl F q).1 (l.foldl F q).2
 |[],n,q,h=>h
 |y::l,n,q,h=>(Zoz.fold hF l (hF n q y h)).mono (by grind)
def Zoz.heS:∀(l:List zZP) {n:Nat} {d:NdV} (hn:0<=d.now/\d.now<=100000) {q:Int×List Zou},Zoz n q.1 q.2->Zoz (n+l.length) (heS l (d,q)).2.1 (heS l (d,q)).2.2
 |[],n,d,hn,q,h=>h
 |y::l,n,d,hn,q,h=>(Zoz.heS l (d:=heD d y) (by grind [Zkp]) (h.he3 hn y)).mono (by grind)
def Zoz.hear{n:Nat}{d:NdV}(hn:0<=d.now/\d.now<=100000){q:Int×List Zou}(h:Zoz n q.1 q.2)(x:Zjo):Zoz (n+(x.jD.length+x.jO.length+x.jP.length)) (ZiQ d q x).2.1 (ZiQ d q x).2.2:=by
 have h1:=Zoz.fold (F:=Go.TrRun.he1 d) (fun n q y h=>h.he1 hn y) x.jD h;have h2:=Zoz.fold (F:=Go.TrRun.he2 d) (fun n q y h=>h.he2 hn y) x.jO h1;exact(Zoz.heS x.jP hn h2).mono wA
def ksE(es:List Zou):List Int:=zfI (es.map (·.key))
def Zpe:∀es:List Zou,Zo0 (es.map Zly)=some (es.map fun e=>(e.born,e.key))
 |[]=>rfl
 |e::es=>by simp[Zo0,Zly,Zpe es]
def Zpz{n:Nat}{c:Int}{es:List Zou}(h:Zoz n c es)(hn:n<=1000):ZjC c es (ksE es):=fun u=>by
 have e1:(es.map fun e=>(e.born,e.key)).map (·.1)=es.map (·.born):=wD
 have e2:(es.map fun e=>(e.born,e.key)).map (·.2)=es.map (·.key):=wD
 have ve:((es.map fun e=>(e.born,e.key)).all fun p=>decide (p.1<c/\-9223372036854775808<=p.2/\p.2<9223372036854775808))=true:=by
  rw[jw];intro p hp;obtain⟨e,he,rfl⟩:=jW.1 hp;have:=h.C9 e.key (qI he);exact decide_eq_true ⟨h.lt e.born (qI he),by grind [zk0]⟩
 have hl:(es.map fun e=>(e.born,e.key)).length<=1000000:=by have:=h.few;grind
 have hm:=Zia (M:=[bx 1 [.map 1 true],mpB c es u]) (id:=1) rfl;rw[zrP (by kernel_rfl)];have hcs:Cs.lookup Zit=some (0,64*Zhd+1,false):=by kernel_rfl
 unfold uv;have hk:ZpA Zhd (.fn Zhd [] [.ptr 0 0 0 0]) [bx 1 [.map 1 true],mpB c es u]=some (.w (.c (.jb (zu (ksE es)))),[bx 1 [.map 1 true],mpB c es u]):=by
  unfold ZpA;simp only[show Eng.look [bx 1 [.map 1 true],mpB c es u] 0 0=some { box:=true,esz:=1,rows:=[[.map 1 true]],gen:=0,fz:=false,ver:=0 } from rfl,hm,Zpe];rw[e1,e2,if_pos ⟨trivial,trivial,hl,ve,h.nb,h.nk⟩];rfl
 grind
def ZpB(x:Int):∀l:List Int,(zwP x l).length=l.length+1
 |[]=>rfl
 |y::l=>by
  unfold zwP;split
  ·rfl
  ·simp[ZpB x l]
def Zo1:∀l:List Int,(zfI l).length=l.length
 |[]=>rfl
 |x::l=>by simp[zfI,ZpB,Zo1 l]
def Zqi{n:Nat}{c:Int}{es:List Zou}(h:Zoz n c es):(ksE es).length<=n:=by
 unfold ksE;rw[Zo1,kl];exact h.few
set_option maxRecDepth 10000
open Go Go.Eng
abbrev ndX(S:StV)(d:NdV)(a b:Nat):List Cl:=[I S.m.version,.jb (S.m.jd.map zo),.jb S.m.qR,.jb S.m.signals,.jb (S.m.kT.map zaL),.jb (zu S.r),I S.car.len,I S.car.qN,I S.car.qk,I S.car.vX,I S.car.uj,I S.e0.slo,I S.e0.shi,I S.e0.vlo,I S.e0.vhi,I S.t0,I S.kH,I S.uk,.bool S.sig,
 I S.m.version,.jb (S.m.jd.map zo),.jb S.m.qR,.jb S.m.signals,.jb (S.m.kT.map zaL),.jb (zu S.r),.jb (zu (zW S.m 0 S.r)),I (zmd S.m 0 S.r),I S.car.len,.jb (zu (S.m.jd.map zfn.len)),.jb (zgU (srcs S)),
 I d.now,I d.first,I d.last,I d.mode,.jb (zu d.kW),.ptr a 0 0 0,.map b true,I d.uu,.jb (zu d.told),I d.qy.tick,.jb (zI d.qy.jZ),I d.qy.ego.slo,I d.qy.ego.shi,I d.qy.ego.vlo,I d.qy.ego.vhi,I d.looked]
def rg3:List.range 3=[0,1,2]:=rfl
def ZoW(S:StV)(zs:List Zon)(ss:List Sgn)(l:List Int)(k:zci):zci:=l.foldl (ZhP S zs ss) k
def Zpn{S:StV}{zs:List Zon}{ss:List Sgn}(hS:z6u S zs ss):∀(l:List Int) (k:zci),KB S.m k->k.tick+l.length<=100000->KB S.m (ZoW S zs ss l k)/\(ZoW S zs ss l k).tick=k.tick+l.length
 |[],k,h,ht=>⟨h,by simp[ZoW]⟩
 |a::l,k,h,ht=>by
  simp only[jl]at ht;obtain⟨h1,h2⟩:=h.step hS wA a;obtain⟨h5,h6⟩:=Zpn hS l _ h1 (by grind);refine⟨h5,h6.trans ?_⟩
  grind
abbrev loE(i na:Nat)(A:Cl):Env:=[(21,.w (W i)),(20,.w (W na)),(19,.w (.c A)),(0,.w (Pt 0)),(3,.w (Pt 3))]
def Zqr(M:Mem):Y L Cs Zio (some [21,20,19,0,3]) 4 [(21,.w (W 0)),(20,.w (W 0)),(19,.w (.c .jc)),(0,.w (Pt 0)),(3,.w (Pt 3))] M=some (.exit 0,[(22,.w (Bo false)),(21,.w (W 0)),(20,.w (W 0)),(19,.w (.c .jc)),(0,.w (Pt 0)),(3,.w (Pt 3))],M):=by
 rw[ZfM Zio.eq_1];simp
def ZpK{S:StV}{zs:List Zon}{ss:List Sgn}(hS:z6u S zs ss)(d:NdV){g:RgV}(hg:g.na<=5)(hi0:g.ini=false)(ha:∀a∈g.jR,zk0 a)(c:Int)(es:List Zou)(v w u:Nat):∀(f i:Nat) (k:zci) (vk:Nat),i+f=g.na->KB S.m k->k.tick+f<=100000 ->
  ∃vk',Y L Cs Zio (some [21,20,19,0,3]) 4 (loE i g.na (.bsl 1 0 0 0 1 g.na 5)) (ndM S d g c es v w u++[bxv vk 6 (zG k)]) =
   some (.exit 0,(22,.w (Bo false))::loE g.na g.na (.bsl 1 0 0 0 1 g.na 5),ndM S d g c es v w u++[bxv vk' 6 (zG (ZoW S zs ss (g.jR.drop i) k))])
 |0,i,k,vk,hf,hk,ht=>by
  obtain rfl:i=g.na:=wA
  have e:g.jR.drop g.na=[]:=uc (by simp[RgV.jR];omega);rw[e];refine⟨vk,?_⟩;obtain⟨s0,s1,s2,s3,s4,n,ini,p⟩:=g;simp only at hi0;subst hi0;rw[ZfM Zio.eq_1];simp[ZoW,Zly]
 |f+1,i,k,vk,hf,hk,ht=>by
  have hin:i<g.na:=wA
  have e:=ZkB hg hin;have ha0:zk0 (Zir g i):=ha _ (qp (by rw[e];exact js));obtain⟨k1,k2⟩:=hk.step hS wA (Zir g i);have h1:=Zkc hS d g c es v w u hk.nd (Zir g i) ha0;obtain⟨vk',ih⟩:=ZpK hS d hg hi0 ha c es v w u f (i+1) (ZhP S zs ss k (Zir g i)) (vk+1) wA k1 (by rw[k2];omega);refine⟨vk',?_⟩;have ec:ZoW S zs ss (g.jR.drop i) k=ZoW S zs ss (g.jR.drop (i+1)) (ZhP S zs ss k (Zir g i)):=by rw[e];rfl
  rw[ec,<-ih];have hw:=zB (i:=i) wA;have hci:(i:Int)<g.na:=wA
  clear ih ec k1 k2;generalize ZhP S zs ss k (Zir g i)=ks at *;obtain⟨s0,s1,s2,s3,s4,n,ini,p⟩:=g;simp only at hi0 hg hin hci;subst hi0;simp only[zG]at h1;rw[ZfM Zio.eq_1];simp[ndM,ndC,rgC,mpB,bxv]at h1;have e1:(1:Int)<n<->1<n:=wA
  have e2:(2:Int)<n<->2<n:=wA
  have e3:(3:Int)<n<->3<n:=wA
  have e4:(4:Int)<n<->4<n:=wA
  rcases i with _|_|_|_|_|i
  case succ.succ.succ.succ.succ=>omega
  all_goals simp only[Zir]at h1
  all_goals have hin':=hin
  all_goals simp[loE,hin',e1,e2,e3,e4,h1,wk1,wk2,wk3,wk4,wk5,zG,Zly,-Int.natCast_add]
def ZoJ(S:StV)(zs:List Zon)(ss:List Sgn)(d:NdV)(g:RgV):zci:=Zhv S ⟨d.now,zTA 0 S.m.jd,(ZoW S zs ss g.jR g.jY).ego⟩
def ZoO(S:StV)(zs:List Zon)(ss:List Sgn)(d:NdV)(g:RgV):NdV:={ d with qy:=ZoJ S zs ss d g,first:=d.now,mode:=2 }
def ZoH(k:zci):RgV:=⟨0,0,0,0,0,0,true,k⟩
abbrev Zqg(S:StV)(zs:List Zon)(ss:List Sgn)(d:NdV)(g:RgV)(c:Int)(es:List Zou)(v w u a b:Nat):Mem:=[bxv v 46 (ndX S (ZoO S zs ss d g) a b),bxv w 12 (rgC 1 g),mpB c es u]
def ZpJ{S:StV}{zs:List Zon}{ss:List Sgn}(hS:z6u S zs ss)(d:NdV){g:RgV}(hg:ZjQ g)(ha:∀a∈g.jR,zk0 a)(hk:KB S.m g.jY)(ht:g.jY.tick+g.na<=100000)(hn:d.now=g.jY.tick+g.na)(c:Int)(es:List Zou)(v w u:Nat) :
  R L Cs ZiI [Pt 0] (ndM S d g c es v w u)=some (.w (.c (fnN ZhK)),Zqg S zs ss d g c es (v+5) w u 3 4++[bxv 0 12 (rgC 3 (ZoH (ZoJ S zs ss d g))),mpB 0 [] 0]):=by
 have hacts:g.jR.length<=g.na:=by grind [RgV.jR]
 obtain⟨k1,k2⟩:=Zpn (zs:=zs) (ss:=ss) hS g.jR g.jY hk wA;have hA:=Zn6 hS.full.full.qO d.now (ZoW S zs ss g.jR g.jY).ego;have h0:=hk.nd.t;have hkn:KNd S.m ⟨d.now,zTA 0 S.m.jd,(ZoW S zs ss g.jR g.jY).ego⟩:=⟨⟨fun b hb=>(zTQ hS.full.full.qO S.m.jd 0 rfl b hb).1,zTX hS.full.full.qO S.m.jd 0 rfl,k1.nd.j.ego⟩,by grind⟩;have hO:=ZjW hS d g c es v w u (k:=⟨d.now,zTA 0 S.m.jd,(ZoW S zs ss g.jR g.jY).ego⟩) (by have:=hkn.len hS;omega) hkn.j.ego;have eK:(ZoJ S zs ss d g).tick=d.now:=rfl;have BT:∃vk',(g.ini=true/\g.jR=[]/\vk'=0)\/(g.ini=false/\Y L Cs Zio (some [21,20,19,0,3]) 4 (loE 0 g.na (.bsl 1 0 0 0 1 g.na 5)) (ndM S d g c es v w u++[bxv 1 6 (zG g.jY)]) =
   some (.exit 0,(22,.w (Bo false))::loE g.na g.na (.bsl 1 0 0 0 1 g.na 5),ndM S d g c es v w u++[bxv vk' 6 (zG (ZoW S zs ss g.jR g.jY))])):=by
  cases hi:g.ini with
  |true=>exact⟨0,.inl ⟨rfl,by simp[RgV.jR,hg.ini hi],rfl⟩⟩
  |false =>
   obtain⟨vk',h⟩:=ZpK hS d hg.few hi ha c es v w u g.na 0 g.jY 1 wA hk ht
   grind
 clear hkn k1 k2;unfold Zqg ZoO;change R L Cs _ _ _=some (_,[bxv _ _ (ndX S { d with qy:=ZoJ S zs ss d g,first:=d.now,mode:=2 } 3 4),_,_]++_);have hO':R L Cs Zjk [Pt 0,.a (zG ⟨d.now,zTA 0 S.m.jd,(ZoW S zs ss g.jR g.jY).ego⟩)] (ndM S d g c es v w u)=some (.w (.a (zG (ZoJ S zs ss d g))),ndM S d g c es v w u):=hO;clear hO;obtain⟨vk',BT⟩:=BT;generalize ZoJ S zs ss d g=K at *;generalize zTA 0 S.m.jd=AL at *;obtain⟨kt,kb,ke⟩:=K;rcases BT with⟨hi,he,-⟩ |⟨hi,hL⟩
 ·rw[he]at hA hO';have h00:=hg.ini hi;have es0:ZoW S zs ss [] g.jY=g.jY:=rfl;rw[es0]at hA hO';obtain⟨s0,s1,s2,s3,s4,n,ini,p⟩:=g;simp only at hi h00;subst hi;subst h00;simp only[zf,zG,zch]at hA hO';rw[zUa ZoK rfl];simp[ndM,ndC,rgC,mpB,bxv]at hO'
  simp_all [ZiL,Zqr,zG,zch,Zly,zr,ZoH,rg3]
 ·generalize ZoW S zs ss g.jR g.jY=P at *;obtain⟨pt,pb,pe⟩:=P;obtain⟨s0,s1,s2,s3,s4,n,ini,p⟩:=g;simp only at hi;subst hi;simp only[zf,zG,zch,loE,ndM,jh,je,jg]at hA hO' hL;rw[zUa ZoK rfl]
  simp_all [ndC,rgC,mpB,bxv,ZiL,zG,zch,Zly,zr,ZoH,rg3]
abbrev tlM(S:StV)(d:NdV)(g':RgV)(v w':Nat)(g:RgV)(c:Int)(es:List Zou)(w u:Nat)(X:List Cl):Mem:=[bxv v 46 (ndX S d 4 5),bxv w 12 (rgC 1 g),mpB c es u,bx 4 X,bxv w' 12 (rgC 4 g'),mpB 0 [] 0]
def Zqd{S:StV}{zs:List Zon}{ss:List Sgn}{d:NdV}{g:RgV}{c:Int}{es:List Zou}{v w u:Nat}(x:Zjo)
  (hR:R L Cs ZiI [Pt 0] (ndM S d g c es v w u)=some (.w (.c (fnN ZhK)),Zqg S zs ss d g c es (v+5) w u 3 4++[bxv 0 12 (rgC 3 (ZoH (ZoJ S zs ss d g))),mpB 0 [] 0])) :
  Y L Cs zj (some [6,0]) 4 [(6,.w (.c (fnN ZiI))),(0,.w (Pt 0))] (ndM S d g c es v w u++[bx 4 (inC x)])=Y L Cs zj (some [6,0]) 4 [(6,.w (.c (fnN ZhK))),(0,.w (Pt 0))] (tlM S (ZoO S zs ss d g) (ZoH (ZoJ S zs ss d g)) (v+5) 0 g c es w u (inC x)):=by
 unfold Zqg at hR;generalize ZoO S zs ss d g=d' at *;generalize ZoJ S zs ss d g=K at *;obtain⟨s0,s1,s2,s3,s4,na,ini,p⟩:=g;rw[ZfM zj.eq_1];cases ini<;>simp[ndM,ndC,rgC,mpB,bxv,ZoH]at hR<;>simp[hR,Zly,zr,ZoH]<;>rfl
def Zqc{S:StV}{d d':NdV}{k:zci}{g:RgV}{c:Int}{es:List Zou}{v v' w u f f':Nat}(x:Zjo)(hv:¬v'=v)(hR:R L Cs f [Pt 0] (ndM S d (ZoH k) 0 [] v 0 0)=some (.w (.c (fnN f')),ndM S d' (ZoH k) 0 [] v' 0 0)) :
  Y L Cs zj (some [6,0]) 4 [(6,.w (.c (fnN f))),(0,.w (Pt 0))] (tlM S d (ZoH k) v 0 g c es w u (inC x))=Y L Cs zj (some [6,0]) 4 [(6,.w (.c (fnN f'))),(0,.w (Pt 0))] (tlM S d' (ZoH k) v' 0 g c es w u (inC x)):=by
 obtain⟨s0,s1,s2,s3,s4,na,ini,p⟩:=g;rw[ZfM zj.eq_1];simp[ndM,ndC,rgC,mpB,bxv,ZoH]at hR;cases ini<;>simp[hR,hv,Zly,zr,ZoH]<;>rfl
def Zqe{S:StV}{d d':NdV}{k:zci}{g g':RgV}{c:Int}{es:List Zou}{v v' w w' u f:Nat}(x:Zjo)(hv:¬v'=v)(hw:¬w'=0)(hi:g'.ini=false)(hR:R L Cs f [Pt 0] (ndM S d (ZoH k) 0 [] v 0 0)=some (.w (.c .qT),ndM S d' g' 0 [] v' w' 0)) :
  Y L Cs zj (some [6,0]) 4 [(6,.w (.c (fnN f))),(0,.w (Pt 0))] (tlM S d (ZoH k) v 0 g c es w u (inC x))=some (.exit 1,[(43,.w (Bo false)),(6,.w (.c .qT)),(0,.w (Pt 0))],tlM S d' g' v' w' g c es w u (inC x)):=by
 obtain⟨s0,s1,s2,s3,s4,na,ini,p⟩:=g;obtain⟨r0,r1,r2,r3,r4,ma,jni,p'⟩:=g';simp only at hi;subst hi;rw[ZfM zj.eq_1];simp[ndM,ndC,rgC,mpB,bxv,ZoH]at hR;cases ini<;>simp[hR,hv,hw,Zly,zr,ZoH]<;>rw[ZfM zj.eq_1]<;>simp[Zly]
structure LM(k:Nat)(S:StV)(d:NdV)(g:RgV)(c:Int)(es:List Zou)(v w u p q:Nat)(M:Mem):Prop where
 nd:M[k]?=some (bxv v 46 (ndX S d p q))
 rg:M[p]?=some (bxv w 12 (rgC p g))
 mp:M[q]?=some (mpB c es u)
 kp:k≠p
 kq:k≠q
 pq:p≠q
variable{k:Nat}{S:StV}{d d':NdV}{g g':RgV}{c c':Int}{es es':List Zou}{v v' w w' u u' p q:Nat}{M:Mem}
def LM.len(h:LM k S d g c es v w u p q M):k<M.length/\p<M.length/\q<M.length:=⟨(jy.1 h.nd).1,(jy.1 h.rg).1,(jy.1 h.mp).1⟩
def LM.drop(h:LM k S d g c es v w u p q M){n:Nat}(hn:k<n)(E:Env):LM k S d g c es v w u p q (km n E M):=by
 unfold km;split
 ·exact h
 ·split
  ·rename_i hb;simp only[jk]at hb;have hb:=hb.2;have h1:(M.take n)[k]?=some (bxv v 46 (ndX S d p q)):=by rw[kd hn];exact h.nd
   have h2:([ndX S d p q]:List (List Cl)).all (fun r=>r.all (Eng.below n))=true:=jw.1 hb _ (kF h1);have h3:=jw.1 h2 _ (js ..);have h4:Eng.below n (.ptr p 0 0 0)=true:=jw.1 h3 _ wD;have h5:Eng.below n (.map q true)=true:=jw.1 h3 _ wD;have h4:p+1<=n:=of_decide_eq_true h4;have h5:q+1<=n:=of_decide_eq_true h5;exact⟨h1,by rw[kd wA];exact h.rg,by rw[kd wA];exact h.mp,h.kp,h.kq,h.pq⟩
  ·exact h
def ZqU{n i:Nat}(hi:i<n)(E:Env):(km n E M)[i]?=M[i]?:=by
 unfold km;split
 ·rfl
 ·split
  ·exact kd hi
  ·rfl
def Zo5{ρ:Nat->Option Nat}{id:Nat}{ids:List Nat}{b b' b0:Blk}{Ms M M1:Mem}{ch:List Nat}(h0:M[id]?=some (some b0))(hr:zhj ρ b=some b')(he:b.ver=b0.ver->b'=b0)(hb:back ρ ids Ms M=some (M1,ch))(h1:M1[id]?=some (some b0)) :
  ∃ch',back ρ (id::ids) (some b::Ms) M=some (M1.set id (some b'),ch'):=by
 unfold back;simp only[h0];by_cases c:b.ver=b0.ver
 ·rw[if_pos c,hb,he c];refine⟨ch,?_⟩;obtain⟨hl,e⟩:=jy.1 h1;rw[<-e,List.set_getElem_self]
 ·rw[if_neg c,hr,hb];exact⟨_,rfl⟩
def LM.on(h:LM k S d g c es v w u p q M){f:Nat}{xs:List Cl}(hxs:xs=[]\/∃x:Zjo,xs=inC x){r:AV}{Ms:Mem}(hR:R L Cs f (Pt 0::if xs=[] then [] else [.a xs]) (ndM S d g c es v w u)=some (r,Ms)) :
  zx (R L Cs) ⟨true⟩ (.c (.fn f [] [])) (Pt k::if xs=[] then [] else [.a xs]) M=uC [k,p,q] M r Ms:=by
 obtain⟨h1,h2,h3,n1,n2,n3⟩:=h;have hc:collect M zfj [k] []=[k,p,q]:=by
  cases hi:g.ini<;>simp[collect,zpw,h1,h2,h3,Blk.ids,CB,hi,n1,n2,n3,n1.symm,n2.symm,n3.symm]
 have ht:zck M (zd3 [k,p,q]) [k,p,q]=some (ndM S d g c es v w u):=by
  cases hi:g.ini<;>simp[zck,h1,h2,h3,zhj,zd3,n1,n2,n3,hi,Zly]
 have hnd:zku [k,p,q]=true:=by simp[zku,n1,n2,n3]
 have qE:zcG (R L Cs) f (Pt k::if xs=[] then [] else [.a xs]) M=uC [k,p,q] M r Ms:=by
  unfold zcG;have e1:(Pt k::if xs=[] then [] else [WV.a xs]).flatMap WV.ids=[k]:=by
   rcases hxs with rfl |⟨x,rfl⟩<;>simp[WV.ids]
  have e2:ziU (zd3 [k,p,q]) (Pt k::if xs=[] then [] else [WV.a xs])=some (Pt 0::if xs=[] then [] else [WV.a xs]):=by
   rcases hxs with rfl |⟨x,rfl⟩<;>simp[zd3]
  rw[e1,hc];simp only[hnd,if_true,e2,ht,hR]
 have hfz:zla M (Pt k::if xs=[] then [] else [WV.a xs])=some (Pt k::if xs=[] then [] else [WV.a xs]):=by
  rcases hxs with rfl |⟨x,rfl⟩<;>simp
 have hsl:(Pt k::if xs=[] then [] else [WV.a xs]).flatMap WV.sls=[]:=by
  rcases hxs with rfl |⟨x,rfl⟩<;>simp
 have hhd:zl2 f (Pt k::if xs=[] then [] else [WV.a xs])=true:=rfl;unfold zx;simp only[callee,qs,je,ku,if_true,hfz,hsl,hhd,Bool.or_true,Ai];rw[qE]
abbrev ZpO(k p q:Nat)(X:List Cl)(v:Nat)(g:RgV)(c:Int)(es:List Zou)(w u:Nat)(M:Mem):Mem:=((M.set q (mpB c es u)).set p (some { box:=true,esz:=12,rows:=[rgC p g],gen:=0,fz:=false,ver:=w })).set k (some { box:=true,esz:=46,rows:=[X],gen:=0,fz:=false,ver:=v })
theorem LM.back(h:LM k S d g c es v w u p q M){ρ:Nat->Option Nat}(r0:ρ 0=some k)(r1:ρ 1=some p)(r2:ρ 2=some q){a b:Nat}{Ms:Mem}{X:List Cl}(hX:zez ρ [ndX S d' a b]=some [X])(hv:v'=v->X=ndX S d p q)(hw:w'=w->g'=g)(hu:u'=u->c'=c/\es'=es) :
  ∃ch,Eng.back ρ [k,p,q] (some { box:=true,esz:=46,rows:=[ndX S d' a b],gen:=0,fz:=false,ver:=v' }::bxv w' 12 (rgC 1 g')::mpB c' es' u'::Ms) M=some (ZpO k p q X v' g' c' es' w' u' M,ch):=by
 obtain⟨h1,h2,h3,n1,n2,n3⟩:=h;have b3:Eng.back ρ [] Ms M=some (M,[]):=by unfold Eng.back;rfl
 obtain⟨ch2,b2⟩:=Zo5 (ρ:=ρ) (b:={ box:=true,esz:=1,rows:=[I c']::es'.map Zly,gen:=0,fz:=false,ver:=u' }) (b':={ box:=true,esz:=1,rows:=[I c']::es'.map Zly,gen:=0,fz:=false,ver:=u' }) h3 (by simp[zhj,Zly]) (fun e=>by obtain⟨rfl,rfl⟩:=hu e;have:u'=u:=e;subst this;rfl) b3 h3;obtain⟨ch1,b1⟩:=Zo5 (ρ:=ρ) (b:={ box:=true,esz:=12,rows:=[rgC 1 g'],gen:=0,fz:=false,ver:=w' }) (b':={ box:=true,esz:=12,rows:=[rgC p g'],gen:=0,fz:=false,ver:=w' }) h2 (by cases hi:g'.ini<;>simp[zhj,r1,hi]) (fun e=>by have e:w'=w:=e;have:=hw e;subst e this;rfl) b2 (by rw[jz n3.symm];exact h2);obtain⟨ch0,b0⟩:=Zo5 (ρ:=ρ) (b:={ box:=true,esz:=46,rows:=[ndX S d' a b],gen:=0,fz:=false,ver:=v' }) (b':={ box:=true,esz:=46,rows:=[X],gen:=0,fz:=false,ver:=v' }) h1 (by unfold zhj;simp only[if_true];rw[hX];rfl) (fun e=>by have e:v'=v:=e;rw[hv e,e]) b1 (by rw[jz n1.symm,jz n2.symm];exact h1);exact⟨ch0,b0⟩
def Fr(k p q p' q':Nat)(M M':Mem):Prop:=∀i,i<M.length->i≠k->i≠p->i≠q->M'[i]?=M[i]?/\i≠p'/\i≠q'
def Zq4{X:List Cl}:(ZpO k p q X v g c es w u M).length=M.length/\∀i,i≠k->i≠p->i≠q->(ZpO k p q X v g c es w u M)[i]?=M[i]? :=
 ⟨wD,fun i a b c=>by rw[jz (ko a),jz (ko b),jz (ko c)]⟩
def LM.set(h:LM k S d g c es v w u p q M):(ZpO k p q (ndX S d' p q) v' g' c' es' w' u' M).length=M.length/\LM k S d' g' c' es' v' w' u' p q (ZpO k p q (ndX S d' p q) v' g' c' es' w' u' M):=by
 obtain⟨l1,l2,l3⟩:=h.len;obtain⟨h1,h2,h3,n1,n2,n3⟩:=h;refine⟨wD,?_,?_,?_,n1,n2,n3⟩
 ·exact jS (by simpa using l1)
 ·rw[jz n1];exact jS (by simpa using l2)
 ·rw[jz n2,jz n3];exact jS (by simpa using l3)
def Zo2{k p q:Nat}{M M' Ms new:Mem}{r r':AV}{ch:List Nat}{ρ:Nat->Option Nat}(hρ:∀j,ρ j=match ([k,p,q]:List Nat)[j]? with |some id=>some id |none=>some (M.length+(j-3)))(hb:Eng.back ρ [k,p,q] Ms M=some (M',ch))(hn:zgx ρ (Ms.drop 3)=some new)(hr:znn ρ r=some r'):uC [k,p,q] M r Ms=some (r',M'++new,if ch.isEmpty then .no else .wr (ch.map fun id=>(id,0,whole))):=by
 have e:ρ=(fun j=>match ([k,p,q]:List Nat)[j]? with |some id=>some id |none=>some (M.length+(j-3))):=funext hρ;have e2:uC [k,p,q] M r Ms=(match Eng.back ρ [k,p,q] Ms M,zgx ρ (Ms.drop 3),znn ρ r with
  |some (M',ch),some new,some r=>some (r,M'++new,if ch.isEmpty then .no else .wr (ch.map fun id=>(id,0,whole)))
  |_,_,_=>none):=by rw[e];rfl
 rw[e2,hb,hn,hr]
def LM.call(h:LM k S d g c es v w u p q M){f:Nat}{xs:List Cl}(hxs:xs=[]\/∃x:Zjo,xs=inC x){r:AV}(hr:(∃a b,r=.t [W a,W b])\/(∃n,r=.w (W n))\/(∃k,r=.w (.a (zG k)))\/(∃y,r=.w (.a (zJ4 y)))\/(∃l,r=.w (.a [.jb (zu l)])))
  (hv:v'=v->d'=d) (hw:w'=w->g'=g) (hu:u'=u->c'=c/\es'=es)
  (hR:R L Cs f (Pt 0::if xs=[] then [] else [.a xs]) (ndM S d g c es v w u)=some (r,ndM S d' g' c' es' v' w' u')) :
  ∃M' fp,zx (R L Cs) ⟨true⟩ (.c (.fn f [] [])) (Pt k::if xs=[] then [] else [.a xs]) M=some (r,M',fp)/\LM k S d' g' c' es' v' w' u' p q M'/\M'.length=M.length/\Fr k p q p q M M':=by
 obtain⟨ρ,hρ⟩:∃ρ:Nat->Option Nat,∀j,ρ j=match ([k,p,q]:List Nat)[j]? with|some id=>some id|none=>some (M.length+(j-3)):=⟨_,fun _=>rfl⟩
 have r1:ρ 1=some p:=hρ 1;have r2:ρ 2=some q:=hρ 2;obtain⟨ch,hb⟩:=h.back (d':=d') (v':=v') (hρ 0) r1 r2 (a:=1) (b:=2) (Ms:=[]) (X:=ndX S d' p q) (by simp[r1,r2]) (fun e=>by rw[hv e]) hw hu;have hrA:znn ρ r=some r:=by
  rcases hr with⟨a,b,rfl⟩ |⟨n,rfl⟩ |⟨y,rfl⟩ |⟨⟨y1,y2,y3⟩,rfl⟩ |⟨l,rfl⟩<;>simp[zG,zJ4,zJY]
 have hl:=Zo2 hρ hb (new:=[]) rfl hrA;rw[ku]at hl;obtain⟨s1,s2⟩:=h.set (d':=d') (g':=g') (c':=c') (es':=es') (v':=v') (w':=w') (u':=u');exact⟨_,_,(h.on hxs hR).trans hl,s2,s1,fun i _ a b c=>⟨Zq4.2 i a b c,b,c⟩⟩
def LM.lose(h:LM k S d g c es v w u p q M){x:Zjo}{r:Int}{g1:RgV}{c1:Int}{es1:List Zou}{w1 u1:Nat}(hv:v<v')(hw:w1=w->g1=g)(hu:u1=u->c1=c/\es1=es)(hi:g'.ini=false)
  (hR:R L Cs Zh5 [Pt 0,.a (inC x)] (ndM S d g c es v w u)=some (.t [W r,W 0],[bxv v' 46 (ndX S d' 3 4),bxv w1 12 (rgC 1 g1),mpB c1 es1 u1,bxv 2 12 (rgC 3 g'),mpB 0 [] 0])) :
  ∃M' fp,zx (R L Cs) ⟨true⟩ (.c (.fn Zh5 [] [])) [Pt k,.a (inC x)] M=some (.t [W r,W 0],M',fp)/\LM k S d' g' 0 [] v' 2 0 M.length (M.length+1) M'/\M.length<=M'.length/\Fr k p q M.length (M.length+1) M M':=by
 obtain⟨ρ,hρ⟩:∃ρ:Nat->Option Nat,∀j,ρ j=match ([k,p,q]:List Nat)[j]? with|some id=>some id|none=>some (M.length+(j-3)):=⟨_,fun _=>rfl⟩
 have r1:ρ 1=some p:=hρ 1;have r2:ρ 2=some q:=hρ 2;have r3:ρ 3=some M.length:=hρ 3;have r4:ρ 4=some (M.length+1):=hρ 4;obtain⟨ch,hb⟩:=h.back (d':=d') (v':=v') (hρ 0) r1 r2 (a:=3) (b:=4) (Ms:=[bxv 2 12 (rgC 3 g'),mpB 0 [] 0]) (X:=ndX S d' M.length (M.length+1)) (by simp[r3,r4]) (fun e=>wA) hw hu;obtain⟨l1,l2,l3⟩:=h.len;have hl:=Zo2 hρ hb (new:=[bxv 2 12 (rgC M.length g'),mpB 0 [] 0]) (by simp[zgx,zhj,hi,r3]) (r:=.t [W r,W 0]) (r':=.t [W r,W 0]) wD;have hlen:(ZpO k p q (ndX S d' M.length (M.length+1)) v' g1 c1 es1 w1 u1 M).length=M.length:=wD
 have hk0:(ZpO k p q (ndX S d' M.length (M.length+1)) v' g1 c1 es1 w1 u1 M)[k]?=some (bxv v' 46 (ndX S d' M.length (M.length+1))):=jS (by simpa using l1);have hfr:=(Zq4 (k:=k) (p:=p) (q:=q) (X:=ndX S d' M.length (M.length+1)) (v:=v') (g:=g1) (c:=c1) (es:=es1) (w:=w1) (u:=u1) (M:=M)).2;generalize ZpO k p q (ndX S d' M.length (M.length+1)) v' g1 c1 es1 w1 u1 M=M1 at *;exact⟨_,_,(h.on (.inr ⟨x,rfl⟩) hR).trans hl,⟨by rw[jo wA];exact hk0,by rw[kJ wA,hlen];simp,by rw[kJ wA,hlen];simp,wA,wA,wA⟩,by simp;omega,fun i hi a b c=>⟨by rw[jo wA];exact hfr i a b c,wA,wA⟩⟩
end Go.TrRun
namespace Go.TrRun
open Go Go.Eng
def Zpr(S:StV)(zs:List Zon)(ss:List Sgn)(d2:NdV)(g1:RgV):NdV:=ZjL (ZiF S (ZoO S zs ss d2 g1))
def Zp7(S:StV)(zs:List Zon)(ss:List Sgn)(d2:NdV)(g1:RgV):RgV:=ZhJ (ZoH (ZoJ S zs ss d2 g1)) (Pl.vh d2.kW 0)
abbrev Zqz(S:StV)(d:NdV)(g':RgV)(v w':Nat)(g:RgV)(c:Int)(es:List Zou)(w u:Nat):Mem:=[bxv v 46 (ndX S d 3 4),bxv w 12 (rgC 1 g),mpB c es u,bxv w' 12 (rgC 3 g'),mpB 0 [] 0]
def Zqo{S:StV}{zs:List Zon}{ss:List Sgn}(hS:z6u S zs ss){d:NdV}{g:RgV}{es:List Zou}{n:Nat}(h:Zk7 S d g es n)(hn:n+300<=1000)(c:Int)(v w u:Nat)(ks:List Int)(hK:ZjC c es ks)(hks:ks.length<=1000){x:Zjo}(hx:Zlc x)(hx8:x.jP.length<=8/\x.jD.length<=8/\x.jO.length<=8)(ht:x.tick=d.now)
  {d2:NdV} {c2:Int} {es2:List Zou} (e2:hrN S zs ss d g c es ks x=(d2,(c2,es2))) (eK:(Zkz S zs ss (Zhl S zs ss es g) es2).2=false) :
  ∃v' w1 u1,(v<v'/\(w<=w1/\(w1=w->Zhl S zs ss es g=g))/\(u<=u1/\(u1=u->c2=c/\es2=es))) /\
   R L Cs Zh5 [Pt 0,.a (inC x)] (ndM S d g c es v w u)=some (.t [W (Zlu S (Zpr S zs ss d2 (Zhl S zs ss es g))),W 0],Zqz S (Zpr S zs ss d2 (Zhl S zs ss es g)) (Zp7 S zs ss d2 (Zhl S zs ss es g)) v' 2 (Zhl S zs ss es g) c2 es2 w1 u1):=by
 have hh:=h;obtain⟨hg,ha,hk,hnow,hfew,Bz,yz,hplan⟩:=h;have hk0:=hk.nd.t;obtain⟨g1,g2,g3,g4,g5⟩:=ZkX (zs:=zs) (ss:=ss) hS hh;have h0:=ZkQ S d g c es v w u;obtain⟨w1,u1,m1,m2,h1⟩:=Zkk hS d hg ha hk hnow wA c es (Bz.ok wA) v w u ks hK hks;have Bx:=Bz.fgt (Zhl S zs ss es g).jY.tick ks;obtain⟨v2,u2,⟨m3,m4⟩,yX,h2⟩:=ZkR (S:=S) d (Zhl S zs ss es g) (c,Zh0 (Zhl S zs ss es g).jY.tick ks es) v w1 u1 n wA x hx Bx hn;rw[show ZiQ d (c,Zh0 (Zhl S zs ss es g).jY.tick ks es) x=(d2,(c2,es2)) from e2]at h2 yX m3 m4;simp only at h2 yX m3 m4;have hd:=Zla x.jP d (x.jO.foldl (he2 d) (x.jD.foldl (he1 d) (c,Zh0 (Zhl S zs ss es g).jY.tick ks es)));have hl2:=Zj2 x.jP d (x.jO.foldl (he2 d) (x.jD.foldl (he1 d) (c,Zh0 (Zhl S zs ss es g).jY.tick ks es))) yz wA;rw[show heS x.jP (d,x.jO.foldl (he2 d) (x.jD.foldl (he1 d) (c,Zh0 (Zhl S zs ss es g).jY.tick ks es)))=(d2,(c2,es2)) from e2]at hd hl2;simp only at hd hl2;obtain⟨AR,yZ,-⟩:=hd;have h3:=Zkj hS d2 g1 g3 g4 wA c2 es2 (yX.ok wA) v2 w1 u2;rw[eK]at h3;simp only[jI,if_false]at h3;have s1:=ZjB S d2 _ (Zhl S zs ss es g) c2 es2 v2 (v2+1) w1 u2 _ _ x wA h3;have h4:=ZpJ (zs:=zs) (ss:=ss) hS { d2 with qy:=(Zkz S zs ss (Zhl S zs ss es g) es2).1 } g1 g3 g4 wA (by simp only[AR];omega) c2 es2 (v2+1) w1 u2;have s2:=Zqd x h4;have eL:ZoO S zs ss { d2 with qy:=(Zkz S zs ss (Zhl S zs ss es g) es2).1 } (Zhl S zs ss es g)=ZoO S zs ss d2 (Zhl S zs ss es g):=rfl;have eK2:ZoJ S zs ss { d2 with qy:=(Zkz S zs ss (Zhl S zs ss es g) es2).1 } (Zhl S zs ss es g)=ZoJ S zs ss d2 (Zhl S zs ss es g):=rfl;rw[eL,eK2]at s2;have hLnow:(ZoO S zs ss d2 (Zhl S zs ss es g)).now=d.now:=AR;have DE:(ZoO S zs ss d2 (Zhl S zs ss es g)).last=d2.last:=rfl;have hLplan:(ZoO S zs ss d2 (Zhl S zs ss es g)).kW=d.kW:=yZ;obtain⟨v5,m5,h5⟩:=ZjV S (ZoO S zs ss d2 (Zhl S zs ss es g)) (ZoH (ZoJ S zs ss d2 (Zhl S zs ss es g))) 0 [] (v2+1+5) 0 0 (by rw[hLnow];omega) (by rw[DE];exact hl2);have hmode:¬(ZiF S (ZoO S zs ss d2 (Zhl S zs ss es g))).mode=1:=by
  unfold ZiF ZoO;split<;>simp
 rw[if_neg hmode]at h5;have s3:=Zqc (g:=Zhl S zs ss es g) (c:=c2) (es:=es2) (w:=w1) (u:=u2) x wA h5;have hWnow:(ZiF S (ZoO S zs ss d2 (Zhl S zs ss es g))).now=d.now:=AR;have CL:(ZiF S (ZoO S zs ss d2 (Zhl S zs ss es g))).kW=d.kW:=yZ;have h6:=Zkl S (ZiF S (ZoO S zs ss d2 (Zhl S zs ss es g))) (g:=ZoH (ZoJ S zs ss d2 (Zhl S zs ss es g))) ⟨show 0<=5 by decide,fun _=>rfl⟩ (show 0<=4 by decide) 0 [] v5 0 0 (by rw[hWnow];omega) (by rw[CL];omega);have s4:=Zqe (g:=Zhl S zs ss es g) (c:=c2) (es:=es2) (w:=w1) (u:=u2) x wA wA rfl h6;have hlp:=s1.trans (s2.trans (s3.trans s4));rw[show ZhJ (ZoH (ZoJ S zs ss d2 (Zhl S zs ss es g))) (Pl.vh (ZiF S (ZoO S zs ss d2 (Zhl S zs ss es g))).kW 0)=Zp7 S zs ss d2 (Zhl S zs ss es g) from rfl,show ZjL (ZiF S (ZoO S zs ss d2 (Zhl S zs ss es g)))=Zpr S zs ss d2 (Zhl S zs ss es g) from rfl]at hlp;have hA:=Pl.CY (Zpr S zs ss d2 (Zhl S zs ss es g)).told (show(ZiF S (ZoO S zs ss d2 (Zhl S zs ss es g))).kW.length<=1000 by rw[CL];omega) S.car.uj;have hi9:(Zp7 S zs ss d2 (Zhl S zs ss es g)).ini=false:=rfl;refine⟨v5+4,w1,u2,⟨wA,m1,wA,fun e=>?_⟩,?_⟩
 ·have e1:=m3.2 wA;have e2':=m2.2 wA;rw[e2']at e1;exact⟨congrArg Prod.fst e1,congrArg Prod.snd e1⟩
 have c1:¬8<max (x.jP.length:Int) (max x.jD.length x.jO.length):=wA
 have c2':¬(1099511626776:Int)<=d.now:=wA
 obtain⟨fp1,hc1⟩:=Zko (f:=Zhz) (xs:=[]) (X:=inC x) (.inl rfl) ⟨x,rfl⟩ (fun _=>rfl) m1.2 (fun q=>⟨rfl,m2.2 q⟩) (by simpa using h1);obtain⟨fp2,hc2⟩:=Zko (f:=Zh4) (xs:=inC x) (X:=inC x) (.inr ⟨x,rfl⟩) ⟨x,rfl⟩ m4.2 (fun _=>rfl) (fun q=>by
  have:=m3.2 q;exact⟨congrArg Prod.fst this,congrArg Prod.snd this⟩) (by simpa using h2)
 have hc0:zx (R L Cs) ⟨true⟩ (.c (.fn Zh3 [] [])) [Pt 0] (ndM S d g c es v w u++[bx 4 (inC x)])=some (.w (Bo false),ndM S d g c es v w u++[bx 4 (inC x)],.no):=by
  obtain⟨s0,s1,s2,s3,s4,na,ini,p⟩:=g;cases ini<;>simp[ndM,ndC,rgC,mpB,bxv]at h0<;>simp[h0,Zly]
 have hcA:∀M,zx (R L Cs) ⟨true⟩ (.c (.fn zGR [] [])) [.a [.jb (zu (Zpr S zs ss d2 (Zhl S zs ss es g)).told)],W S.car.uj] M=some (.w (W (Pl.vh (Zpr S zs ss d2 (Zhl S zs ss es g)).told S.car.uj)),M,.no):=fun M=>by
  simp[hA]
 unfold Zlu;generalize Pl.vh (Zpr S zs ss d2 (Zhl S zs ss es g)).told S.car.uj=cc at *;generalize Zp7 S zs ss d2 (Zhl S zs ss es g)=g9 at *;generalize Zpr S zs ss d2 (Zhl S zs ss es g)=d6 at *;generalize Zh0 (Zhl S zs ss es g).jY.tick ks es=es1 at *;generalize Zhl S zs ss es g=g' at *;clear hg ha hk hnow Bz Bx yX g1 g2 g3 g4 g5 h0 h1 h2 h3 h4 h5 h6 hK hh e2 hA m1 m2 m3 m4 m5 hl2 s1 s2 s3 s4 eL eK2 hLnow DE hLplan hmode hWnow CL eK;obtain⟨xt,xsc,xsp,xfx⟩:=x;simp only at ht c1;subst ht;obtain⟨r0,r1,r2,r3,r4,ma,jni,p'⟩:=g9;simp only at hi9;subst hi9;obtain⟨s0,s1,s2,s3,s4,na,ini,p⟩:=g';simp only[inC,List.cons_ne_nil,reduceCtorEq,if_false,if_true,ndM,jh,je]at hc0 hc1 hc2 hlp;rw[zUa Zji rfl];cases ini<;>simp[-zx,ZhG,hc0,hc1,hc2,hlp,hcA,c1,c2',Zly,zr,tlM,rg3]
open Go Go.Eng Go.PlanLaw
def Zo7{n t:Int}(h:t≠n):∀(es:List Zou) (k j:Nat) (y:Hrd),ZiR n es k=some (j,y)->k<=j/\znB t (es.eraseIdx (j-k))=znB t es
 |[],k,j,y,e=>by simp[ZiR]at e
 |x::es,k,j,y,e=>by
  unfold ZiR at e;split at e
  ·rename_i c;cases e;rw[yF];refine⟨jm _,?_⟩;show znB t es=if t=x.key then _ else _
   rw[if_neg (by rw[<-c];exact h)]
  ·obtain⟨h1,h2⟩:=Zo7 h es (k+1) j y e;refine⟨wA,?_⟩;obtain⟨m,hm⟩:∃m,j-k=m+1:=⟨j-k-1,wA⟩;have e2:j-(k+1)=m:=wA
   rw[e2]at h2;rw[hm,List.eraseIdx_cons_succ];unfold znB;rw[h2]
def ZpT{n t:Int}(h:t≠n)(es:List Zou):znB t (ZjP n es)=znB t es:=by
 unfold ZjP;cases hf:ZiR n es 0 with
 |none=>rfl
 |some r =>
  obtain⟨j,y⟩:=r;exact(Zo7 h es 0 j y hf).2
def Zpl{T t:Int}(h:T<=t):∀(ks:List Int) (es:List Zou),znB t (Zh0 T ks es)=znB t es
 |[],es=>rfl
 |k::ks,es=>by
  show znB t (Zh0 T ks (if k<T then ZjP k es else es))=_;rw[Zpl h ks];split
  ·exact ZpT wA es
  ·rfl
def EsN.fold{α:Type}{F:Int×List Zou->α->Int×List Zou}{P:α->Prop}(hF:∀n q y,P y->EsN n q.2->EsN (n+1) (F q y).2):∀(l:List α) {n:Nat} {q:Int×List Zou},(∀y∈l,P y)->EsN n q.2->EsN (n+l.length) (l.foldl F q).2
 |[],n,q,_,h=>h
 |y::l,n,q,hp,h=>(EsN.fold hF l (fun z hz=>hp z (jE _ hz)) (hF n q y (hp y (js ..)) h)).mono (by simp;omega)
def EsN.heS:∀(l:List zZP) {n:Nat} {d:NdV} {q:Int×List Zou},(∀y∈l,y.seen.length<=5000/\y.pts.length<=1000)->EsN n q.2->EsN (n+l.length) (heS l (d,q)).2.2
 |[],n,d,q,_,h=>h
 |y::l,n,d,q,hp,h=>(EsN.heS l (d:=heD d y) (fun z hz=>hp z (jE _ hz)) (EsN.he3 (d:=d) h (hp y (js ..)))).mono (by simp;omega)
def EsN.hear{n:Nat}{d:NdV}{q:Int×List Zou}(h:EsN n q.2){x:Zjo}(hx:Zlc x):EsN (n+(x.jD.length+x.jO.length+x.jP.length)) (ZiQ d q x).2.2:=by
 have h1:=EsN.fold (F:=Go.TrRun.he1 d) (P:=fun _=>True) (fun n q y _ h=>h.he1 y) x.jD (fun _ _=>trivial) h;have h2:=EsN.fold (F:=Go.TrRun.he2 d) (P:=fun _=>True) (fun n q y _ h=>h.he2 y) x.jO (fun _ _=>trivial) h1;exact(EsN.heS x.jP hx.sc h2).mono wA
def Zju(h:Hrd):List Zou:=[⟨0,0,h⟩]
def Zlb(h:Hrd):Prop:=h.jD=[]/\h.jO=[]/\∀s∈h.jP,s.pts=[]
def ZjS{S:StV}:∀(l:List zZP) (k:zci),(∀s∈l,s.pts=[])->(ZiH S l (k,true)).2=true
 |[],k,_=>rfl
 |x::l,k,h=>by
  have e:ZiH S (x::l) (k,true)=ZiH S l (Zhv S (Zib S.m k x),true):=by
   show ZiH S l (Zhv S (Zib S.m k x),true&&ZiS S.m (Zhv S (Zib S.m k x)) x.pts)=_;rw[h x (js ..)];rfl
  rw[e];exact ZjS l _ fun s hs=>h s (jE _ hs)
def Zkg{S:StV}{h:Hrd}(q:Zlb h)(k:zci):(znE S (some h) k).2=true:=by
 obtain⟨h1,h2,h3⟩:=q;unfold znE;simp only[h1,h2];exact ZjS h.jP (Zhv S k) h3
set_option maxRecDepth 100000
open Go Go.Eng Go.PlanLaw
def ZkF(c:Int):ZjC c [] []:=Zpz (Zoz.nil c) wC
set_option maxRecDepth 10000
open Go Go.Eng Go.PlanLaw
def ZkU{S:StV}{zs:List Zon}{ss:List Sgn}{k:zci}{p:List Int}(h:Zjt S zs ss k p=true):uK S.car p=0:=by
 unfold Zjt at h;exact((zUm ..).1 h).2.1
structure ZoP(p:List Int):Prop where
 C9:∀a∈p,zk0 a
 len:p.length<=125
def ZoP.tail{p:List Int}(h:ZoP p):ZoP (Pl.yy p):=by
 unfold Pl.yy;split
 ·exact⟨fun a ha=>h.C9 a (qp ha),by simp;have:=h.len;omega⟩
 grind
def ZoP.act{p:List Int}(h:ZoP p)(i:Int):zk0 (Pl.vh p i):=by
 unfold Pl.vh;split
 ·unfold zk0;omega
 ·cases hq:p[(max 0 (min i (p.length-1))).toNat]? with
  |none=>unfold zk0;simp
  |some x=>exact h.C9 x (kF hq)
structure Zrc(S:StV)(d:NdV)(g:RgV)(c:Int)(es:List Zou)(n:Nat):Prop where
 nd:Zk7 S d g es n
 ent:Zoz n c es
 kb:KB S.m d.qy
 kW:ZoP d.kW
 told:ZoP d.told
variable{S:StV}{zs:List Zon}{ss:List Sgn}
structure PlN(S:StV)(d d':NdV):Prop where
 lat:d'.uu=Pl.vh d'.told 0
 pln:d'.kW=Pl.yy d'.told
 told:d'.told=d.kW\/∃v up hold,(0<=v/\v<=2000)/\up<=20/\hold<=20/\d'.told=zJ2 S.car (Zh2 d S.car.uj.toNat) d.uu v up hold
def Zra(d:NdV)(K:zci):(goN S zs ss d K).kW=d.kW\/∃v up hold,(0<=v/\v<=2000)/\up<=20/\hold<=20/\(goN S zs ss d K).kW=zJ2 S.car (Zh2 d S.car.uj.toNat) d.uu v up hold:=by
 unfold goN;by_cases hm:(ZiF S { d with qy:=K }).mode=1
 ·rw[if_pos hm];by_cases h:0<=(Zkd S zs ss (ZiF S { d with qy:=K })).1
  ·right;unfold ZiG;simp only[if_pos h];unfold Zkd zOU at h ⊢;obtain⟨j,h1,h2,h3⟩:=Zkn _ _ _ 0 h;unfold zMT;rw[h2,if_neg wA,show(((0+j:Nat):Int)).toNat=j by omega];have Ac:=jf h1;simp only[jG,jq h1,uf];refine⟨max 0 (min K.ego.vhi 2000),?_⟩;simp only[Pl.yp,jK,qg,or_false]at Ac;rcases Ac with h|h|h|h|h|h|h|h<;>exact⟨_,_,wA,wC,wC,h⟩
  ·left;unfold ZiG;simp only[if_neg h];rfl
 ·rw[if_neg hm];exact .inl rfl
def Zq8(d d2:NdV)(K:zci)(hp:d2.kW=d.kW)(hl:d2.uu=d.uu):PlN S d (ZjL (goN S zs ss d2 K)):=by
 refine⟨rfl,rfl,?_⟩;have h:=Zra (S:=S) (zs:=zs) (ss:=ss) d2 K;unfold Zh2 at h ⊢;rw[hp,hl]at h;exact h
def Zqh(hS:z6u S zs ss){d:NdV}{g:RgV}(hg:ZjQ g)(hk:KB S.m g.jY)(hn:d.now=g.jY.tick+g.na)(ht:d.now<=100000):KB S.m (ZoJ S zs ss d g)/\(ZoJ S zs ss d g).tick=d.now:=by
 have hacts:g.jR.length=g.na:=by simp[RgV.jR];have:=hg.few;omega
 obtain⟨k1,k2⟩:=Zpn (zs:=zs) (ss:=ss) hS g.jR g.jY hk wA;have h0:=hk.nd.t;have hkn:KNd S.m ⟨d.now,zTA 0 S.m.jd,(ZoW S zs ss g.jR g.jY).ego⟩:=⟨⟨fun b hb=>(zTQ hS.full.full.qO S.m.jd 0 rfl b hb).1,zTX hS.full.full.qO S.m.jd 0 rfl,k1.nd.j.ego⟩,by grind⟩;have hf:=k1.far;refine⟨⟨KNd.own hkn,?_,?_⟩,rfl⟩
 ·show(ZoW S zs ss g.jR g.jY).ego.shi<=1000000000+2000*d.now
  grind
 ·show d.now<=100000
  grind
def Zrd(hS:z6u S zs ss){d:NdV}{K:zci}(hp:ZoP d.kW) :
  (goN S zs ss d K).now=d.now/\(goN S zs ss d K).qy=K/\(goN S zs ss d K).last=d.last/\ZoP (goN S zs ss d K).kW:=by
 unfold goN;by_cases hm:(ZiF S { d with qy:=K }).mode=1
 ·rw[if_pos hm];by_cases hf:0<=(Zkd S zs ss (ZiF S { d with qy:=K })).1
  ·obtain⟨v1,v2⟩:=ZkW hS.car (ZiF S { d with qy:=K }) hf;exact⟨rfl,rfl,rfl,(zNC (ZkU v1)).1,v2⟩
  ·have e:(ZiG S zs ss (ZiF S { d with qy:=K })).kW=d.kW:=by
    unfold ZiG;simp only[if_neg hf];rfl
   exact⟨rfl,rfl,rfl,by rw[e];exact hp⟩
 ·rw[if_neg hm];exact⟨rfl,rfl,rfl,hp⟩
def ZqB(S:StV)(d:NdV)(g:RgV)(c:Int)(es:List Zou)(v w u:Nat)(x:Zjo)(r:Int)(d':NdV)(g':RgV)(c':Int)(es':List Zou):Prop :=
 (∃v' w' u',(v<v'/\w<w'/\(u<=u'/\(u'=u->c'=c/\es'=es)))/\R L Cs Zh5 [Pt 0,.a (inC x)] (ndM S d g c es v w u)=some (.t [W r,W 0],ndM S d' g' c' es' v' w' u')) \/
 (c'=0/\es'=[]/\g'.ini=false/\∃g1 c1 es1 v' w1 u1,(v<v'/\(w<=w1/\(w1=w->g1=g))/\(u<=u1/\(u1=u->c1=c/\es1=es)))/\R L Cs Zh5 [Pt 0,.a (inC x)] (ndM S d g c es v w u)=some (.t [W r,W 0],Zqz S d' g' v' 2 g1 c1 es1 w1 u1))
def TkD(S:StV)(zs:List Zon)(ss:List Sgn)(d:NdV)(g:RgV)(c:Int)(es:List Zou)(x:Zjo)(d':NdV)(g':RgV)(c':Int)(es':List Zou):Prop :=
 (∃d2 K,hrN S zs ss d g c es (ksE es) x=(d2,c',es')/\Zkz S zs ss (Zhl S zs ss es g) es'=(K,true)/\K.tick=d.now/\KB S.m K/\d2.now=d.now/\d2.kW=d.kW/\d2.mode=d.mode/\d'=ZjL (goN S zs ss d2 K)/\g'=ZhJ (Zhl S zs ss es g) (Pl.vh (goN S zs ss d2 K).kW 0)) \/
 (∃d2 c2 es2,hrN S zs ss d g c es (ksE es) x=(d2,c2,es2)/\(Zkz S zs ss (Zhl S zs ss es g) es2).2=false/\KB S.m (ZoJ S zs ss d2 (Zhl S zs ss es g))/\(ZoJ S zs ss d2 (Zhl S zs ss es g)).tick=d.now/\d2.now=d.now/\d'=Zpr S zs ss d2 (Zhl S zs ss es g)/\g'=Zp7 S zs ss d2 (Zhl S zs ss es g)/\c'=0/\es'=[])
def Zrc.tick(hS:z6u S zs ss){d:NdV}{g:RgV}{c:Int}{es:List Zou}{n:Nat}(H:Zrc S d g c es n)(hn:n+300<=1000)(hd:d.now<=1000){x:Zjo}(hx:Zlc x)(hx8:x.jP.length<=8/\x.jD.length<=8/\x.jO.length<=8)(ht:x.tick=d.now)(v w u:Nat) :
  ∃d' g' c' es',Zrc S d' g' c' es' (n+24)/\d'.now=d.now+1/\PlN S d d'/\TkD S zs ss d g c es x d' g' c' es'/\ZqB S d g c es v w u x (Zlu S d') d' g' c' es':=by
 have hK:=Zpz H.ent wA;have hks:(ksE es).length<=1000:=jT (Zqi H.ent) wA;obtain⟨r1,r2,r3,r4,r5⟩:=ZkX (zs:=zs) (ss:=ss) hS H.nd;have hk0:=r4.nd.t;have hal:(Zhl S zs ss es g).jR.length=(Zhl S zs ss es g).na:=by grind [RgV.jR]
 have hd0:0<=d.now:=wA
 have By:=(H.ent.fgt (Zhl S zs ss es g).jY.tick (ksE es)).hear (d:=d) ⟨hd0,wA⟩ (q:=(c,Zh0 (Zhl S zs ss es g).jY.tick (ksE es) es)) x;have CU:=EsN.hear (d:=d) (q:=(c,Zh0 (Zhl S zs ss es g).jY.tick (ksE es) es)) (H.nd.ents.fgt (Zhl S zs ss es g).jY.tick (ksE es)) hx;have hdd:=Zla x.jP d (x.jO.foldl (he2 d) (x.jD.foldl (he1 d) (c,Zh0 (Zhl S zs ss es g).jY.tick (ksE es) es)));have hll:=Zj2 x.jP d (x.jO.foldl (he2 d) (x.jD.foldl (he1 d) (c,Zh0 (Zhl S zs ss es g).jY.tick (ksE es) es))) H.nd.last wA;change _ at By;have eh:ZiQ d (c,Zh0 (Zhl S zs ss es g).jY.tick (ksE es) es) x=hrN S zs ss d g c es (ksE es) x:=rfl;have eh':heS x.jP (d,x.jO.foldl (he2 d) (x.jD.foldl (he1 d) (c,Zh0 (Zhl S zs ss es g).jY.tick (ksE es) es)))=hrN S zs ss d g c es (ksE es) x:=rfl;rw[eh]at By CU;rw[eh']at hdd hll;obtain⟨⟨d2,c2,es2⟩,e2⟩:∃y,hrN S zs ss d g c es (ksE es) x=y:=⟨_,rfl⟩;rw[e2]at By CU hdd hll;simp only at By CU hdd hll;obtain⟨AR,yZ,d_first,d_mode,DG,d_told,d_know⟩:=hdd;have hent:Zoz (n+24) c2 es2:=By.mono wA;have hesn:EsN (n+24) es2:=CU.mono wA;have Bu:ZoP d2.kW:=by rw[yZ];exact H.kW
 by_cases hok:(Zkz S zs ss (Zhl S zs ss es g) es2).2=true
 ·obtain⟨K,eK⟩:∃K,Zkz S zs ss (Zhl S zs ss es g) es2=(K,true):=⟨_,yr rfl hok⟩;obtain⟨v',w',u',hvw,_,hR⟩:=Zlp hS H.nd hn c v w u (ksE es) hK hks hx hx8 ht e2 eK;obtain⟨k1,k2⟩:=r4.A3 (S:=S) (znB (Zhl S zs ss es g).jY.tick es2);have A0:=ZkP (zs:=zs) (ss:=ss) hS es2 (Zhl S zs ss es g).jR (znE S (znB (Zhl S zs ss es g).jY.tick es2) (Zhl S zs ss es g).jY).1 (znE S (znB (Zhl S zs ss es g).jY.tick es2) (Zhl S zs ss es g).jY).2 k1 (by grind);have A0:KB S.m (Zkz S zs ss (Zhl S zs ss es g) es2).1/\(Zkz S zs ss (Zhl S zs ss es g) es2).1.tick=(znE S (znB (Zhl S zs ss es g).jY.tick es2) (Zhl S zs ss es g).jY).1.tick+(Zhl S zs ss es g).jR.length:=A0;rw[eK]at A0;simp only at A0;have hKt:K.tick=d.now:=by grind
  obtain⟨q1,q2,q3,q4⟩:=Zrd (zs:=zs) (ss:=ss) (K:=K) hS Bu;obtain⟨a1,a2,a3,a4,a5⟩:=ZjF (g:=Zhl S zs ss es g) wA (Pl.vh (goN S zs ss d2 K).kW 0);refine⟨ZjL (goN S zs ss d2 K),ZhJ (Zhl S zs ss es g) (Pl.vh (goN S zs ss d2 K).kW 0),c2,es2,⟨⟨a4,fun a ha=>?_,by grind,?_,?_,hesn,?_,?_⟩,hent,?_,q4.tail,q4⟩,?_,Zq8 d d2 K yZ DG,.inl ⟨d2,K,e2,eK,hKt,A0.1,AR,yZ,d_mode,rfl,rfl⟩,.inl ⟨v',w',u',hvw,hR⟩⟩
  ·rw[a1]at ha;rcases jL.1 ha with ha|ha
   ·grind
   ·rw[jB.1 ha];exact q4.act 0
  ·show(goN S zs ss d2 K).now+1=_
   grind
  ·show(goN S zs ss d2 K).now+1<=_
   grind
  ·show 0<=(goN S zs ss d2 K).last/\(goN S zs ss d2 K).last<=_
   grind
  ·exact jT q4.tail.len wD
  ·show KB S.m (goN S zs ss d2 K).qy
   grind
  ·show(goN S zs ss d2 K).now+1=_
   grind
 ·obtain⟨v',w1,u1,hvw,hR⟩:=Zqo (zs:=zs) (ss:=ss) hS H.nd hn c v w u (ksE es) hK hks hx hx8 ht e2 (by grind);obtain⟨l1,l2⟩:=Zqh (zs:=zs) (ss:=ss) hS (d:=d2) r1 r4 (by grind) (by grind);have e0:(ZoH (ZoJ S zs ss d2 (Zhl S zs ss es g))).jR=[]:=rfl;obtain⟨a1,a2,a3,a4,a5⟩:=ZjF (g:=ZoH (ZoJ S zs ss d2 (Zhl S zs ss es g))) (show 0<=4 by simp) (Pl.vh d2.kW 0);rw[e0]at a1;refine⟨Zpr S zs ss d2 (Zhl S zs ss es g),Zp7 S zs ss d2 (Zhl S zs ss es g),0,[],⟨⟨a4,fun a ha=>?_,?_,?_,?_,.nil _,hll,?_⟩,(Zoz.nil 0).mono wA,l1,Bu.tail,Bu⟩,?_,⟨rfl,rfl,.inl yZ⟩,.inr ⟨d2,c2,es2,e2,by grind,l1,l2.trans AR,AR,rfl,rfl,rfl,rfl⟩,.inr ⟨rfl,rfl,a5,_,_,_,v',w1,u1,hvw,hR⟩⟩
  ·have ha:a∈(ZhJ (ZoH (ZoJ S zs ss d2 (Zhl S zs ss es g))) (Pl.vh d2.kW 0)).jR:=ha;rw[a1]at ha;rw[jB.1 ha];exact Bu.act 0
  ·show KB S.m (ZhJ (ZoH (ZoJ S zs ss d2 (Zhl S zs ss es g))) (Pl.vh d2.kW 0)).jY;rw[a3];exact l1
  ·show d2.now+1=(ZhJ (ZoH (ZoJ S zs ss d2 (Zhl S zs ss es g))) (Pl.vh d2.kW 0)).jY.tick+(ZhJ (ZoH (ZoJ S zs ss d2 (Zhl S zs ss es g))) (Pl.vh d2.kW 0)).na;rw[a3,a2];show d2.now+1=(ZoJ S zs ss d2 (Zhl S zs ss es g)).tick+((0+1:Nat):Int)
   grind
  ·show d2.now+1<=_
   grind
  ·exact jT Bu.tail.len wD
  ·show d2.now+1=_
   grind
end Go.TrRun
namespace Go.TrRun
open Go Go.Eng Go.PlanLaw
def ZrI(x:Zjo)(t:Int)(h:Hrd):Hrd:=⟨h.jD++x.jD.filter (fun y=>decide (y.st=t)),h.jO++x.jO.filter (fun y=>decide (y.st=t)),h.jP++x.jP.filter (fun y=>decide (y.qd=t))⟩
def ZrD(d:NdV)(t:Int):∀(l:List Mrk) (q:Int×List Zou),Ziq (l.foldl (he1 d) q).2 t=if Zjv d t then { Ziq q.2 t with jD:=(Ziq q.2 t).jD++l.filter (fun y=>decide (y.st=t)) } else Ziq q.2 t
 |[],q=>wD
 |y::l,q=>by
  rw[j8,ZrD d t l];by_cases e:y.st=t
  ·subst e;unfold he1;by_cases c:Zjv d y.st=true
   ·simp[c,Zo3]
   ·simp[c]
  ·have:Ziq (he1 d q y).2 t=Ziq q.2 t:=by
    unfold he1;split
    ·rw[Zo3,if_neg (ko e)]
    ·rfl
   rw[this];simp[e]
def ZrC(d:NdV)(t:Int):∀(l:List Mrk) (q:Int×List Zou),Ziq (l.foldl (he2 d) q).2 t=if Zjv d t then { Ziq q.2 t with jO:=(Ziq q.2 t).jO++l.filter (fun y=>decide (y.st=t)) } else Ziq q.2 t
 |[],q=>wD
 |y::l,q=>by
  rw[j8,ZrC d t l];by_cases e:y.st=t
  ·subst e;unfold he2;by_cases c:Zjv d y.st=true
   ·simp[c,Zo3]
   ·simp[c]
  ·have:Ziq (he2 d q y).2 t=Ziq q.2 t:=by
    unfold he2;split
    ·rw[Zo3,if_neg (ko e)]
    ·rfl
   rw[this];simp[e]
def ZrF(d:NdV)(y:zZP)(t:Int):Zjv (heD d y) t=Zjv d t:=by
 unfold heD;split<;>rfl
def ZrB(t:Int):∀(l:List zZP) (d:NdV) (q:Int×List Zou),Ziq (heS l (d,q)).2.2 t=if Zjv d t then { Ziq q.2 t with jP:=(Ziq q.2 t).jP++l.filter (fun y=>decide (y.qd=t)) } else Ziq q.2 t
 |[],d,q=>by simp[heS]
 |y::l,d,q=>by
  show Ziq (heS l (heD d y,he3 d q y)).2.2 t=_;rw[ZrB t l,ZrF];by_cases e:y.qd=t
  ·subst e;unfold he3;by_cases c:Zjv d y.qd=true
   ·simp[c,Zo3]
   ·simp[c]
  ·have:Ziq (he3 d q y).2 t=Ziq q.2 t:=by
    unfold he3;split
    ·rw[Zo3,if_neg (ko e)]
    ·rfl
   rw[this];simp[e]
def Zrx(d:NdV)(q:Int×List Zou)(x:Zjo)(t:Int):Ziq (ZiQ d q x).2.2 t=if Zjv d t then ZrI x t (Ziq q.2 t) else Ziq q.2 t:=by
 unfold ZiQ;rw[ZrB,ZrC,ZrD];by_cases c:Zjv d t=true<;>simp[c,ZrI]
def Zrs{T t:Int}(h:T<=t)(ks:List Int)(es:List Zou):Ziq (Zh0 T ks es) t=Ziq es t:=by
 unfold Ziq;rw[Zpl h]
variable{S:StV}{zs:List Zon}{ss:List Sgn}
def sea0(ok:List Int->Bool)(l:List (List Int)):(zK5 0 ok l 0).1=-1:=by
 cases l with
 |nil=>rfl
 |cons p t=>rfl
def Zrt(hb:S.kH=0)(d:NdV)(K:zci):(goN S zs ss d K).kW=d.kW/\(goN S zs ss d K).first=d.first:=by
 unfold goN;split
 ·have h:¬0<=(Zkd S zs ss (ZiF S { d with qy:=K })).1:=by
   unfold Zkd zOU;rw[hb,sea0];decide
  unfold ZiG;simp only[if_neg h];exact⟨rfl,rfl⟩
 ·exact⟨rfl,rfl⟩
end Go.TrRun
namespace Go.TrRun
open Go Go.Eng Go.PlanLaw
def Zta(l:List Mrk)(t v:Int):Prop:=∀y∈l,y.st=t->y.lo<=v/\v<=y.hi
theorem Zta.cons{y:Mrk}{l:List Mrk}{t v:Int}:Zta (y::l) t v<->(y.st=t->y.lo<=v/\v<=y.hi)/\Zta l t v:=List.forall_mem_cons
def Zta.sub{p q:List Mrk}{t v:Int}(h:∀y∈p,y∈q)(hq:Zta q t v):Zta p t v:=fun y hy=>hq y (h y hy)
theorem Ztn(a b c d v:Int):(max a b<=v/\v<=min c d)<->((a<=v/\v<=c)/\(b<=v/\v<=d)):=wA
def Ztg:∀(l:List Mrk) (k:zci) (b:Bool),k.ego.vlo<=k.ego.vhi->((ZhZ l (k,b)).2=true<->b=true/\∃v,(k.ego.vlo<=v/\v<=k.ego.vhi)/\Zta l k.tick v) /\
  ((ZhZ l (k,b)).2=true->∃lo hi,lo<=hi/\(ZhZ l (k,b)).1={ k with ego:={ k.ego with vlo:=lo,vhi:=hi } }/\∀v,(lo<=v/\v<=hi)<->((k.ego.vlo<=v/\v<=k.ego.vhi)/\Zta l k.tick v))
 |[],k,b,h=>⟨⟨fun hb=>⟨hb,k.ego.vlo,⟨jQ _,h⟩,fun y hy=>by grind⟩,fun hb=>hb.1⟩,fun _=>⟨k.ego.vlo,k.ego.vhi,h,rfl,fun v=>⟨fun hv=>⟨hv,fun y hy=>by grind⟩,fun hv=>hv.1⟩⟩⟩
 |y::l,k,b,h=>by
  have e:ZhZ (y::l) (k,b)=ZhZ l ((z9f k y.st y.lo y.hi).1,b&&(z9f k y.st y.lo y.hi).2):=rfl;rw[e];unfold z9f;by_cases c:y.st=k.tick
  ·rw[if_neg (by grind)];by_cases d:max k.ego.vlo y.lo>min k.ego.vhi y.hi
   ·grind [ZhZ,ZpD,absurd,Zta.cons]
   ·rw[if_neg d];obtain⟨h1,h2⟩:=Ztg l { k with ego:={ k.ego with vlo:=max k.ego.vlo y.lo,vhi:=min k.ego.vhi y.hi } } (b&&true) (by grind);have key:∀v,((max k.ego.vlo y.lo<=v/\v<=min k.ego.vhi y.hi)/\Zta l k.tick v)<->((k.ego.vlo<=v/\v<=k.ego.vhi)/\Zta (y::l) k.tick v):=fun v=>by
     grind [Zta.cons,Ztn]
    refine⟨?_,fun hh=>?_⟩
    ·rw[h1,y9];exact⟨fun⟨a,v,b⟩=>⟨a,v,(key v).1 b⟩,fun⟨a,v,b⟩=>⟨a,v,(key v).2 b⟩⟩
    ·obtain⟨lo,hi,a,e2,b⟩:=h2 hh;exact⟨lo,hi,a,by rw[e2],fun v=>(b v).trans (key v)⟩
  ·obtain⟨h1,h2⟩:=Ztg l k (b&&true) h;have key:∀v,Zta (y::l) k.tick v<->Zta l k.tick v:=fun v=>by
    grind [Zta.cons,absurd]
   grind
def Zth:∀(l:List Mrk) (k:zci) (b:Bool),k.ego.slo<=k.ego.shi->((Zis l (k,b)).2=true<->b=true/\∃v,(k.ego.slo<=v/\v<=k.ego.shi)/\Zta l k.tick v) /\
  ((Zis l (k,b)).2=true->∃lo hi,lo<=hi/\(Zis l (k,b)).1={ k with ego:={ k.ego with slo:=lo,shi:=hi } }/\∀v,(lo<=v/\v<=hi)<->((k.ego.slo<=v/\v<=k.ego.shi)/\Zta l k.tick v))
 |[],k,b,h=>⟨⟨fun hb=>⟨hb,k.ego.slo,⟨jQ _,h⟩,fun y hy=>by grind⟩,fun hb=>hb.1⟩,fun _=>⟨k.ego.slo,k.ego.shi,h,rfl,fun v=>⟨fun hv=>⟨hv,fun y hy=>by grind⟩,fun hv=>hv.1⟩⟩⟩
 |y::l,k,b,h=>by
  have e:Zis (y::l) (k,b)=Zis l ((Zag k y.st y.lo y.hi).1,b&&(Zag k y.st y.lo y.hi).2):=rfl;rw[e];unfold Zag;by_cases c:y.st=k.tick
  ·rw[if_neg (by grind)];by_cases d:max k.ego.slo y.lo>min k.ego.shi y.hi
   ·grind [Zis,Zo9,absurd,Zta.cons]
   ·rw[if_neg d];obtain⟨h1,h2⟩:=Zth l { k with ego:={ k.ego with slo:=max k.ego.slo y.lo,shi:=min k.ego.shi y.hi } } (b&&true) (by grind);have key:∀v,((max k.ego.slo y.lo<=v/\v<=min k.ego.shi y.hi)/\Zta l k.tick v)<->((k.ego.slo<=v/\v<=k.ego.shi)/\Zta (y::l) k.tick v):=fun v=>by
     grind [Zta.cons,Ztn]
    refine⟨?_,fun hh=>?_⟩
    ·rw[h1,y9];exact⟨fun⟨a,v,b⟩=>⟨a,v,(key v).1 b⟩,fun⟨a,v,b⟩=>⟨a,v,(key v).2 b⟩⟩
    ·obtain⟨lo,hi,a,e2,b⟩:=h2 hh;exact⟨lo,hi,a,by rw[e2],fun v=>(b v).trans (key v)⟩
  ·obtain⟨h1,h2⟩:=Zth l k (b&&true) h;have key:∀v,Zta (y::l) k.tick v<->Zta l k.tick v:=fun v=>by
    grind [Zta.cons,absurd]
   grind
def ZtC{lo hi lo' hi':Int}(h:lo<=hi)(h':lo'<=hi')(e:∀v,(lo<=v/\v<=hi)<->(lo'<=v/\v<=hi')):lo=lo'/\hi=hi':=by
 have h1:=(e lo).1 ⟨jQ _,h⟩
 grind
def Zt6{p q:List Mrk}(h:∀y,y∈p<->y∈q){k:zci}(hk:k.ego.vlo<=k.ego.vhi)(ok:(ZhZ q (k,true)).2=true):ZhZ p (k,true)=ZhZ q (k,true):=by
 obtain⟨q1,q2⟩:=Ztg q k true hk;obtain⟨p1,p2⟩:=Ztg p k true hk;have hin:∀v,Zta p k.tick v<->Zta q k.tick v:=fun v=>⟨Zta.sub fun y hy=>(h y).2 hy,Zta.sub fun y hy=>(h y).1 hy⟩
 grind
def Zue{p q:List Mrk}(h:∀y,y∈p<->y∈q){k:zci}(hk:k.ego.slo<=k.ego.shi)(ok:(Zis q (k,true)).2=true):Zis p (k,true)=Zis q (k,true):=by
 obtain⟨q1,q2⟩:=Zth q k true hk;obtain⟨p1,p2⟩:=Zth p k true hk;have hin:∀v,Zta p k.tick v<->Zta q k.tick v:=fun v=>⟨Zta.sub fun y hy=>(h y).2 hy,Zta.sub fun y hy=>(h y).1 hy⟩
 grind
def Zt7{p q:List Mrk}(h:∀y∈p,y∈q){a b:zci}(hi:InK a b)(ha:a.ego.vlo<=a.ego.vhi)(hb:b.ego.vlo<=b.ego.vhi)(ok:(ZhZ q (a,true)).2=true):(ZhZ p (b,true)).2=true/\InK (ZhZ q (a,true)).1 (ZhZ p (b,true)).1:=by
 obtain⟨q1,q2⟩:=Ztg q a true ha;obtain⟨p1,p2⟩:=Ztg p b true hb;obtain⟨i1,⟨i2,i3,i4,i5⟩,i6⟩:=hi;obtain⟨-,v,v1,v2⟩:=q1.1 ok;have okp:=p1.2 ⟨rfl,v,wA,by rw[<-i1];exact v2.sub h⟩;obtain⟨lo,hi,a1,a2,a3⟩:=q2 ok;obtain⟨lo',hi',b1,b2,b3⟩:=p2 okp;refine⟨okp,?_⟩;have k1:=(a3 lo).1 ⟨jQ _,a1⟩;have k2:=(a3 hi).1 ⟨a1,jQ _⟩;have m1:=(b3 lo).2 ⟨wA,by rw[<-i1];exact k1.2.sub h⟩;have m2:=(b3 hi).2 ⟨wA,by rw[<-i1];exact k2.2.sub h⟩;rw[a2,b2];exact⟨i1,⟨i2,i3,m1.1,m2.2⟩,i6⟩
def Zuf{p q:List Mrk}(h:∀y∈p,y∈q){a b:zci}(hi:InK a b)(ha:a.ego.slo<=a.ego.shi)(hb:b.ego.slo<=b.ego.shi)(ok:(Zis q (a,true)).2=true):(Zis p (b,true)).2=true/\InK (Zis q (a,true)).1 (Zis p (b,true)).1:=by
 obtain⟨q1,q2⟩:=Zth q a true ha;obtain⟨p1,p2⟩:=Zth p b true hb;obtain⟨i1,⟨i2,i3,i4,i5⟩,i6⟩:=hi;obtain⟨-,v,v1,v2⟩:=q1.1 ok;have okp:=p1.2 ⟨rfl,v,wA,by rw[<-i1];exact v2.sub h⟩;obtain⟨lo,hi,a1,a2,a3⟩:=q2 ok;obtain⟨lo',hi',b1,b2,b3⟩:=p2 okp;refine⟨okp,?_⟩;have k1:=(a3 lo).1 ⟨jQ _,a1⟩;have k2:=(a3 hi).1 ⟨a1,jQ _⟩;have m1:=(b3 lo).2 ⟨wA,by rw[<-i1];exact k1.2.sub h⟩;have m2:=(b3 hi).2 ⟨wA,by rw[<-i1];exact k2.2.sub h⟩;rw[a2,b2];exact⟨i1,⟨m1.1,m2.2,i4,i5⟩,i6⟩
def Zt0{m:zD}{a b:zci}(h:InK a b)(pts:List Pnt)(ha:ZiS m a pts=true):ZiS m b pts=true:=by
 unfold ZiS at ha ⊢;rw[jw]at ha ⊢;intro p hp;obtain⟨x,hx,hex⟩:=kN.1 (ha p hp);obtain⟨y,hy,hxy⟩:=h.bl x hx;refine kN.2 ⟨y,hy,?_⟩;obtain⟨x1,x2,x3,x4,x5,x6⟩:=x;obtain⟨y1,y2,y3,y4,y5,y6⟩:=y;have hl:x1=y1:=hxy.lane;subst hl;unfold exB at hex ⊢;split at hex
 ·rename_i hc;rw[dif_pos hc];obtain⟨f,hf,hh⟩:=kN.1 hex;refine kN.2 ⟨f,hf,?_⟩;unfold htF at hh ⊢;simp only[jk,decide_eq_true_eq]at hh ⊢;have h1:y2<=x2:=hxy.lo;have h2:x3<=y3:=hxy.hi;omega
 grind
structure ZuE(p q:Hrd):Prop where
 sp:∀y∈p.jD,y∈q.jD
 fx:∀y∈p.jO,y∈q.jO
 sc:p.jP=[]\/p.jP=q.jP
structure HEq(p q:Hrd):Prop where
 sp:∀y,y∈p.jD<->y∈q.jD
 fx:∀y,y∈p.jO<->y∈q.jO
 sc:p.jP=q.jP
variable{S:StV}{zs:List Zon}{ss:List Sgn}
theorem ZtB:∀(l:List zZP) {a b:zci},InK a b->KNd S.m a->(ZiH S l (a,true)).2=true->(ZiH S l (b,true)).2=true/\InK (ZiH S l (a,true)).1 (ZiH S l (b,true)).1
 |[],a,b,h,ha,ok=>⟨rfl,h⟩
 |z::l,a,b,h,ha,ok=>by
  have e:∀k:zci,ZiH S (z::l) (k,true)=ZiH S l (Zhv S (Zib S.m k z),true&&ZiS S.m (Zhv S (Zib S.m k z)) z.pts):=fun k=>rfl
  rw[e a]at ok ⊢;have o:=Zp5 l _ _ ok;have hn:=uB (ZpY h ha z) (ha.upd z);have ob:=Zt0 hn z.pts o;rw[o]at ok ⊢;rw[e b,ob];exact ZtB l hn (ha.upd z).own ok
def ZuA{m:zD}{k:zci}(h:KNd m k):k.ego.vlo<=k.ego.vhi:=h.j.ego.v.2.1
def ZuB{m:zD}{k:zci}(h:KNd m k):k.ego.slo<=k.ego.shi:=h.j.ego.s.2.1
def Ztv{p q:Hrd}(hq:ZuE p q){a b:zci}(h:InK a b)(ha:KNd S.m a)(hb:KNd S.m b)(ok:(znE S (some q) a).2=true):(znE S (some p) b).2=true/\InK (znE S (some q) a).1 (znE S (some p) b).1:=by
 obtain⟨o1,o2⟩:=Zql ok;obtain⟨k1,_⟩:=KNd.C0 q.jD true ha;obtain⟨k1',_⟩:=KNd.C0 p.jD true hb;obtain⟨s1,s2⟩:=Zt7 hq.sp h (ZuA ha) (ZuA hb) o1;have e1:ZhZ q.jD (a,true)=((ZhZ q.jD (a,true)).1,true):=yr rfl o1;have e2:ZhZ p.jD (b,true)=((ZhZ p.jD (b,true)).1,true):=yr rfl s1;rw[e1]at o2;obtain⟨f1,f2⟩:=Zuf hq.fx s2 (ZuB k1) (ZuB k1') o2;obtain⟨k2,_⟩:=KNd.fixs q.jO true k1;have g1:Zis q.jO ((ZhZ q.jD (a,true)).1,true)=((Zis q.jO ((ZhZ q.jD (a,true)).1,true)).1,true):=yr rfl o2;have g2:Zis p.jO ((ZhZ p.jD (b,true)).1,true)=((Zis p.jO ((ZhZ p.jD (b,true)).1,true)).1,true):=yr rfl f1;have u1:znE S (some q) a=ZiH S q.jP (Zhv S (Zis q.jO (ZhZ q.jD (a,true))).1,(Zis q.jO (ZhZ q.jD (a,true))).2):=rfl;have u2:znE S (some p) b=ZiH S p.jP (Zhv S (Zis p.jO (ZhZ p.jD (b,true))).1,(Zis p.jO (ZhZ p.jD (b,true))).2):=rfl;rw[u1,e1,g1]at ok ⊢;rw[u2,e2,g2];have hn:=uB f2 k2;rcases hq.sc with h0|h0
 ·rw[h0];exact⟨rfl,(ZkE q.jP _ (KNd.own k2)).trans hn⟩
 grind [ZtB,KNd.own]
def Zto{p q:Hrd}(hq:HEq p q){a:zci}(ha:KNd S.m a)(ok:(znE S (some q) a).2=true):znE S (some p) a=znE S (some q) a:=by
 obtain⟨o1,o2⟩:=Zql ok;obtain⟨k1,_⟩:=KNd.C0 q.jD true ha;have e1:ZhZ q.jD (a,true)=((ZhZ q.jD (a,true)).1,true):=yr rfl o1;have s1:=Zt6 hq.sp (ZuA ha) o1;rw[e1]at o2;have s2:=Zue hq.fx (ZuB k1) o2;show ZiH S p.jP (Zhv S (Zis p.jO (ZhZ p.jD (a,true))).1,(Zis p.jO (ZhZ p.jD (a,true))).2)=ZiH S q.jP (Zhv S (Zis q.jO (ZhZ q.jD (a,true))).1,(Zis q.jO (ZhZ q.jD (a,true))).2);rw[s1,e1,s2,hq.sc]
def ZtP(hS:z6u S zs ss){es es2:List Zou}:∀(l:List Int) {a b:zci},InK a b->KB S.m a->KB S.m b->(∀t,a.tick<t->ZuE (Ziq es t) (Ziq es2 t))->a.tick+l.length<=100000 ->
  (chN S zs ss es2 l (a,true)).2=true->(chN S zs ss es l (b,true)).2=true
 |[],a,b,h,_,_,_,_,_=>rfl
 |z::l,a,b,h,ha,hb,hle,ht,ok=>by
  simp only[jl]at ht;have et:a.tick=b.tick:=h.tick;obtain⟨a1,a2⟩:=ha.step (zs:=zs) (ss:=ss) hS wA z;obtain⟨b1,b2⟩:=hb.step (zs:=zs) (ss:=ss) hS wA z;have e:∀(es:List Zou) (k:zci),chN S zs ss es (z::l) (k,true)=chN S zs ss es l ((znE S (znB (k.tick+1) es) (ZhP S zs ss k z)).1,true&&(znE S (znB (k.tick+1) es) (ZhP S zs ss k z)).2):=fun _ _=>rfl
  rw[e]at ok ⊢;have o:=Zqa l _ _ ok;rw[ZoU]at o;obtain⟨f1,f2⟩:=Ztv (hle (a.tick+1) wA) (Zpt (zs:=zs) (ss:=ss) hS h ha.nd hb.nd z) a1.nd b1.nd o;rw[<-ZoU]at o;rw[<-ZoU]at f1 f2;rw[<-ZoU]at f2;obtain⟨a3,a4⟩:=a1.A3 (znB (a.tick+1) es2);obtain⟨b3,_⟩:=b1.A3 (znB (a.tick+1) es);rw[o]at ok;rw[<-et,f1];exact ZtP hS (es:=es) (es2:=es2) l f2 a3 b3 (fun t ht=>hle t wA) (by grind) ok
def ZtO(hS:z6u S zs ss){es es2:List Zou}:∀(l:List Int) {a:zci},KB S.m a->(∀t,a.tick<t->HEq (Ziq es t) (Ziq es2 t))->a.tick+l.length<=100000 ->
  (chN S zs ss es2 l (a,true)).2=true->chN S zs ss es l (a,true)=chN S zs ss es2 l (a,true)
 |[],a,_,_,_,_=>rfl
 |z::l,a,ha,hle,ht,ok=>by
  simp only[jl]at ht;obtain⟨a1,a2⟩:=ha.step (zs:=zs) (ss:=ss) hS wA z;have e:∀(es:List Zou) (k:zci),chN S zs ss es (z::l) (k,true)=chN S zs ss es l ((znE S (znB (k.tick+1) es) (ZhP S zs ss k z)).1,true&&(znE S (znB (k.tick+1) es) (ZhP S zs ss k z)).2):=fun _ _=>rfl
  rw[e]at ok ⊢;rw[e];have o:=Zqa l _ _ ok;rw[ZoU]at o;have f1:=Zto (hle (a.tick+1) wA) a1.nd o;rw[<-ZoU]at o;rw[<-ZoU,<-ZoU]at f1;obtain⟨a3,a4⟩:=a1.A3 (znB (a.tick+1) es2);rw[o]at ok ⊢;rw[f1,o];exact ZtO hS (es:=es) (es2:=es2) l a3 (fun t ht=>hle t wA) (by grind) ok
end Go.TrRun
namespace Go.TrRun
open Go Go.Eng Go.PlanLaw
def inH(x:Zjo):Hrd:=⟨x.jD,x.jO,x.jP⟩
def noH:Hrd:=⟨[],[],[]⟩
theorem HEq.refl(p:Hrd):HEq p p:=⟨fun _=>Iff.rfl,fun _=>Iff.rfl,rfl⟩
structure Tld(T:Nat->Zjo):Prop where
 sp:∀s,∀m∈(T s).jD,m.st=s
 fx:∀s,∀m∈(T s).jO,m.st=s
 sc:∀s,∀m∈(T s).jP,m.qd=s
structure Bck(T:Nat->Zjo)(dd:Nat->Nat)(t:Nat)(y:Zjo):Prop where
 sp:∀m,m∈y.jD<->∃s,s+dd s=t/\m∈(T s).jD
 fx:∀m,m∈y.jO<->∃s,s+dd s=t/\m∈(T s).jO
 sc:∀s:Nat,y.jP.filter (fun m=>decide (m.qd=(s:Int)))=if s+dd s=t then(T s).jP else []
structure Oro(S:StV)(zs:List Zon)(ss:List Sgn)(d e:NdV)(g:RgV)(es fs:List Zou)(T:Nat->Zjo)(dd:Nat->Nat)(t:Nat):Prop where
 now:d.now=t
 now2:e.now=t
 fst:d.first=0
 fst2:e.first=0
 hA:∀s:Nat,g.jY.tick<=s->Ziq es s=if s<t then inH (T s) else noH
 hB:∀s:Nat,g.jY.tick<=s->HEq (Ziq fs s) (if s+dd s<t then inH (T s) else noH)
 ok:0<g.na->(znE S (znB g.jY.tick es) g.jY).2=true
 p1:d.kW=[0]
 p2:e.kW=[0]
 m2:e.mode=1
variable{S:StV}{zs:List Zon}{ss:List Sgn}
def Ztl{α:Type}{l:List α}{p:α->Bool}(h:∀x∈l,p x=true):l.filter p=l:=vu.2 h
def Zti{α:Type}{l:List α}{p:α->Bool}(h:∀x∈l,p x=false):l.filter p=[]:=List.filter_eq_nil_iff.2 fun x hx=>by grind
def HEq.noH{p:Hrd}(h:HEq p noH):p=Go.TrRun.noH:=by
 obtain⟨a,b,c⟩:=p;obtain⟨h1,h2,h3⟩:=h
 simp_all [qQ,Go.TrRun.noH]
def Oro.fgt{d e:NdV}{g:RgV}{es fs:List Zou}{T:Nat->Zjo}{dd:Nat->Nat}{t n:Nat}(hd4:∀s,dd s<=4)(H:Oro S zs ss d e g es fs T dd t)(h1:Zk7 S d g es n) :
  Zhl S zs ss fs g=Zhl S zs ss es g:=by
 unfold Zhl;by_cases c5:g.na=5
 ·unfold Zh9;have ok:=H.ok wA;have hn:=h1.now;have h0:=h1.jY.nd.t;obtain⟨s,hs⟩:=jA h0.1;have ht:t=s+5:=by have:=H.now;omega
  have hq:HEq (Ziq fs g.jY.tick) (Ziq es g.jY.tick):=by
   have a:=H.hA s wA;have b:=H.hB s wA
   grind
  rw[ZoU]at ok;rw[ZoU S es,ZoU S fs,Zto hq h1.jY.nd ok]
 grind
def ZtS(hs:S.uk=1000)(d:NdV)(h0:0<=d.last)(hn:d.now<=1000):(ZiF S d).mode=d.mode:=by
 grind [ZiF]
def Zud(hs:S.uk=1000)(d:NdV)(K:zci)(h0:0<=d.last)(hn:d.now<=1000):(goN S zs ss d K).mode=d.mode:=by
 have hw:=ZtS hs { d with qy:=K } h0 hn;unfold goN;split
 ·exact hw
 grind
def Zuc(d2:NdV)(g1:RgV):¬(Zpr S zs ss d2 g1).mode=1:=fun hm=>by
 have:(Zpr S zs ss d2 g1).mode=(ZiF S (ZoO S zs ss d2 g1)).mode:=rfl
 grind [ZiF,ZoO]
def Oro.tick(hS:z6u S zs ss)(hb:S.kH=0)(hsi:S.uk=1000){T:Nat->Zjo}(hT:Tld T){dd:Nat->Nat}(hd4:∀s,dd s<=4){t:Nat}(ht:t<=100){d e:NdV}{g:RgV}{c1 c2:Int}{es fs:List Zou}{n m:Nat}(H:Oro S zs ss d e g es fs T dd t)(h1:Zrc S d g c1 es n)(h2:Zrc S e g c2 fs m){x y:Zjo}(hx:x=T t)(hy:Bck T dd t y)
  {d' e':NdV} {g' f':RgV} {c1' c2':Int} {es' fs':List Zou} (m1:d'.mode=1) (T1:TkD S zs ss d g c1 es x d' g' c1' es') (T2:TkD S zs ss e g c2 fs y e' f' c2' fs') :
  f'=g'/\Oro S zs ss d' e' g' es' fs' T dd (t+1)/\((∀s,s<=t->t<s+dd s->inH (T s)=noH)->d'.qy=e'.qy):=by
 rcases T1 with⟨d2,K,x1,x2,x3,x4,x5,x6,x7,rfl,rfl⟩ |⟨d2,_,_,_,_,_,_,_,rfl,_⟩
 case inr=>exact absurd m1 (Zuc _ _)
 have q1:=H.fgt hd4 h1.nd;obtain⟨r1,r2,r3,r4,r5⟩:=ZkX (zs:=zs) (ss:=ss) hS h1.nd;have hn:=H.now;have hn2:=H.now2;have hmono:g.jY.tick<=(Zhl S zs ss es g).jY.tick:=by
  unfold Zhl;by_cases c5:g.na=5
  ·rw[if_pos c5];have i1:g.ini=false:=by
    cases hi:g.ini with
    |false=>rfl
    |true=>have:=h1.nd.rg.ini hi;omega
   have t1:=h1.nd.jY.nd.t;have n1:=h1.nd.now;have w1:=h1.nd.few;obtain⟨_,_,_,_,_,a6⟩:=Zj0 (zs:=zs) (ss:=ss) hS h1.nd.rg.few wA i1 h1.nd.jY wA es;omega
  ·rw[if_neg c5];exact jQ _
 have cnt:∀(z:NdV) (s:Nat),z.now=t->z.first=0->Zjv z s=(decide (s<=t)&&decide (t<=s+4)):=fun z s a b=>by
  unfold Zjv;rw[a,b];have e1:decide ((s:Int)<=t)=decide (s<=t):=decide_eq_decide.2 wA;have e2:decide (max 0 ((t:Int)-4)<=s)=decide (t<=s+4):=decide_eq_decide.2 wA;rw[e1,e2]
 have hA':∀s:Nat,(Zhl S zs ss es g).jY.tick<=s->Ziq es' s=if s<t+1 then inH (T s) else noH:=fun s hs=>by
  have a1:=Zrx d (c1,Zh0 (Zhl S zs ss es g).jY.tick (ksE es) es) x s;rw[show ZiQ d (c1,Zh0 (Zhl S zs ss es g).jY.tick (ksE es) es) x=(d2,c1',es') from x1,Zrs hs,cnt d s hn H.fst,H.hA s wA]at a1;rw[a1];by_cases c:s=t
  ·subst c;rw[if_pos wD,if_neg (vG _),if_pos (Nat.lt_succ_self _),hx];unfold ZrI noH inH;simp only[je];rw[Ztl (fun m hm=>decide_eq_true (hT.sp s m hm)),Ztl (fun m hm=>decide_eq_true (hT.fx s m hm)),Ztl (fun m hm=>decide_eq_true (hT.sc s m hm))]
  ·have hadd:∀h,ZrI x s h=h:=fun h=>by
    unfold ZrI;rw[hx,Zti (fun m hm=>decide_eq_false (by rw[hT.sp t m hm];omega)),Zti (fun m hm=>decide_eq_false (by rw[hT.fx t m hm];omega)),Zti (fun m hm=>decide_eq_false (by rw[hT.sc t m hm];omega))];simp
   rw[hadd];simp only[ite_self];by_cases c2:s<t
   ·rw[if_pos c2,if_pos wA]
   ·rw[if_neg c2,if_neg wA]
 have okE:(Zkz S zs ss (Zhl S zs ss es g) es').2=true:=congrArg Prod.snd x2;have ok0:(znE S (znB (Zhl S zs ss es g).jY.tick es') (Zhl S zs ss es g).jY).2=true:=Zqa _ (znE S (znB (Zhl S zs ss es g).jY.tick es') (Zhl S zs ss es g).jY).1 _ okE;obtain⟨kk1,kk2⟩:=r4.A3 (S:=S) (znB (Zhl S zs ss es g).jY.tick es');have hal:(Zhl S zs ss es g).jR.length<=5:=by simp[RgV.jR];omega
 have hfew:=h1.nd.few;have hpt:=r4.nd.t;have key:∀(ee:NdV) (fs2:List Zou) (cc:Int),hrN S zs ss e g c2 fs (ksE fs) y=(ee,cc,fs2)->∀s:Nat,(Zhl S zs ss es g).jY.tick<=s->HEq (Ziq fs2 s) (if s+dd s<t+1 then inH (T s) else noH):=fun ee fs2 cc hh s hs=>by
  have a1:=Zrx e (c2,Zh0 (Zhl S zs ss fs g).jY.tick (ksE fs) fs) y s;rw[show ZiQ e (c2,Zh0 (Zhl S zs ss fs g).jY.tick (ksE fs) fs) y=(ee,cc,fs2) from hh,Zrs (by rw[q1];exact hs),cnt e s hn2 H.fst2]at a1;have hB:=H.hB s wA;rw[a1];have h4:=hd4 s;have mem:∀(f:Zjo->List Mrk) (hf:∀s,∀m∈f (T s),m.st=s) (hyf:∀m,m∈f y<->∃s,s+dd s=t/\m∈f (T s)) (m:Mrk),m∈(f y).filter (fun m=>decide (m.st=(s:Int)))<->s+dd s=t/\m∈f (T s):=fun f hf hyf m=>by
   rw[uO,hyf];simp only[decide_eq_true_eq];constructor
   ·rintro⟨⟨s',e1,e2⟩,e3⟩;have:=hf s' m e2;have:s'=s:=wA
    subst this;exact⟨e1,e2⟩
   ·rintro⟨e1,e2⟩;exact⟨⟨s,e1,e2⟩,hf s m e2⟩
  have ms:=mem (·.jD) hT.sp hy.sp;have mf:=mem (·.jO) hT.fx hy.fx;by_cases c:s+dd s=t
  ·rw[if_pos (by simp;omega),if_pos wA];rw[if_neg wA]at hB;rw[hB.noH];refine⟨fun z=>?_,fun z=>?_,?_⟩
   ·simp only[ZrI,noH,inH,je];rw[ms];exact⟨fun q=>q.2,fun q=>⟨c,q⟩⟩
   ·simp only[ZrI,noH,inH,je];rw[mf];exact⟨fun q=>q.2,fun q=>⟨c,q⟩⟩
   ·simp only[ZrI,noH,inH,je];rw[hy.sc,if_pos c]
  ·have hadd:∀h,ZrI y s h=h:=fun h=>by
    unfold ZrI;have e1:y.jD.filter (fun m=>decide (m.st=(s:Int)))=[]:=qQ.2 fun z hz=>c ((ms z).1 hz).1
    have e2:y.jO.filter (fun m=>decide (m.st=(s:Int)))=[]:=qQ.2 fun z hz=>c ((mf z).1 hz).1
    rw[e1,e2,hy.sc,if_neg c];simp
   rw[hadd];simp only[ite_self];by_cases c2:s+dd s<t
   ·rw[if_pos c2]at hB;rw[if_pos wA];exact hB
   ·rw[if_neg c2]at hB;rw[if_neg wA];exact hB
 have nat:∀tt:Int,(Zhl S zs ss es g).jY.tick<=tt->∃s:Nat,tt=s:=fun tt h=>jA wA
 have okB:∀fs2:List Zou,(∀s:Nat,(Zhl S zs ss es g).jY.tick<=s->HEq (Ziq fs2 s) (if s+dd s<t+1 then inH (T s) else noH))->(Zkz S zs ss (Zhl S zs ss es g) fs2).2=true:=fun fs2 hh=>by
  have sub:∀tt,(Zhl S zs ss es g).jY.tick<=tt->ZuE (Ziq fs2 tt) (Ziq es' tt):=fun tt h=>by
   obtain⟨s,rfl⟩:=nat tt h;have a:=hh s h;rw[hA' s h];by_cases c:s+dd s<t+1
   ·rw[if_pos c]at a;rw[if_pos wA];exact⟨fun y hy=>(a.sp y).1 hy,fun y hy=>(a.fx y).1 hy,.inr a.sc⟩
   ·rw[if_neg c]at a;rw[a.noH];exact⟨(fun y hy=>by cases hy),(fun y hy=>by cases hy),.inl rfl⟩
  have o:=ok0;rw[ZoU]at o;obtain⟨f1,f2⟩:=Ztv (sub _ (jQ _)) (InK.refl _) r4.nd r4.nd o;rw[<-ZoU]at f1 f2;rw[<-ZoU]at f2;obtain⟨kb1,_⟩:=r4.A3 (S:=S) (znB (Zhl S zs ss es g).jY.tick fs2);have e1:znE S (znB (Zhl S zs ss es g).jY.tick es') (Zhl S zs ss es g).jY=((znE S (znB (Zhl S zs ss es g).jY.tick es') (Zhl S zs ss es g).jY).1,true):=yr rfl ok0;have e2:znE S (znB (Zhl S zs ss es g).jY.tick fs2) (Zhl S zs ss es g).jY=((znE S (znB (Zhl S zs ss es g).jY.tick fs2) (Zhl S zs ss es g).jY).1,true):=yr rfl f1;unfold Zkz at okE ⊢;rw[e1]at okE;rw[e2];exact ZtP hS (es:=fs2) (es2:=es') _ f2 kk1 kb1 (fun tt h=>sub tt (by rw[kk2]at h;omega)) (by rw[kk2];omega) okE
 rcases T2 with⟨e2,J,y1,y2,y3,y4,y5,y6,y7,rfl,rfl⟩ |⟨e2,cc,fs2,z1,z2,_⟩
 case inr =>
  exfalso;have:=okB fs2 (key e2 fs2 cc z1);rw[q1]at z2;rw[this]at z2;cases z2
 have hB':=key e2 fs' c2' y1;have f1:d2.first=d.first/\0<=d2.last:=by
  have a:=(Zla x.jP d (x.jO.foldl (he2 d) (x.jD.foldl (he1 d) (c1,Zh0 (Zhl S zs ss es g).jY.tick (ksE es) es)))).2.2.1;have b:=(Zj2 x.jP d (x.jO.foldl (he2 d) (x.jD.foldl (he1 d) (c1,Zh0 (Zhl S zs ss es g).jY.tick (ksE es) es))) h1.nd.last wA).1;have e0:heS x.jP (d,x.jO.foldl (he2 d) (x.jD.foldl (he1 d) (c1,Zh0 (Zhl S zs ss es g).jY.tick (ksE es) es)))=(d2,c1',es'):=x1;rw[e0]at a b;exact⟨a,b⟩
 have f2:e2.first=e.first/\0<=e2.last:=by
  have a:=(Zla y.jP e (y.jO.foldl (he2 e) (y.jD.foldl (he1 e) (c2,Zh0 (Zhl S zs ss fs g).jY.tick (ksE fs) fs)))).2.2.1;have b:=(Zj2 y.jP e (y.jO.foldl (he2 e) (y.jD.foldl (he1 e) (c2,Zh0 (Zhl S zs ss fs g).jY.tick (ksE fs) fs))) h2.nd.last wA).1;have e0:heS y.jP (e,y.jO.foldl (he2 e) (y.jD.foldl (he1 e) (c2,Zh0 (Zhl S zs ss fs g).jY.tick (ksE fs) fs)))=(e2,c2',fs'):=y1;rw[e0]at a b;exact⟨a,b⟩
 obtain⟨g1,g2⟩:=Zrt (zs:=zs) (ss:=ss) hb d2 K;obtain⟨g3,g4⟩:=Zrt (zs:=zs) (ss:=ss) hb e2 J;have hp1:ZoP d2.kW:=by rw[x6];exact h1.kW
 have hp2:ZoP e2.kW:=by rw[y6];exact h2.kW
 obtain⟨u1,u2,-,-⟩:=Zrd (zs:=zs) (ss:=ss) (K:=K) hS hp1;obtain⟨v1,v2,-,-⟩:=Zrd (zs:=zs) (ss:=ss) (K:=J) hS hp2;have pl1:(goN S zs ss d2 K).kW=[0]:=by rw[g1,x6,H.p1]
 have pl2:(goN S zs ss e2 J).kW=[0]:=by rw[g3,y6,H.p2]
 obtain⟨a1,a2,a3,a4,a5⟩:=ZjF (g:=Zhl S zs ss es g) wA (Pl.vh (goN S zs ss d2 K).kW 0);refine⟨by rw[q1,pl1,pl2],⟨?_,?_,?_,?_,?_,?_,?_,?_,?_,?_⟩,fun hz=>?_⟩
 ·show(goN S zs ss d2 K).now+1=_;rw[u1,x5,hn];push_cast;rfl
 ·show(goN S zs ss e2 J).now+1=_;rw[v1,y5,hn2];push_cast;rfl
 ·show(goN S zs ss d2 K).first=0;rw[g2,f1.1,H.fst]
 ·show(goN S zs ss e2 J).first=0;rw[g4,f2.1,H.fst2]
 ·intro s hs;rw[a3]at hs;exact hA' s hs
 ·intro s hs;rw[a3]at hs;exact hB' s hs
 ·intro _;rw[a3];exact ok0
 ·show Pl.yy (goN S zs ss d2 K).kW=[0];rw[pl1];rfl
 ·show Pl.yy (goN S zs ss e2 J).kW=[0];rw[pl2];rfl
 ·show(goN S zs ss e2 J).mode=1;rw[Zud hsi e2 J f2.2 wA,y7,H.m2]
 ·show(goN S zs ss d2 K).qy=(goN S zs ss e2 J).qy;rw[u2,v2];have same:∀tt,(Zhl S zs ss es g).jY.tick<=tt->HEq (Ziq fs' tt) (Ziq es' tt):=fun tt h=>by
   obtain⟨s,rfl⟩:=nat tt h;have a:=hB' s h;rw[hA' s h];by_cases c:s+dd s<t+1
   ·rw[if_pos c]at a;rw[if_pos wA];exact a
   ·rw[if_neg c]at a;by_cases c2:s<t+1
    ·rw[if_pos c2,hz s wA wA];exact a
    ·rw[if_neg c2];exact a
  have o:=ok0;rw[ZoU]at o;have e0:=Zto (same _ (jQ _)) r4.nd o;rw[<-ZoU,<-ZoU]at e0;have e1:znE S (znB (Zhl S zs ss es g).jY.tick es') (Zhl S zs ss es g).jY=((znE S (znB (Zhl S zs ss es g).jY.tick es') (Zhl S zs ss es g).jY).1,true):=yr rfl ok0;have hc:Zkz S zs ss (Zhl S zs ss es g) fs'=Zkz S zs ss (Zhl S zs ss es g) es':=by
   unfold Zkz at okE ⊢;rw[e0];rw[e1]at okE ⊢;exact ZtO hS (es:=fs') (es2:=es') _ kk1 (fun tt h=>same tt (by rw[kk2]at h;omega)) (by rw[kk2];omega) okE
  rw[q1,hc,x2]at y2;exact(congrArg Prod.fst y2)
end Go.TrRun
namespace Go.TrRun
open Go Go.Eng
abbrev gbk(g v:Nat)(rows:List (List Cl)):Option Blk:=some { box:=false,esz:=3,rows:=rows,gen:=g,fz:=false,ver:=v }
inductive Lh (n:Nat) (M:Mem):Option Nat->List (List Cl)->Cl->Prop
 |nil:Lh n M none [] .jc
 |own (j g v len:Nat) (rows:List (List Cl)) (hj:n<=j) (hl:len<=rows.length) (h:M[j]?=some (gbk g v rows)):Lh n M (some j) (rows.take len) (.slice j g 3 0 len none)
section
variable{n:Nat}{M M':Mem}{o:Option Nat}{A:List (List Cl)}{S:Cl}
theorem Lh.ue(h:Lh n M o A S)(hk:∀j,o=some j->n<=j->j<M.length->M'[j]?=M[j]?):Lh n M' o A S:=by
 cases h with
 |nil=>exact .nil
 |own j g v len rows hj hl h=>exact .own j g v len rows hj hl ((hk j rfl hj (jy.1 h).1).trans h)
def Lh.lt(h:Lh n M o A S){j:Nat}(ho:o=some j):n<=j/\j<M.length:=by
 cases h with
 |nil=>grind
 |own j g v len rows hj hl h=>grind
def Lh.frz(h:Lh n M o A S):zdR M S=some (.jb A):=by
 cases h with
 |nil=>rfl
 |own j g v len rows hj hl h=>simp_all
def Lh.sl(h:Lh n M o A S):slC S=o.toList:=by
 cases h<;>rfl
def Ztu(S:Cl)(n:Nat):Prop:=(S=.jc/\n=0)\/∃j g,S=.slice j g 3 0 n none
def Lh.lenS(h:Lh n M o A S):Ztu S A.length:=by
 cases h with
 |nil=>exact .inl ⟨rfl,rfl⟩
 |own j g v len rows hj hl h=>exact .inr ⟨j,g,by grind⟩
def Lh.app(l:Lh n M o A S)(hn:n<=M.length){x:Cl}{R:List (List Cl)}(he:zeF M 3 x=some R)(bs:Nat)(hr:(A.length+R.length)*bs<=140737488355328) :
  ∃S' M1 fp o',zcB M 3 bs S x=some (.w (.c S'),M1,fp)/\Lh n M1 o' (A++R) S'/\(o'=o\/o'=some M.length)/\M.length<=M1.length/\(∀k,k<M.length->o≠some k->M1[k]?=M[k]?):=by
 by_cases h0:R=[]
 ·subst h0;cases l with
  |nil=>exact⟨.jc,M,.no,none,by simp[-zeF,zcB,he],.nil,.inl rfl,jm _,fun _ _ _=>rfl⟩
  |own j g v len rows hj hl h =>
   refine⟨_,M,.wr [(j,0,whole)],some j,?_,by rw[ku];exact .own j g v len rows hj hl h,.inl rfl,jm _,fun _ _ _=>rfl⟩;have:len*bs<=140737488355328:=by simpa [hl]using hr
   simp[-zeF,zcB,he,Eng.look,h,roomy,this,hl]
 ·cases l with
  |nil =>
   have hro:R.length*bs<=140737488355328:=by simpa using hr
   refine⟨.slice M.length R.length 3 0 R.length none,M++[gbk R.length R.length R],.no,some M.length,by simp[-zeF,zcB,he,h0,roomy,hro],?_,.inr rfl,wD,fun k hk _=>jo hk⟩;have:=Lh.own (M:=M++[gbk R.length R.length R]) M.length R.length R.length R.length R hn (jm _) wD;simpa using this
  |own j g v len rows hj hl h =>
   have hjl:=(jy.1 h).1;have hro:(len+R.length)*bs<=140737488355328:=by simpa [hl]using hr
   refine⟨.slice j (g+R.length) 3 0 (len+R.length) none,M.set j (gbk (g+R.length) (v+R.length) (rows.take len++R)),.wr [(j,0,whole)],some j,by simp[-zeF,zcB,he,h0,Eng.look,h,roomy,hro,hl],?_,.inl rfl,wD,fun k hk hne=>jz (fun e=>hne (by rw[e]))⟩;have:=Lh.own (M:=M.set j (gbk (g+R.length) (v+R.length) (rows.take len++R))) j (g+R.length) (v+R.length) (len+R.length) (rows.take len++R) hj (by simp[hl]) (jS hjl)
   rwa [jx (i:=len+R.length) (l:=rows.take len++R) (by simp[hl])]at this
end
def up{α:Type}(f:Nat->α)(i:Nat)(x:α):Nat->α:=fun k=>if k=i then x else f k
structure Bk(n b:Nat)(t:Int)(M0:Mem)(f:Nat->List (List Cl))(M:Mem):Prop where
 len:n<=M.length
 ue:∀k,k<n->k≠b->M[k]?=M0[k]?
 bx:∃v,∃F:Nat->Cl,∃o:Nat->Option Nat,M[b]?=some (bxv v 4 [I t,F 0,F 1,F 2])/\(∀i,i<3->Lh n M (o i) (f i) (F i))/\∀i j,i<3->j<3->i≠j->∀k,o i=some k->o j≠some k
variable{n b:Nat}{t:Int}{M0 M:Mem}{f:Nat->List (List Cl)}
def Bk.more(h:Bk n b t M0 f M)(hb:b<n)(X:Mem):Bk n b t M0 f (M++X):=by
 obtain⟨h1,h2,v,F,o,hx,l,d⟩:=h;exact⟨by simp;omega,fun k hk hkb=>by rw[jo wA];exact h2 k hk hkb,v,F,o,by rw[jo wA];exact hx,fun i hi=>(l i hi).ue fun j _ _ hj=>jo hj,d⟩
def Bk.drop(h:Bk n b t M0 f M)(hb:b<n){m:Nat}(hm:n<=m)(E:Env):Bk n b t M0 f (km m E M):=by
 unfold km;split
 ·exact h
 ·split
  ·rename_i hl hw;obtain⟨h1,h2,v,F,o,hx,l,d⟩:=h;simp only[jk]at hw;have hx':(M.take m)[b]?=some (bxv v 4 [I t,F 0,F 1,F 2]):=by rw[kd wA];exact hx
   have hr:([[I t,F 0,F 1,F 2]]:List (List Cl)).all (fun r=>r.all (Eng.below m))=true:=jw.1 hw.2 _ (kF hx');simp only[ud,List.all_nil,y9,jk]at hr;obtain⟨_,r0,r1,r2⟩:=hr;have key:∀{o:Option Nat} {rows:List (List Cl)} {S:Cl},Lh n M o rows S->Eng.below m S=true->Lh n (M.take m) o rows S:=fun {o rows S} l hs=>by
    cases l with
    |nil=>exact .nil
    |own j g v len rows hj hl' h =>
     have:j<m:=of_decide_eq_true hs;exact .own j g v len rows hj hl' (by rw[kd this];exact h)
   exact⟨by simp;omega,fun k hk hkb=>by rw[kd wA];exact h2 k hk hkb,v,F,o,hx',fun i hi=>key (l i hi) (by match i,hi with |0,_=>exact r0 |1,_=>exact r1 |2,_=>exact r2),d⟩
  ·exact h
def Bk.put(h1:n<=M.length)(h2:∀k,k<n->k≠b->M[k]?=M0[k]?)(hb:b<n){F:Nat->Cl}{o:Nat->Option Nat}(l:∀i,i<3->Lh n M (o i) (f i) (F i))(d:∀i j,i<3->j<3->i≠j->∀k,o i=some k->o j≠some k)
  {i:Nat} {M1:Mem} {o':Option Nat} {A:List (List Cl)} {S:Cl} (l':Lh n M1 o' A S) (ho:o'=o i\/o'=some M.length) (hle:M.length<=M1.length) (hk:∀k,k<M.length->o i≠some k->M1[k]?=M[k]?) (hi:i<3) (w:Nat) :
  Bk n b t M0 (up f i A) (M1.set b (bxv w 4 [I t,up F i S 0,up F i S 1,up F i S 2])):=by
 have hge:∀k,o i=some k->n<=k:=fun k e=>((l i hi).lt e).1
 refine⟨by simp;omega,fun k hk1 hkb=>?_,w,up F i S,up o i o',jS wA,fun j hj=>?_,fun a c ha3 hc3 hac k ha hc=>?_⟩
 ·rw[jz (ko hkb),hk k wA (fun e=>by have:=hge k e;omega)];exact h2 k hk1 hkb
 ·unfold up;by_cases e:j=i
  ·rw[if_pos e,if_pos e,if_pos e];exact l'.ue fun k _ hn _=>jz wA
  ·rw[if_neg e,if_neg e,if_neg e];refine(l j hj).ue fun k ho hn hl=>?_
   rw[jz wA];exact hk k hl (fun e2=>d j i hj hi e k ho e2)
 ·unfold up at ha hc;by_cases e:a=i
  ·rw[if_pos e]at ha;have e2:c≠i:=fun e2=>hac (e.trans e2.symm)
   rw[if_neg e2]at hc;rcases ho with q|q<;>rw[q]at ha
   ·exact d i c hi hc3 (ko e2) k ha hc
   ·cases ha;exact absurd ((l c hc3).lt hc).2 wA
  ·rw[if_neg e]at ha;by_cases e2:c=i
   ·rw[if_pos e2]at hc;rcases ho with q|q<;>rw[q]at hc
    ·exact d a i ha3 hi e k ha hc
    ·cases hc;exact absurd ((l a ha3).lt ha).2 wA
   ·rw[if_neg e2]at hc;exact d a c ha3 hc3 hac k ha hc
end Go.TrRun
namespace Go.TrRun
open Go Go.Eng
abbrev bkE(x z:WV)(k:Int)(b13 b i:Nat)(t:Int)(n7:Nat):Env:=[(17,.w (W k)),(13,.w (Pt b13)),(1,.w x),(9,.w (Pt 4)),(7,.w (Pt 1)),(2,.w z),(12,.w (W t)),(11,.w (.c (.slice 7 n7 4 0 n7 none))),(15,.w (W i)),(14,.w (Pt b))]
abbrev Ztm(x z:WV)(k:Int)(b13 b i:Nat)(t:Int)(n7:Nat):Env:=[(18,.w (W k)),(12,.w (W t)),(2,.w z),(7,.w (Pt 1)),(9,.w (Pt 4)),(1,.w x),(13,.w (Pt b13)),(11,.w (.c (.slice 7 n7 4 0 n7 none))),(15,.w (W i)),(14,.w (Pt b))]
abbrev tbk(told:List (List Cl))(n:Nat):Option Blk:=some { box:=false,esz:=4,rows:=told,gen:=n,fz:=false,ver:=n }
def ZuN{M:Mem}{r:List Cl}:zeF (M++[gbk 1 1 [r]]) 3 (.slice M.length 1 3 0 1 none)=some [r]:=by simp[zeF,Eng.look]
def ZuK(x z:WV)(b13 b i:Nat)(t:Int)(n7 n n1:Nat)(hb:b<n)(hn1:n<=n1)(told:List (List Cl))(R:List Mrk)(Q:List (List Cl))(hQ:Q=zb R)(c0 c1 c3:Cl)(hR:R.length<=100)(M0:Mem)(ha:7<n)(hab:7≠b)(h7:M0[7]?=some (tbk told n7))(hin:i<n7)(hi:told[i]?=some [c0,c1,.jb Q,c3]):∀(m:Nat) (f:Nat->List (List Cl)) (M:Mem),m<=R.length->(f 1).length+m<=1000->Bk n b t M0 f M ->
  ∃M',Y L Cs Zs2 (some [17,13,1,9,7,2,12,11,15,14]) n1 (bkE x z ((m:Int)-1) b13 b i t n7) M=some (.exit 4,(128,.w (Bo false))::bkE x z (-1) b13 b i t n7,M')/\Bk n b t M0 (up f 1 (f 1++zb (R.take m).reverse)) M'
 |0,f,M,hm,hl,H=>by
  refine⟨M,?_,?_⟩
  ·rw[ZfM Zs2.eq_1];simp
  ·rwa [show up f 1 (f 1++zb (R.take 0).reverse)=f from funext fun k=>by unfold up;split<;>simp_all [zb]]
 |m+1,f,M,hm,hl,H=>by
  have hm':m<R.length:=wA
  have H2:=H.more hb [gbk 1 1 [ZjO R[m]]];obtain⟨v,F,o,hx,l,d⟩:=H2.bx;obtain⟨S',M1,fp,o',hA,l',ho,hle,hk⟩:=(l 1 wC).app H2.len ZuN 24 (by simp;omega);have hbo:o 1≠some b:=fun e=>by have:=((l 1 wC).lt e).1;omega
  have hx1:=(hk b (by have:=H2.len;omega) hbo).trans hx;have H3:=(Bk.put (t:=t) H2.len H2.ue hb l d l' ho hle hk wC (v+1)).drop hb hn1 (bkE x z ((m:Int)-1) b13 b i t n7);obtain⟨M',y,H4⟩:=ZuK x z b13 b i t n7 n n1 hb hn1 told R Q hQ c0 c1 c3 hR M0 ha hab h7 hin hi m _ _ wA (by show(f 1++_).length+m<=1000;simp;omega) H3;refine⟨M',?_,?_⟩
  ·rw[<-y];have g7:=(H.ue 7 ha hab).trans h7;have hlm:=H.len;have h7l:7<M.length:=wA
   have hbl:b<M.length:=wA
   rw[jo hbl]at hx;have g8:∀X:Mem,(M++X)[7]?=some (tbk told n7):=fun X=>by rw[jo h7l];exact g7
   have g9:∀X:Mem,(M++X)[b]?=some (bxv v 4 [I t,F 0,F 1,F 2]):=fun X=>by rw[jo hbl];exact hx
   have hci:(i:Int)<n7:=wA
   have hmi:(m:Int)<Q.length:=by simp[hQ,zb];omega
   have hmn:m<Q.length:=by simp[hQ,zb];omega
   have hrow:∀h:m<Q.length,Q[m]'h=ZjO R[m]:=fun h=>by simp[hQ,zb]
   have hw:IntKind.i64.wrap ((m:Int)-1)=(m:Int)-1:=zTd _ wA wA;simp only[ZjO]at hrow hA;rw[ZfM Zs2.eq_1];simp[-km,-zcB,hci,hin,hmi,hmn,hw,g7,g8,g9,hi,hrow,hx,hA,hx1,zg,up]
  ·have e:up (up f 1 (f 1++[ZjO R[m]])) 1 (up f 1 (f 1++[ZjO R[m]]) 1++zb (R.take m).reverse)=up f 1 (f 1++zb (R.take (m+1)).reverse):=funext fun k=>by
    unfold up;split
    ·rw[kU hm',List.reverse_append];exact jM ..
    ·rfl
   rwa [e]at H4
def ZuJ(x z:WV)(b13 b i:Nat)(t:Int)(n7 n n1:Nat)(hb:b<n)(hn1:n<=n1)(told:List (List Cl))(R:List Mrk)(Q:List (List Cl))(hQ:Q=zb R)(c0 c1 c2:Cl)(hR:R.length<=100)(M0:Mem)(ha:7<n)(hab:7≠b)(h7:M0[7]?=some (tbk told n7))(hin:i<n7)(hi:told[i]?=some [c0,c1,c2,.jb Q]):∀(m:Nat) (f:Nat->List (List Cl)) (M:Mem),m<=R.length->(f 2).length+m<=1000->Bk n b t M0 f M ->
  ∃M',Y L Cs Zs1 (some [18,12,2,7,9,1,13,11,15,14]) n1 (Ztm x z ((m:Int)-1) b13 b i t n7) M=some (.exit 6,(152,.w (Bo false))::Ztm x z (-1) b13 b i t n7,M')/\Bk n b t M0 (up f 2 (f 2++zb (R.take m).reverse)) M'
 |0,f,M,hm,hl,H=>by
  refine⟨M,?_,?_⟩
  ·rw[ZfM Zs1.eq_1];simp
  ·rwa [show up f 2 (f 2++zb (R.take 0).reverse)=f from funext fun k=>by unfold up;split<;>simp_all [zb]]
 |m+1,f,M,hm,hl,H=>by
  have hm':m<R.length:=wA
  have H2:=H.more hb [gbk 1 1 [ZjO R[m]]];obtain⟨v,F,o,hx,l,d⟩:=H2.bx;obtain⟨S',M1,fp,o',hA,l',ho,hle,hk⟩:=(l 2 wC).app H2.len ZuN 24 (by simp;omega);have hbo:o 2≠some b:=fun e=>by have:=((l 2 wC).lt e).1;omega
  have hx1:=(hk b (by have:=H2.len;omega) hbo).trans hx;have H3:=(Bk.put (t:=t) H2.len H2.ue hb l d l' ho hle hk wC (v+1)).drop hb hn1 (Ztm x z ((m:Int)-1) b13 b i t n7);obtain⟨M',y,H4⟩:=ZuJ x z b13 b i t n7 n n1 hb hn1 told R Q hQ c0 c1 c2 hR M0 ha hab h7 hin hi m _ _ wA (by show(f 2++_).length+m<=1000;simp;omega) H3;refine⟨M',?_,?_⟩
  ·rw[<-y];have g7:=(H.ue 7 ha hab).trans h7;have hlm:=H.len;have h7l:7<M.length:=wA
   have hbl:b<M.length:=wA
   rw[jo hbl]at hx;have g8:∀X:Mem,(M++X)[7]?=some (tbk told n7):=fun X=>by rw[jo h7l];exact g7
   have g9:∀X:Mem,(M++X)[b]?=some (bxv v 4 [I t,F 0,F 1,F 2]):=fun X=>by rw[jo hbl];exact hx
   have hci:(i:Int)<n7:=wA
   have hmi:(m:Int)<Q.length:=by simp[hQ,zb];omega
   have hmn:m<Q.length:=by simp[hQ,zb];omega
   have hrow:∀h:m<Q.length,Q[m]'h=ZjO R[m]:=fun h=>by simp[hQ,zb]
   have hw:IntKind.i64.wrap ((m:Int)-1)=(m:Int)-1:=zTd _ wA wA;simp only[ZjO]at hrow hA;rw[ZfM Zs1.eq_1];simp[-km,-zcB,hci,hin,hmi,hmn,hw,g7,g8,g9,hi,hrow,hx,hA,hx1,zg,up]
  ·have e:up (up f 2 (f 2++[ZjO R[m]])) 2 (up f 2 (f 2++[ZjO R[m]]) 2++zb (R.take m).reverse)=up f 2 (f 2++zb (R.take (m+1)).reverse):=funext fun k=>by
    unfold up;split
    ·rw[kU hm',List.reverse_append];exact jM ..
    ·rfl
   rwa [e]at H4
abbrev b3E(x:WV)(late:List Int)(i:Int)(b13 b:Nat)(t:Int)(n7:Nat):Env:=[(15,.w (W i)),(13,.w (Pt b13)),(1,.w x),(9,.w (Pt 4)),(7,.w (Pt 1)),(2,.w (.c (.jb (zu late)))),(12,.w (W t)),(14,.w (Pt b)),(11,.w (.c (.slice 7 n7 4 0 n7 none)))]
def dl(late:List Int)(s:Nat):Nat:=if h:late=[] then 0 else(late[s % late.length]'(qF _ (kD.2 h)) % 5).toNat
def ZuG(late:List Int)(s:Nat):dl late s<=4:=by
 unfold dl;split<;>omega
def bkS(T:Nat->Zjo)(dd:Nat->Nat)(t:Nat):Nat->Zjo->Zjo
 |0,y=>y
 |q+1,y=>if t<=q+4 then bkS T dd t q (if q+dd q=t then⟨y.tick,y.jP++(T q).jP,y.jD++(T q).jD.reverse,y.jO++(T q).jO.reverse⟩ else y) else y
def inF(y:Zjo):Nat->List (List Cl)
 |0=>ZlG y.jP
 |1=>zb y.jD
 |2=>zb y.jO
 |_=>[]
def ZuQ(y x:Zjo):up (up (up (inF y) 0 (inF y 0++ZlG x.jP)) 1 (inF y 1++zb x.jD.reverse)) 2 (inF y 2++zb x.jO.reverse)=inF ⟨y.tick,y.jP++x.jP,y.jD++x.jD.reverse,y.jO++x.jO.reverse⟩:=funext fun k=>by
 match k with
 |0=>simp[up,inF,ZlG]
 |1=>simp[up,inF,zb]
 |2=>simp[up,inF,zb]
 |k+3=>simp[up,inF]
def ZuH(l:List Mrk):(zb l).length=l.length:=by simp[zb]
def Ztr(x:WV)(late:List Int)(b13 b:Nat)(t:Nat)(ht:t<=20)(n7 n n1:Nat)(hb:b<n)(hn1:n<=n1)(ha:7<n)(hab:7≠b)(told:List (List Cl))(T:Nat->Zjo)(M0:Mem)(hT:∀i,(T i).jP.length<=10/\(T i).jD.length<=10/\(T i).jO.length<=10)(hmd:∀k:Int,R L Cs zny [W k,W 5] []=some (.w (W (k % 5)),[]))
  (h7:M0[7]?=some (tbk told n7)) (htn:t<n7) (hto:∀i,i<=t->told[i]?=some (inC (T i))):∀(q:Nat) (y:Zjo) (M:Mem),q<=t+1->y.jP.length+10*q<=500->y.jD.length+10*q<=500->y.jO.length+10*q<=500->Bk n b t M0 (inF y) M ->
  ∃k M',Y L Cs Zs0 (some [15,13,1,9,7,2,12,14,11]) n1 (b3E x late ((q:Int)-1) b13 b t n7) M=some (.exit 2,(92,.w (Bo false))::b3E x late k b13 b t n7,M')/\Bk n b t M0 (inF (bkS T (dl late) t q y)) M'
 |0,y,M,hq,l1,l2,l3,H=>by
  refine⟨-1,M,?_,H⟩;rw[ZfM Zs0.eq_1];simp
 |q+1,y,M,hq,l1,l2,l3,H=>by
  have w1:IntKind.i64.wrap ((t:Int)-4)=(t:Int)-4:=zTd _ wA wA;have w2:IntKind.i64.wrap ((q:Int)-1)=(q:Int)-1:=zTd _ wA wA;have w3:IntKind.i64.wrap (q:Int)=q:=zTd _ wA wA;have hmd2:∀(k:Int) M,zx (R L Cs) ⟨true⟩ (.c (.fn zny [] [])) [W k,W 5] M=some (.w (W (k % 5)),M,.no):=fun k M=>by simp[hmd k]
  rw[show(((q+1:Nat):Int)-1)=(q:Int) by omega];unfold bkS;by_cases h4:t<=q+4
  case neg =>
   rw[if_neg h4];refine⟨q,M,?_,H⟩;have c2:(q:Int)<(t:Int)-4:=wA
   have c3:¬(t:Int)-4<=q:=wA
   rw[ZfM Zs0.eq_1];simp[w1,c2,c3]
  rw[if_pos h4];have c2:¬(q:Int)<(t:Int)-4:=wA
  have c3:(t:Int)-4<=q:=wA
  have hl:late=[]/\dl late q=0\/∃j:Nat,late≠[]/\0<late.length/\Int.tmod (q:Int) late.length=(j:Int)/\∃hj:j<late.length,IntKind.i64.wrap ((q:Int)+late[j] % 5)=(q+dl late q:Nat):=by
   by_cases hl:late=[]
   ·exact .inl ⟨hl,dif_pos hl⟩
   ·have uo:0<late.length:=kD.2 hl;have hh:q % late.length<late.length:=qF _ uo;have e:dl late q=(late[q % late.length] % 5).toNat:=dif_neg hl;refine .inr ⟨q % late.length,hl,uo,rfl,hh,?_⟩;rw[zTd _ wA wA];omega
  by_cases he:q+dl late q=t
  ·rw[if_pos he];obtain⟨hT1,hT2,hT3⟩:=hT q;have Da:=hto q wA;obtain⟨v,F,o,hx,l,d⟩:=H.bx;obtain⟨R1,hR1⟩:∃R1,R1=ZlG (T q).jP:=⟨_,rfl⟩;have hel:zeF M 3 (.jb R1)=some R1:=by
    simp[zeF,hR1,ZlG];exact fun _ _=>rfl
   have hl1:R1.length<=10:=by rw[hR1];simpa [ZlG]using hT1
   have hly:(inF y 0).length=y.jP.length:=by simp[inF,ZlG]
   obtain⟨S',M1,fp,o',hA,l',ho,hle,hk⟩:=(l 0 wC).app H.len hel 56 wA;have hge:∀k,k<n->o 0≠some k:=fun k hk e=>by have:=((l 0 wC).lt e).1;omega
   have hlen:=H.len;have HA:=Bk.put (t:=t) H.len H.ue hb l d l' ho hle hk wC (v+1);rw[hR1]at HA;have g7:=(H.ue 7 ha hab).trans h7;have g71:=(hk 7 wA (hge 7 ha)).trans g7;have hx1:=(hk b wA (hge b hb)).trans hx;obtain⟨R2,hR2⟩:∃R2,R2=zb (T q).jD:=⟨_,rfl⟩;obtain⟨R3,hR3⟩:∃R3,R3=zb (T q).jO:=⟨_,rfl⟩;simp only[inC]at Da;rw[<-hR1,<-hR2,<-hR3]at Da;have q2:(T q).jD.length=R2.length:=by rw[hR2,ZuH]
   have q3:(T q).jO.length=R3.length:=by rw[hR3,ZuH]
   obtain⟨MB,y1,HB⟩:=ZuK x (.c (.jb (zu late))) b13 b q t n7 n M1.length hb wA told (T q).jD R2 hR2 _ _ _ wA M0 ha hab h7 wA Da (T q).jD.length _ _ (jm _) (by simp[up,inF,ZuH];omega) HA;obtain⟨MC,y2,HC⟩:=ZuJ x (.c (.jb (zu late))) b13 b q t n7 n MB.length hb HB.len told (T q).jO R3 hR3 _ _ _ wA M0 ha hab h7 wA Da (T q).jO.length _ _ (jm _) (by simp[up,inF,ZuH];omega) HB;rw[kC]at HC;rw[kC]at HC;have HC':Bk n b t M0 (inF ⟨y.tick,y.jP++(T q).jP,y.jD++(T q).jD.reverse,y.jO++(T q).jO.reverse⟩) MC:=by
    rw[<-ZuQ];exact HC
   have gB:=(HB.ue 7 ha hab).trans h7;obtain⟨k,M',z1,z2⟩:=Ztr x late b13 b t ht n7 n n1 hb hn1 ha hab told T M0 hT hmd h7 htn hto q _ _ wA (by simp;omega) (by simp;omega) (by simp;omega) (HC'.drop hb hn1 (b3E x late ((q:Int)-1) b13 b t n7));refine⟨k,M',?_,z2⟩;rw[<-z1];have w4:IntKind.i64.wrap ((R2.length:Int)-1)=(R2.length:Int)-1:=zTd _ wA wA;have w5:IntKind.i64.wrap ((R3.length:Int)-1)=(R3.length:Int)-1:=zTd _ wA wA;have hci:(q:Int)<n7:=wA
   have hqn:q<n7:=wA
   have d1:∀E X,km M1.length E (M1.set b X)=M1.set b X:=fun E X=>by unfold km;rw[if_pos wD]
   have d2:∀E,km MB.length E MB=MB:=fun E=>by unfold km;rw[if_pos (jm _)]
   have g7':∀X,(M1.set b X)[7]?=some (tbk told n7):=fun X=>by rw[jz (ko hab)];exact g71
   rw[q2]at y1;rw[q3]at y2;simp only[bkE,Ztm,up,if_true,if_false,reduceIte,Nat.reduceEqDiff]at y1 y2;rw[ZfM Zs0.eq_1];rcases hl with⟨rfl,h0⟩ |⟨j,hl,uo,hjm,hjl,w6⟩
   ·obtain rfl:q=t:=wA
    simp only[zay]at y1 y2;simp[-zx,-km,-zcB,w1,w2,w3,w4,w5,c2,c3,hx,hx1,g7,g7',hqn,Da,hA,hci,d1,d2,y1,gB,y2];rfl
   ·rw[he]at w6;simp[-zx,-km,-zcB,w1,w2,w6,w4,w5,c2,c3,hx,hx1,g7,g7',hqn,Da,hA,hci,d1,d2,y1,gB,y2,hl,uo,hjm,hjl,hmd2]
  ·rw[if_neg he];obtain⟨k,M',z1,z2⟩:=Ztr x late b13 b t ht n7 n n1 hb hn1 ha hab told T M0 hT hmd h7 htn hto q y _ wA wA wA wA (H.drop hb hn1 (b3E x late ((q:Int)-1) b13 b t n7));refine⟨k,M',?_,z2⟩;rw[<-z1];rw[ZfM Zs0.eq_1];rcases hl with⟨rfl,h0⟩ |⟨j,hl,uo,hjm,hjl,w6⟩
   ·have c4:¬(q:Int)=t:=wA
    simp[-zx,-km,w1,w2,w3,c2,c3,c4];rfl
   ·have c4:¬((q+dl late q:Nat):Int)=t:=wA
    simp[-zx,-km,-Int.natCast_add,w1,w2,w6,c2,c3,c4,hl,uo,hjm,hjl,hmd2]
abbrev ZoM(l:List Zjo):List (List Cl):=l.map inC
def Zpi(y:zZP):Bool:=decide (y.seen.length<=8)&&decide (y.pts.length<=20)
def ZpQ(x:Zjo):Bool:=decide (x.jP.length<=10)&&(decide (x.jD.length<=10)&&(decide (x.jO.length<=10)&&x.jP.all Zpi))
def smB(l:List Zjo):Bool:=decide (l.length<=8)&&l.all ZpQ
def ZoY{α:Type}{l r:List α}{x:α}{i:Nat}(h:l.drop i=x::r):∃hi:i<l.length,l[i]=x/\l.drop (i+1)=r:=by
 have hi:i<l.length:=by
  have:=congrArg List.length h
  grind
 grind [List.drop_eq_getElem_cons,List.cons.inj]
def ZoS{α:Type}{l:List α}{i:Nat}(h:l.drop i=[])(hi:i<=l.length):i=l.length:=by
 have:=congrArg List.length h
 grind
def Zpw(l:List Zjo)(i:Nat)(hi:i<l.length)(hs:l[i].jP.length<=10):∀(r:List zZP) (k:Nat),l[i].jP.drop k=r->k<=l[i].jP.length ->
  Y L Cs ZoD (some [0,3,4]) 0 [(0,.w (.c (.jb (ZoM l)))),(3,.w (W i)),(4,.w (W k))] [] =
    if r.all Zpi then some (.exit 2,[(46,.w (Bo false)),(3,.w (W i)),(0,.w (.c (.jb (ZoM l)))),(4,.w (W l[i].jP.length))],[]) else some (.ret,[(2,.w (Bo false))],[])
 |[],k,hd,hk=>by
  obtain rfl:=ZoS hd hk;rw[ZfM ZoD.eq_1];simp[hi,ZlG]
 |y::r,k,hd,hk=>by
  obtain⟨hk1,hy,hd'⟩:=ZoY hd;have hw:=zB (i:=k) wA;have ih:=Zpw l i hi hs r (k+1) hd' wA;have hck:(k:Int)<l[i].jP.length:=wA
  rw[ud];rw[ZfM ZoD.eq_1];by_cases c1:y.seen.length<=8
  ·by_cases c2:y.pts.length<=20
   ·have e:Zpi y=true:=by simp[Zpi,c1,c2]
    rw[e,uw,<-ih];have d1:¬(8:Int)<y.seen.length:=wA
    have d2:¬(20:Int)<y.pts.length:=wA
    simp[hi,ZlG,hck,hk1,hy,hw,zX6,zWx,zWs,d1,d2]
   ·have e:Zpi y=false:=by simp[Zpi,c2]
    rw[e,yP,if_neg wD];have d1:¬(8:Int)<y.seen.length:=wA
    have d2:(20:Int)<y.pts.length:=wA
    simp[hi,ZlG,hck,hk1,hy,zX6,zWx,zWs,d1,d2]
  ·have e:Zpi y=false:=by simp[Zpi,c1]
   rw[e,yP,if_neg wD];have d1:(8:Int)<y.seen.length:=wA
   simp[hi,ZlG,hck,hk1,hy,zX6,zWx,zWs,d1]
def Zpv(l:List Zjo)(hl:l.length<=8):∀(r:List Zjo) (i:Nat),l.drop i=r->i<=l.length ->
  Y L Cs ZoC (some [3,0]) 0 [(3,.w (W i)),(0,.w (.c (.jb (ZoM l))))] [] =
    if r.all ZpQ then some (.exit 0,[(11,.w (Bo false)),(3,.w (W l.length)),(0,.w (.c (.jb (ZoM l))))],[]) else some (.ret,[(2,.w (Bo false))],[])
 |[],i,hd,hi=>by
  obtain rfl:=ZoS hd hi;rw[ZfM ZoC.eq_1];simp
 |x::r,i,hd,hi=>by
  obtain⟨hi1,hx,hd'⟩:=ZoY hd;have hw:=zB (i:=i) wA;have ih:=Zpv l hl r (i+1) hd' wA;have hci:(i:Int)<l.length:=wA
  rw[ud];rw[ZfM ZoC.eq_1];unfold ZpQ;by_cases c1:x.jP.length<=10
  ·have d1:¬(10:Int)<x.jP.length:=wA
   by_cases c2:x.jD.length<=10
   ·have d2:¬(10:Int)<x.jD.length:=wA
    by_cases c3:x.jO.length<=10
    ·have d3:¬(10:Int)<x.jO.length:=wA
     have h1:=Zpw l i hi1 (by rw[hx];exact c1) x.jP 0 (by rw[hx];rfl) (jr _);simp only[jg]at h1;simp only[c1,c2,c3,decide_true,uw];by_cases c4:x.jP.all Zpi=true
     ·rw[if_pos c4]at h1;rw[c4,uw];unfold ZpQ at ih;rw[<-ih];simp[hi1,hx,hci,hw,d1,d2,d3,ZlG,zb,h1]
     ·rw[if_neg c4]at h1;simp only[Al]at c4;rw[c4,yP,if_neg wD];simp[hi1,hx,hci,hw,d1,d2,d3,ZlG,zb,h1]
    ·have d3:(10:Int)<x.jO.length:=wA
     simp[c3,hi1,hx,hci,hw,d1,d2,d3,ZlG,zb]
   ·have d2:(10:Int)<x.jD.length:=wA
    simp[c2,hi1,hx,hci,hw,d1,d2,ZlG,zb]
  ·have d1:(10:Int)<x.jP.length:=wA
   simp[c1,hi1,hx,hci,hw,d1,ZlG,zb]
def Zqn(l:List Zjo):R L Cs ZoI [.c (.jb (ZoM l))] []=some (.w (Bo (smB l)),[]):=by
 rw[zUa ZoV rfl];unfold smB;by_cases h:l.length<=8
 ·have h2:=Zpv l h l 0 rfl (jr _);simp only[jg]at h2;have d:¬(8:Int)<l.length:=wA
  rw[decide_eq_true h,uw];by_cases c:l.all ZpQ=true
  ·rw[if_pos c]at h2;rw[c];simp[ZoB,d,h2]
  ·rw[if_neg c]at h2;simp only[Al]at c;rw[c];simp[ZoB,d,h2]
 ·have d:(8:Int)<l.length:=wA
  rw[decide_eq_false h,yP];simp[ZoB,d]
def w64(n:Int):Int:=IntKind.i64.wrap n
def ZoR(t:Int)(x:Mrk):Mrk:=⟨w64 (x.st+t),x.lo,x.hi⟩
def Zo8(t:Int)(x:zZP):zZP:=⟨w64 (x.qd+t),x.seen,x.pts⟩
def shI(t:Int)(x:Zjo):Zjo:=⟨w64 (x.tick+t),x.jP.map (Zo8 t),x.jD.map (ZoR t),x.jO.map (ZoR t)⟩
abbrev z4:List Cl:=[I 0,.jc,.jc,.jc]
abbrev shM(x:Zjo)(t:Int)(s1 s2 s3:Cl)(v:Nat)(G:Mem):Mem:=bx 4 (inC x)::bx 4 z4::bxv v 4 [I t,s1,s2,s3]::G
inductive LsN (n:Nat) (G:Mem):List (List Cl)->Cl->Prop
 |nil:LsN n G [] .jc
 |own (j:Nat) (hj:n<=j) (rows:List (List Cl)) (h0:rows≠[]) (h:G[j]?=some (some (own 3 rows))):LsN n G rows (.slice (j+3) rows.length 3 0 rows.length none)
def ZoX{x:Zjo}{t:Int}{s1 s2 s3:Cl}{v n:Nat}{G:Mem}{E:Env}(hn:3<=n)(h:Eng.below n s1=false\/Eng.below n s2=false\/Eng.below n s3=false):km n E (shM x t s1 s2 s3 v G)=shM x t s1 s2 s3 v G:=by
 unfold km;split
 ·rfl
 ·rw[if_neg];intro hb;simp only[jk]at hb;obtain⟨m,rfl⟩:∃m,n=m+3:=⟨n-3,wA⟩
  simp_all
abbrev Zp3(i:Nat)(t:Int):Env:=[(7,.w (W i)),(4,.w (Pt 1)),(1,.w (W t)),(2,.w (Pt 0)),(5,.w (Pt 2))]
def Zpb(x:Zjo)(t t':Int)(s1 s3:Cl)(hs:x.jD.length<=100)(G0:Mem):∀(r:List Mrk) (i v:Nat) (s2:Cl) (G:Mem),x.jD.drop i=r->i<=x.jD.length->LsN G0.length G (zb ((x.jD.take i).map (ZoR t))) s2->G0.length<=G.length->(∀k,k<G0.length->G[k]?=G0[k]?) ->
  ∃v' S' G',Y L Cs Zox (some [7,4,1,2,5]) (G0.length+3) (Zp3 i t) (shM x t' s1 s2 s3 v G)=some (.exit 2,(55,.w (Bo false))::Zp3 x.jD.length t,(shM x t' s1 S' s3 v' G'))/\LsN G0.length G' (zb (x.jD.map (ZoR t))) S'/\G0.length<=G'.length/\(∀k,k<G0.length->G'[k]?=G0[k]?)
 |[],i,v,s2,G,hd,hi,hL,hg,hk=>by
  obtain rfl:=ZoS hd hi;refine⟨v,s2,G,?_,by rw[kC]at hL;exact hL,hg,hk⟩;rw[ZfM Zox.eq_1];simp[inC,zb,ZjO]
 |y::r,i,v,s2,G,hd,hi,hL,hg,hk=>by
  obtain⟨hi1,hy,hd'⟩:=ZoY hd;have hw:=zB (i:=i) wA;have hci:(i:Int)<x.jD.length:=wA
  have htk:zb ((x.jD.take (i+1)).map (ZoR t))=zb ((x.jD.take i).map (ZoR t))++[[I (w64 (y.st+t)),I y.lo,I y.hi]]:=by
   rw[kU hi1,hy];simp[zb,ZoR,ZjO]
  have hln:(zb ((x.jD.take i).map (ZoR t))).length=i:=by simp[zb];omega
  generalize zb ((x.jD.take i).map (ZoR t))=rows at hL htk hln;cases hL with
  |nil =>
   obtain rfl:i=0:=by simpa using hln.symm
   have hdr:km (G0.length+3) (Zp3 1 t) (shM x t' s1 (.slice ((G.length+1)+3) 1 3 0 1 none) s3 (v+1) (G++[some (own 3 [[I (w64 (y.st+t)),I y.lo,I y.hi]]),some (own 3 [[I (w64 (y.st+t)),I y.lo,I y.hi]])]))=(shM x t' s1 (.slice ((G.length+1)+3) 1 3 0 1 none) s3 (v+1) (G++[some (own 3 [[I (w64 (y.st+t)),I y.lo,I y.hi]]),some (own 3 [[I (w64 (y.st+t)),I y.lo,I y.hi]])])):=ZoX wA (.inr (.inl (by simp[Eng.below,yC];omega)));obtain⟨v',S',G',ih,h1,h2,h3⟩:=Zpb x t t' s1 s3 hs G0 r 1 (v+1) (.slice ((G.length+1)+3) 1 3 0 1 none) (G++[some (own 3 [[I (w64 (y.st+t)),I y.lo,I y.hi]]),some (own 3 [[I (w64 (y.st+t)),I y.lo,I y.hi]])]) hd' wA (by
    rw[htk];exact .own (G.length+1) wA _ wD (by simp[own])) (by simp;omega) (fun k hk'=>by rw[jo wA];exact hk k hk')
   refine⟨v',S',G',?_,h1,h2,h3⟩;rw[<-ih,<-hdr];rw[ZfM Zox.eq_1];simp[-km,inC,zb,ZjO,hi1,hy,wk1,own,w64]<;>rfl
  |own j hj _ h0 hG =>
   have hjl:=(jy.1 hG).1;have hi0:i≠0:=fun e=>h0 (jN (hln.trans e))
   have hj2:∀N:Mem,(G++N)[j]?=some (some (own 3 rows)):=fun N=>by rw[jo hjl];exact hG
   have hr:(i+1)*24<=140737488355328:=wA
   have htr:List.take i rows=rows:=by rw[<-hln];exact kC
   rw[hln];have hdr:km (G0.length+3) (Zp3 (i+1) t) (shM x t' s1 (.slice (j+3) (i+1) 3 0 (i+1) none) s3 (v+1) ((G++[some (own 3 [[I (w64 (y.st+t)),I y.lo,I y.hi]])]).set j (some (own 3 (rows++[[I (w64 (y.st+t)),I y.lo,I y.hi]])))))=(shM x t' s1 (.slice (j+3) (i+1) 3 0 (i+1) none) s3 (v+1) ((G++[some (own 3 [[I (w64 (y.st+t)),I y.lo,I y.hi]])]).set j (some (own 3 (rows++[[I (w64 (y.st+t)),I y.lo,I y.hi]]))))):=ZoX wA (.inr (.inl (by simp[Eng.below,yC];omega)));obtain⟨v',S',G',ih,h1,h2,h3⟩:=Zpb x t t' s1 s3 hs G0 r (i+1) (v+1) (.slice (j+3) (i+1) 3 0 (i+1) none) ((G++[some (own 3 [[I (w64 (y.st+t)),I y.lo,I y.hi]])]).set j (some (own 3 (rows++[[I (w64 (y.st+t)),I y.lo,I y.hi]])))) hd' wA (by
    rw[htk];have:=LsN.own (n:=G0.length) (G:=(G++[some (own 3 [[I (w64 (y.st+t)),I y.lo,I y.hi]])]).set j (some (own 3 (rows++[[I (w64 (y.st+t)),I y.lo,I y.hi]])))) j hj (rows++[[I (w64 (y.st+t)),I y.lo,I y.hi]]) wD (jS (by simp;omega));simpa [hln]using this) (by simp;omega) (fun k hk'=>by rw[jz wA,jo wA];exact hk k hk')
   refine⟨v',S',G',?_,h1,h2,h3⟩;rw[<-ih,<-hdr];rw[ZfM Zox.eq_1];simp[-km,inC,zb,ZjO,hi1,hci,hy,hw,own,w64,hj2,hln,hr,htr]<;>rfl
abbrev Zp2(i:Nat)(t:Int):Env:=[(8,.w (W i)),(4,.w (Pt 1)),(1,.w (W t)),(2,.w (Pt 0)),(5,.w (Pt 2))]
def Zpa(x:Zjo)(t t':Int)(s1 s2:Cl)(hs:x.jO.length<=100)(G0:Mem):∀(r:List Mrk) (i v:Nat) (s3:Cl) (G:Mem),x.jO.drop i=r->i<=x.jO.length->LsN G0.length G (zb ((x.jO.take i).map (ZoR t))) s3->G0.length<=G.length->(∀k,k<G0.length->G[k]?=G0[k]?) ->
  ∃v' S' G',Y L Cs Zow (some [8,4,1,2,5]) (G0.length+3) (Zp2 i t) (shM x t' s1 s2 s3 v G)=some (.exit 4,(88,.w (Bo false))::Zp2 x.jO.length t,(shM x t' s1 s2 S' v' G'))/\LsN G0.length G' (zb (x.jO.map (ZoR t))) S'/\G0.length<=G'.length/\(∀k,k<G0.length->G'[k]?=G0[k]?)
 |[],i,v,s3,G,hd,hi,hL,hg,hk=>by
  obtain rfl:=ZoS hd hi;refine⟨v,s3,G,?_,by rw[kC]at hL;exact hL,hg,hk⟩;rw[ZfM Zow.eq_1];simp[inC,zb,ZjO]
 |y::r,i,v,s3,G,hd,hi,hL,hg,hk=>by
  obtain⟨hi1,hy,hd'⟩:=ZoY hd;have hw:=zB (i:=i) wA;have hci:(i:Int)<x.jO.length:=wA
  have htk:zb ((x.jO.take (i+1)).map (ZoR t))=zb ((x.jO.take i).map (ZoR t))++[[I (w64 (y.st+t)),I y.lo,I y.hi]]:=by
   rw[kU hi1,hy];simp[zb,ZoR,ZjO]
  have hln:(zb ((x.jO.take i).map (ZoR t))).length=i:=by simp[zb];omega
  generalize zb ((x.jO.take i).map (ZoR t))=rows at hL htk hln;cases hL with
  |nil =>
   obtain rfl:i=0:=by simpa using hln.symm
   have hdr:km (G0.length+3) (Zp2 1 t) (shM x t' s1 s2 (.slice ((G.length+1)+3) 1 3 0 1 none) (v+1) (G++[some (own 3 [[I (w64 (y.st+t)),I y.lo,I y.hi]]),some (own 3 [[I (w64 (y.st+t)),I y.lo,I y.hi]])]))=(shM x t' s1 s2 (.slice ((G.length+1)+3) 1 3 0 1 none) (v+1) (G++[some (own 3 [[I (w64 (y.st+t)),I y.lo,I y.hi]]),some (own 3 [[I (w64 (y.st+t)),I y.lo,I y.hi]])])):=ZoX wA (.inr (.inr (by simp[Eng.below,yC];omega)));obtain⟨v',S',G',ih,h1,h2,h3⟩:=Zpa x t t' s1 s2 hs G0 r 1 (v+1) (.slice ((G.length+1)+3) 1 3 0 1 none) (G++[some (own 3 [[I (w64 (y.st+t)),I y.lo,I y.hi]]),some (own 3 [[I (w64 (y.st+t)),I y.lo,I y.hi]])]) hd' wA (by
    rw[htk];exact .own (G.length+1) wA _ wD (by simp[own])) (by simp;omega) (fun k hk'=>by rw[jo wA];exact hk k hk')
   refine⟨v',S',G',?_,h1,h2,h3⟩;rw[<-ih,<-hdr];rw[ZfM Zow.eq_1];simp[-km,inC,zb,ZjO,hi1,hy,wk1,own,w64]<;>rfl
  |own j hj _ h0 hG =>
   have hjl:=(jy.1 hG).1;have hi0:i≠0:=fun e=>h0 (jN (hln.trans e))
   have hj2:∀N:Mem,(G++N)[j]?=some (some (own 3 rows)):=fun N=>by rw[jo hjl];exact hG
   have hr:(i+1)*24<=140737488355328:=wA
   have htr:List.take i rows=rows:=by rw[<-hln];exact kC
   rw[hln];have hdr:km (G0.length+3) (Zp2 (i+1) t) (shM x t' s1 s2 (.slice (j+3) (i+1) 3 0 (i+1) none) (v+1) ((G++[some (own 3 [[I (w64 (y.st+t)),I y.lo,I y.hi]])]).set j (some (own 3 (rows++[[I (w64 (y.st+t)),I y.lo,I y.hi]])))))=(shM x t' s1 s2 (.slice (j+3) (i+1) 3 0 (i+1) none) (v+1) ((G++[some (own 3 [[I (w64 (y.st+t)),I y.lo,I y.hi]])]).set j (some (own 3 (rows++[[I (w64 (y.st+t)),I y.lo,I y.hi]]))))):=ZoX wA (.inr (.inr (by simp[Eng.below,yC];omega)));obtain⟨v',S',G',ih,h1,h2,h3⟩:=Zpa x t t' s1 s2 hs G0 r (i+1) (v+1) (.slice (j+3) (i+1) 3 0 (i+1) none) ((G++[some (own 3 [[I (w64 (y.st+t)),I y.lo,I y.hi]])]).set j (some (own 3 (rows++[[I (w64 (y.st+t)),I y.lo,I y.hi]])))) hd' wA (by
    rw[htk];have:=LsN.own (n:=G0.length) (G:=(G++[some (own 3 [[I (w64 (y.st+t)),I y.lo,I y.hi]])]).set j (some (own 3 (rows++[[I (w64 (y.st+t)),I y.lo,I y.hi]])))) j hj (rows++[[I (w64 (y.st+t)),I y.lo,I y.hi]]) wD (jS (by simp;omega));simpa [hln]using this) (by simp;omega) (fun k hk'=>by rw[jz wA,jo wA];exact hk k hk')
   refine⟨v',S',G',?_,h1,h2,h3⟩;rw[<-ih,<-hdr];rw[ZfM Zow.eq_1];simp[-km,inC,zb,ZjO,hi1,hci,hy,hw,own,w64,hj2,hln,hr,htr]<;>rfl
abbrev Zp4(i:Nat)(t:Int):Env:=[(6,.w (W i)),(4,.w (Pt 1)),(1,.w (W t)),(2,.w (Pt 0)),(5,.w (Pt 2))]
def Zpc(x:Zjo)(t t':Int)(s2 s3:Cl)(hs:x.jP.length<=100)(G0:Mem)(hsz:∀y∈x.jP,y.seen.length<=5000/\y.pts.length<=1000):∀(r:List zZP) (i v:Nat) (s1:Cl) (G:Mem),x.jP.drop i=r->i<=x.jP.length->LsN G0.length G (ZlG ((x.jP.take i).map (Zo8 t))) s1->G0.length<=G.length->(∀k,k<G0.length->G[k]?=G0[k]?) ->
  ∃v' S' G',Y L Cs Zoy (some [6,4,1,2,5]) (G0.length+3) (Zp4 i t) (shM x t' s1 s2 s3 v G)=some (.exit 0,(18,.w (Bo false))::Zp4 x.jP.length t,(shM x t' S' s2 s3 v' G'))/\LsN G0.length G' (ZlG (x.jP.map (Zo8 t))) S'/\G0.length<=G'.length/\(∀k,k<G0.length->G'[k]?=G0[k]?)
 |[],i,v,s1,G,hd,hi,hL,hg,hk=>by
  obtain rfl:=ZoS hd hi;refine⟨v,s1,G,?_,by rw[kC]at hL;exact hL,hg,hk⟩;rw[ZfM Zoy.eq_1];simp[inC,ZlG,zX6,zWx,zWs,zX]
 |y::r,i,v,s1,G,hd,hi,hL,hg,hk=>by
  obtain⟨hi1,hy,hd'⟩:=ZoY hd;have hw:=zB (i:=i) wA;have hci:(i:Int)<x.jP.length:=wA
  have htk:ZlG ((x.jP.take (i+1)).map (Zo8 t))=ZlG ((x.jP.take i).map (Zo8 t))++[[I (w64 (y.qd+t)),.jb (zWx y.seen),.jb (zWs y.pts)]]:=by
   rw[kU hi1,hy];simp[ZlG,Zo8,zX6]
  have hln:(ZlG ((x.jP.take i).map (Zo8 t))).length=i:=by simp[ZlG];omega
  have hy2:=hsz y (by rw[<-hy];exact jf hi1);have q1:y.seen.length*24<=140737488355328:=wA
  have q2:y.pts.length*24<=140737488355328:=wA
  have q3:List.take y.seen.length (List.map zWX y.seen)=List.map zWX y.seen:=jx wD;have q4:List.take y.pts.length (List.map zYi y.pts)=List.map zYi y.pts:=jx wD;generalize ZlG ((x.jP.take i).map (Zo8 t))=rows at hL htk hln;cases hL with
  |nil =>
   obtain rfl:i=0:=by simpa using hln.symm
   have hdr:km (G0.length+3) (Zp4 1 t) (shM x t' (.slice ((G.length+3)+3) 1 3 0 1 none) s2 s3 (v+1) (G++[some { box:=false,esz:=3,rows:=zWx y.seen,gen:=y.seen.length,fz:=true,ver:=y.seen.length+1 },some { box:=false,esz:=3,rows:=zWs y.pts,gen:=y.pts.length,fz:=true,ver:=y.pts.length+1 },some (own 3 [[I (w64 (y.qd+t)),.jb (zWx y.seen),.jb (zWs y.pts)]]),some (own 3 [[I (w64 (y.qd+t)),.jb (zWx y.seen),.jb (zWs y.pts)]])]))=(shM x t' (.slice ((G.length+3)+3) 1 3 0 1 none) s2 s3 (v+1) (G++[some { box:=false,esz:=3,rows:=zWx y.seen,gen:=y.seen.length,fz:=true,ver:=y.seen.length+1 },some { box:=false,esz:=3,rows:=zWs y.pts,gen:=y.pts.length,fz:=true,ver:=y.pts.length+1 },some (own 3 [[I (w64 (y.qd+t)),.jb (zWx y.seen),.jb (zWs y.pts)]]),some (own 3 [[I (w64 (y.qd+t)),.jb (zWx y.seen),.jb (zWs y.pts)]])])):=ZoX wA (.inl (by simp[Eng.below,yC];omega));obtain⟨v',S',G',ih,h1,h2,h3⟩:=Zpc x t t' s2 s3 hs G0 hsz r 1 (v+1) (.slice ((G.length+3)+3) 1 3 0 1 none) (G++[some { box:=false,esz:=3,rows:=zWx y.seen,gen:=y.seen.length,fz:=true,ver:=y.seen.length+1 },some { box:=false,esz:=3,rows:=zWs y.pts,gen:=y.pts.length,fz:=true,ver:=y.pts.length+1 },some (own 3 [[I (w64 (y.qd+t)),.jb (zWx y.seen),.jb (zWs y.pts)]]),some (own 3 [[I (w64 (y.qd+t)),.jb (zWx y.seen),.jb (zWs y.pts)]])]) hd' wA (by
    rw[htk];exact .own (G.length+3) wA _ wD (by simp[own])) (by simp;omega) (fun k hk'=>by rw[jo wA];exact hk k hk')
   refine⟨v',S',G',?_,h1,h2,h3⟩;rw[<-ih,<-hdr];rw[ZfM Zoy.eq_1];by_cases c1:y.seen=[]<;>by_cases c2:y.pts=[]<;>simp[-km,inC,ZlG,zX6,zWx,zWs,zX,hi1,hy,wk1,own,w64,q1,q2,q3,q4,c1,c2]<;>rfl
  |own j hj _ h0 hG =>
   have hjl:=(jy.1 hG).1;have hi0:i≠0:=fun e=>h0 (jN (hln.trans e))
   have hj2:∀N:Mem,(G++N)[j]?=some (some (own 3 rows)):=fun N=>by rw[jo hjl];exact hG
   have hr:(i+1)*56<=140737488355328:=wA
   have htr:List.take i rows=rows:=by rw[<-hln];exact kC
   rw[hln];have hdr:km (G0.length+3) (Zp4 (i+1) t) (shM x t' (.slice (j+3) (i+1) 3 0 (i+1) none) s2 s3 (v+1) ((G++[some { box:=false,esz:=3,rows:=zWx y.seen,gen:=y.seen.length,fz:=true,ver:=y.seen.length+1 },some { box:=false,esz:=3,rows:=zWs y.pts,gen:=y.pts.length,fz:=true,ver:=y.pts.length+1 },some (own 3 [[I (w64 (y.qd+t)),.jb (zWx y.seen),.jb (zWs y.pts)]])]).set j (some (own 3 (rows++[[I (w64 (y.qd+t)),.jb (zWx y.seen),.jb (zWs y.pts)]])))))=(shM x t' (.slice (j+3) (i+1) 3 0 (i+1) none) s2 s3 (v+1) ((G++[some { box:=false,esz:=3,rows:=zWx y.seen,gen:=y.seen.length,fz:=true,ver:=y.seen.length+1 },some { box:=false,esz:=3,rows:=zWs y.pts,gen:=y.pts.length,fz:=true,ver:=y.pts.length+1 },some (own 3 [[I (w64 (y.qd+t)),.jb (zWx y.seen),.jb (zWs y.pts)]])]).set j (some (own 3 (rows++[[I (w64 (y.qd+t)),.jb (zWx y.seen),.jb (zWs y.pts)]]))))):=ZoX wA (.inl (by simp[Eng.below,yC];omega));obtain⟨v',S',G',ih,h1,h2,h3⟩:=Zpc x t t' s2 s3 hs G0 hsz r (i+1) (v+1) (.slice (j+3) (i+1) 3 0 (i+1) none) ((G++[some { box:=false,esz:=3,rows:=zWx y.seen,gen:=y.seen.length,fz:=true,ver:=y.seen.length+1 },some { box:=false,esz:=3,rows:=zWs y.pts,gen:=y.pts.length,fz:=true,ver:=y.pts.length+1 },some (own 3 [[I (w64 (y.qd+t)),.jb (zWx y.seen),.jb (zWs y.pts)]])]).set j (some (own 3 (rows++[[I (w64 (y.qd+t)),.jb (zWx y.seen),.jb (zWs y.pts)]])))) hd' wA (by
    rw[htk];have:=LsN.own (n:=G0.length) (G:=(G++[some { box:=false,esz:=3,rows:=zWx y.seen,gen:=y.seen.length,fz:=true,ver:=y.seen.length+1 },some { box:=false,esz:=3,rows:=zWs y.pts,gen:=y.pts.length,fz:=true,ver:=y.pts.length+1 },some (own 3 [[I (w64 (y.qd+t)),.jb (zWx y.seen),.jb (zWs y.pts)]])]).set j (some (own 3 (rows++[[I (w64 (y.qd+t)),.jb (zWx y.seen),.jb (zWs y.pts)]])))) j hj (rows++[[I (w64 (y.qd+t)),.jb (zWx y.seen),.jb (zWs y.pts)]]) wD (jS (by simp;omega));simpa [hln]using this) (by simp;omega) (fun k hk'=>by rw[jz wA,jo wA];exact hk k hk')
   refine⟨v',S',G',?_,h1,h2,h3⟩;rw[<-ih,<-hdr];rw[ZfM Zoy.eq_1];by_cases c1:y.seen=[]<;>by_cases c2:y.pts=[]<;>simp[-km,inC,ZlG,zX6,zWx,zWs,zX,hi1,hci,hy,hw,own,w64,hj2,hln,hr,htr,q1,q2,q3,q4,c1,c2]<;>rfl
def Zp9:∀(l:List Nat) (M:Mem),(List.foldl zX M l).length=M.length
 |[],M=>rfl
 |id::l,M=>by
  show(List.foldl zX (zX M id) l).length=_;rw[Zp9 l];unfold zX;split
  ·split<;>simp
  ·rfl
def Zqx(l:List Nat)(M:Mem):(List.foldl zX M l=[])=(M=[]):=by
 rw[<-kc,<-kc,Zp9]
def Zqm(M:Mem)(k:IntKind)(n:Int):zdR M (.int k n)=some (.int k n):=rfl
inductive Sl3 (n:Nat):List (List Cl)->Cl->Mem->Prop
 |nil:Sl3 n [] .jc []
 |own (rows:List (List Cl)) (h:rows≠[]):Sl3 n rows (.slice n rows.length 3 0 rows.length none) [some (own 3 rows)]
def fin3(m:Int)(a b c:Option Blk)(G1 G2 G3:Mem){z1 z2 z3:List (List Cl)}{S1 S2 S3:Cl}(l1:LsN 0 G1 z1 S1)(l2:LsN G1.length G2 z2 S2)(l3:LsN G2.length G3 z3 S3)(k2:∀k,k<G1.length->G2[k]?=G1[k]?)(k3:∀k,k<G2.length->G3[k]?=G2[k]?) :
  ∃T1 T2 T3 B1 B2 B3,Sl3 0 z1 T1 B1/\Sl3 B1.length z2 T2 B2/\Sl3 (B1.length+B2.length) z3 T3 B3/\finish 0 (.w (.a [I m,S1,S2,S3])) (a::b::c::G3)=some (.w (.a [I m,T1,T2,T3]),B1++(B2++B3)):=by
 cases l1 with
 |nil =>
  cases l2 with
  |nil =>
   cases l3 with
   |nil=>exact⟨_,_,_,_,_,_,.nil,.nil,.nil,by simp[finish]⟩
   |own j3 hj3 _ h3 q3=>exact⟨_,_,_,_,_,_,.nil,.nil,.own _ h3,by simp[finish,collect,zpw,Blk.ids,q3,zck,zhj,zd3,own]⟩
  |own j2 hj2 _ h2 q2 =>
   have e2:=(k3 j2 (jy.1 q2).1).trans q2;have i2:=(jy.1 q2).1;cases l3 with
   |nil=>exact⟨_,_,_,_,_,_,.nil,.own _ h2,.nil,by simp[finish,collect,zpw,Blk.ids,e2,zck,zhj,zd3,own]⟩
   |own j3 hj3 _ h3 q3 =>
    have n1:j2≠j3:=wA
    exact⟨_,_,_,_,_,_,.nil,.own _ h2,.own _ h3,by simp[finish,collect,zpw,Blk.ids,e2,q3,zck,zhj,zd3,own,n1,n1.symm]⟩
 |own j1 hj1 _ h1 q1 =>
  have i1:=(jy.1 q1).1;have e1':=(k2 j1 i1).trans q1;have e1:=(k3 j1 (jy.1 e1').1).trans e1';have i1':=(jy.1 e1').1;cases l2 with
  |nil =>
   cases l3 with
   |nil=>exact⟨_,_,_,_,_,_,.own _ h1,.nil,.nil,by simp[finish,collect,zpw,Blk.ids,e1,zck,zhj,zd3,own]⟩
   |own j3 hj3 _ h3 q3 =>
    have n1:j1≠j3:=wA
    exact⟨_,_,_,_,_,_,.own _ h1,.nil,.own _ h3,by simp[finish,collect,zpw,Blk.ids,e1,q3,zck,zhj,zd3,own,n1,n1.symm]⟩
  |own j2 hj2 _ h2 q2 =>
   have e2:=(k3 j2 (jy.1 q2).1).trans q2;have i2:=(jy.1 q2).1;have n1:j1≠j2:=wA
   cases l3 with
   |nil=>exact⟨_,_,_,_,_,_,.own _ h1,.own _ h2,.nil,by simp[finish,collect,zpw,Blk.ids,e1,e2,zck,zhj,zd3,own,n1,n1.symm]⟩
   |own j3 hj3 _ h3 q3 =>
    have n2:j1≠j3:=wA
    have n3:j2≠j3:=wA
    exact⟨_,_,_,_,_,_,.own _ h1,.own _ h2,.own _ h3,by simp[finish,collect,zpw,Blk.ids,e1,e2,q3,zck,zhj,zd3,own,n1,n1.symm,n2,n2.symm,n3,n3.symm]⟩
def ZtJ(x:Zjo)(t:Int)(hx:Zlc x) :
  ∃S1 S2 S3 B1 B2 B3,Sl3 0 (ZlG (x.jP.map (Zo8 t))) S1 B1/\Sl3 B1.length (zb (x.jD.map (ZoR t))) S2 B2/\Sl3 (B1.length+B2.length) (zb (x.jO.map (ZoR t))) S3 B3 /\
   R L Cs ZoG [.a (inC x),W t] []=some (.w (.a [I (w64 (x.tick+t)),S1,S2,S3]),B1++(B2++B3)):=by
 obtain⟨v1,S1,G1,y1,l1,g1,k1⟩:=Zpc x t (w64 (x.tick+t)) .jc .jc hx.n1 [] hx.sc x.jP 0 1 .jc [] rfl (jr _) .nil (jm _) (fun k hk=>by cases hk);obtain⟨v2,S2,G2,y2,l2,g2,k2⟩:=Zpb x t (w64 (x.tick+t)) S1 .jc hx.n2 G1 x.jD 0 v1 .jc G1 rfl (jr _) .nil (jm _) (fun k hk=>rfl);obtain⟨v3,S3,G3,y3,l3,g3,k3⟩:=Zpa x t (w64 (x.tick+t)) S1 S2 hx.n3 G2 x.jO 0 v2 .jc G2 rfl (jr _) .nil (jm _) (fun k hk=>rfl);generalize ZlG (x.jP.map (Zo8 t))=z1 at *;generalize zb (x.jD.map (ZoR t))=z2 at *;generalize zb (x.jO.map (ZoR t))=z3 at *;simp only[shM,Zp4,Zp3,Zp2,jg,jp,jJ]at y1 y2 y3;obtain⟨T1,T2,T3,B1,B2,B3,s1,s2,s3,hf⟩:=fin3 (IntKind.i64.wrap (x.tick+t)) (bx 4 (inC x)) (bxv 1 4 [I (IntKind.i64.wrap (x.tick+t)),S1,S2,S3]) (bxv v3 4 [I (IntKind.i64.wrap (x.tick+t)),S1,S2,S3]) G1 G2 G3 l1 l2 l3 k2 k3;refine⟨T1,T2,T3,B1,B2,B3,s1,s2,s3,?_⟩;rw[zUa ZoQ rfl];simp only[inC,w64]at y1 y2 y3 hf ⊢;simp[-finish,ZoF,y1,y2,y3,hf]
end Go.TrRun
