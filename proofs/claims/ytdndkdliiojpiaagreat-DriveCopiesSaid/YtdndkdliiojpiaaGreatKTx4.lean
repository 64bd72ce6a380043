/- This text proves what functions of this seat's program answer, run by the evaluator; no condition. -/
import Derived.Test.YtdndkdliiojpiaaGreatKTx3
set_option maxHeartbeats 8000000
set_option linter.unusedVariables false
set_option linter.unusedSimpArgs false
set_option linter.unusedSectionVars false
set_option maxRecDepth 10000
namespace Go.TrRun
open Go Go.Eng
theorem Zie(x:Mrk):zb [x]=[[I x.st,I x.lo,I x.hi]]:=rfl
theorem ZjD(x:zZP):ZlG [x]=[[I x.qo,.jb (zWx x.seen),.jb (zWs x.pts)]]:=rfl
theorem ZiU:zb []=[]:=rfl
theorem ZiT:ZlG []=[]:=rfl
theorem Zix(l:List Mrk):(zb l).take l.length=zb l:=jx (by simp)
theorem Zid(l:List Mrk)(r:List Cl):(zb l++[r]).take (l.length+1)=zb l++[r]:=jx (by simp)
theorem Ziw(l:List zZP):(ZlG l).take l.length=ZlG l:=jx (by simp)
theorem Zic(l:List zZP)(r:List Cl):(ZlG l++[r]).take (l.length+1)=ZlG l++[r]:=jx (by simp)
abbrev ZkL(l:List Mrk)(i:Nat):Env:=[(16,.w (W i)),(15,.w (W l.length)),(3,.w (Pt 3)),(14,.w (.c (.jb (zb l)))),(0,.w (Pt 0))]
theorem ZkK{S:StV}(d:NdV)(g:RgV)(q:Int×List Zou)(v w u:Nat)(hn:0<=d.now/\d.now<=1099511627776)(X:Int×List zZP×List Mrk×List Mrk)(l:List Mrk)(hl:l.length<=1000)(i:Nat)(h1:i<l.length)(ho:Zlq 1000 q.2) :
  ∃u',(u<=u'/\(u'=u->he1 d q l[i]=q))/\Y L Cs zn2 (some [16,15,3,14,0]) 4 (ZkL l i) (heM S d g q v w u (Zkx X.1 X.2.1 X.2.2.1 X.2.2.2))=Y L Cs zn2 (some [16,15,3,14,0]) 4 (ZkL l (i+1)) (heM S d g (he1 d q l[i]) v w u' (Zkx X.1 X.2.1 X.2.2.1 X.2.2.2)):=by
 have hw:=zB (i:=i) (by omega);have hci:(i:Int)<l.length:=by omega
 have kZ:(zb l)[i]?=some (ZjO l[i]):=Zif h1;generalize l[i]=x at *;obtain⟨c,es⟩:=q;have hC:=ZiY S d g c es v w u hn x.st;have hG:∀(M:Mem),M[2]?=some (mpB c es u)->znp M false true (.a [.jc,.jc,.jc]) [.c (.map 2 true),.c (.int .i64 x.st)]=_:=fun M h=>Zih h x.st _
 have hq:=ho x.st;simp only[ZjO]at kZ;unfold he1;cases hb:Zjv d x.st with
 |false =>
  rw[hb]at hC;refine⟨u,⟨jm _,fun _=>by simp⟩,?_⟩;simp only[jE,if_false];obtain⟨s0,s1,s2,s3,s4,n,ini,p⟩:=g;rw[ZfM zn2.eq_1];cases hf:znB x.st es with
  |none =>
   rw[hf]at hG;cases ini<;>simp[ndM,ndC,rgC,mpB,bxv]at hC<;>simp[hci,hw,kZ,hC,hG,Zly,-Int.natCast_add]
  |some y =>
   rw[hf]at hG;cases ini<;>simp[ndM,ndC,rgC,mpB,bxv]at hC<;>simp[hci,hw,kZ,hC,hG,Zly,-Int.natCast_add]
 |true =>
  rw[hb]at hC;refine⟨u+1,⟨kL u,fun h=>absurd h (by omega)⟩,?_⟩;simp only[if_true];obtain⟨s0,s1,s2,s3,s4,n,ini,p⟩:=g;rw[ZfM zn2.eq_1];unfold Ziq at hq ⊢;cases hf:znB x.st es with
  |none =>
   rw[hf]at hG;have hK:=Zij [] (by decide);have hP:∀(M:Mem),M[2]?=some (mpB c es u)->zoJ M true [.c (.map 2 true),.c (.int .i64 x.st),.a [.jb (zb [x]),.jb (zb []),.jb (ZlG [])]]=_:=fun M h=>ZhM h x.st ⟨[x],[],[]⟩
   simp only[Zie,ZiU,ZiT]at hP hK;simp only[Am,je];generalize ZiZ x.st ⟨[x],[],[]⟩ (c,es)=z at *;obtain⟨c',es'⟩:=z;cases ini<;>simp[ndM,ndC,rgC,mpB,bxv]at hC<;>simp[hci,hw,kZ,hC,hG,hK,hP,Zig,zX,Zly,-Int.natCast_add]
  |some y =>
   rw[hf]at hG hq;simp only[um]at hq ⊢;have hK:=Zij y.jS (by omega);have hr:(y.jS.length+1)*24<=140737488355328:=by omega
   have hP:∀(M:Mem),M[2]?=some (mpB c es u)->zoJ M true [.c (.map 2 true),.c (.int .i64 x.st),.a [.jb (zb (y.jS++[x])),.jb (zb y.ki),.jb (ZlG y.kc)]]=_:=fun M h=>ZhM h x.st ⟨y.jS++[x],y.ki,y.kc⟩
   simp only[ZiP,Zie]at hP;generalize ZiZ x.st ⟨y.jS++[x],y.ki,y.kc⟩ (c,es)=z at *;obtain⟨c',es'⟩:=z;cases ini<;>simp[ndM,ndC,rgC,mpB,bxv]at hC<;>simp[hci,hw,kZ,hC,hG,hK,hP,hr,Zig,zX,Zly,Zix,Zid,Ziw,Zic,-Int.natCast_add]
abbrev ZkJ(l:List Mrk)(i:Nat):Env:=[(49,.w (W i)),(48,.w (W l.length)),(3,.w (Pt 3)),(47,.w (.c (.jb (zb l)))),(0,.w (Pt 0))]
theorem ZkI{S:StV}(d:NdV)(g:RgV)(q:Int×List Zou)(v w u:Nat)(hn:0<=d.now/\d.now<=1099511627776)(X:Int×List zZP×List Mrk×List Mrk)(l:List Mrk)(hl:l.length<=1000)(i:Nat)(h1:i<l.length)(ho:Zlq 1000 q.2) :
  ∃u',(u<=u'/\(u'=u->he2 d q l[i]=q))/\Y L Cs znM (some [49,48,3,47,0]) 4 (ZkJ l i) (heM S d g q v w u (Zkx X.1 X.2.1 X.2.2.1 X.2.2.2))=Y L Cs znM (some [49,48,3,47,0]) 4 (ZkJ l (i+1)) (heM S d g (he2 d q l[i]) v w u' (Zkx X.1 X.2.1 X.2.2.1 X.2.2.2)):=by
 have hw:=zB (i:=i) (by omega);have hci:(i:Int)<l.length:=by omega
 have kZ:(zb l)[i]?=some (ZjO l[i]):=Zif h1;generalize l[i]=x at *;obtain⟨c,es⟩:=q;have hC:=ZiY S d g c es v w u hn x.st;have hG:∀(M:Mem),M[2]?=some (mpB c es u)->znp M false true (.a [.jc,.jc,.jc]) [.c (.map 2 true),.c (.int .i64 x.st)]=_:=fun M h=>Zih h x.st _
 have hq:=ho x.st;simp only[ZjO]at kZ;unfold he2;cases hb:Zjv d x.st with
 |false =>
  rw[hb]at hC;refine⟨u,⟨jm _,fun _=>by simp⟩,?_⟩;simp only[jE,if_false];obtain⟨s0,s1,s2,s3,s4,n,ini,p⟩:=g;rw[ZfM znM.eq_1];cases hf:znB x.st es with
  |none =>
   rw[hf]at hG;cases ini<;>simp[ndM,ndC,rgC,mpB,bxv]at hC<;>simp[hci,hw,kZ,hC,hG,Zly,-Int.natCast_add]
  |some y =>
   rw[hf]at hG;cases ini<;>simp[ndM,ndC,rgC,mpB,bxv]at hC<;>simp[hci,hw,kZ,hC,hG,Zly,-Int.natCast_add]
 |true =>
  rw[hb]at hC;refine⟨u+1,⟨kL u,fun h=>absurd h (by omega)⟩,?_⟩;simp only[if_true];obtain⟨s0,s1,s2,s3,s4,n,ini,p⟩:=g;rw[ZfM znM.eq_1];unfold Ziq at hq ⊢;cases hf:znB x.st es with
  |none =>
   rw[hf]at hG;have hK:=Zij [] (by decide);have hP:∀(M:Mem),M[2]?=some (mpB c es u)->zoJ M true [.c (.map 2 true),.c (.int .i64 x.st),.a [.jb (zb []),.jb (zb [x]),.jb (ZlG [])]]=_:=fun M h=>ZhM h x.st ⟨[],[x],[]⟩
   simp only[Zie,ZiU,ZiT]at hP hK;simp only[Am,je];generalize ZiZ x.st ⟨[],[x],[]⟩ (c,es)=z at *;obtain⟨c',es'⟩:=z;cases ini<;>simp[ndM,ndC,rgC,mpB,bxv]at hC<;>simp[hci,hw,kZ,hC,hG,hK,hP,Zig,zX,Zly,-Int.natCast_add]
  |some y =>
   rw[hf]at hG hq;simp only[um]at hq ⊢;have hK:=Zij y.ki (by omega);have hr:(y.ki.length+1)*24<=140737488355328:=by omega
   have hP:∀(M:Mem),M[2]?=some (mpB c es u)->zoJ M true [.c (.map 2 true),.c (.int .i64 x.st),.a [.jb (zb y.jS),.jb (zb (y.ki++[x])),.jb (ZlG y.kc)]]=_:=fun M h=>ZhM h x.st ⟨y.jS,y.ki++[x],y.kc⟩
   simp only[ZiP,Zie]at hP;generalize ZiZ x.st ⟨y.jS,y.ki++[x],y.kc⟩ (c,es)=z at *;obtain⟨c',es'⟩:=z;cases ini<;>simp[ndM,ndC,rgC,mpB,bxv]at hC<;>simp[hci,hw,kZ,hC,hG,hK,hP,hr,Zig,zX,Zly,Zix,Zid,Ziw,Zic,-Int.natCast_add]
def heD(d:NdV)(y:zZP):NdV:=if Zjv d y.qo then { d with last:=max d.last y.qo } else d
abbrev ZkH(l:List zZP)(i:Nat):Env:=[(82,.w (W i)),(81,.w (W l.length)),(80,.w (.c (.jb (ZlG l)))),(0,.w (Pt 0))]
theorem ZkG{S:StV}(d:NdV)(g:RgV)(q:Int×List Zou)(v w u:Nat)(hn:0<=d.now/\d.now<=1099511627776)(X:Int×List zZP×List Mrk×List Mrk)(l:List zZP)(hl:l.length<=1000)(hse:∀x∈l,x.seen.length<=5000)(hpt:∀x∈l,x.pts.length<=1000)(i:Nat)(h1:i<l.length)(ho:Zlq 1000 q.2) :
  ∃u' v',((u<=u'/\(u'=u->he3 d q l[i]=q))/\(v<=v'/\(v'=v->heD d l[i]=d)))/\Y L Cs znK (some [82,81,80,0]) 4 (ZkH l i) (heM S d g q v w u (Zkx X.1 X.2.1 X.2.2.1 X.2.2.2))=Y L Cs znK (some [82,81,80,0]) 4 (ZkH l (i+1)) (heM S (heD d l[i]) g (he3 d q l[i]) v' w u' (Zkx X.1 X.2.1 X.2.2.1 X.2.2.2)):=by
 have hw:=zB (i:=i) (by omega);have hci:(i:Int)<l.length:=by omega
 have kZ:(ZlG l)[i]?=some (zX6 l[i]):=ZjE h1;have q1:=hse _ (jf h1);have q2:=hpt _ (jf h1);generalize l[i]=x at *;obtain⟨c,es⟩:=q;have hC:=ZiY S d g c es v w u hn x.qo;have hG:∀(M:Mem),M[2]?=some (mpB c es u)->znp M false true (.a [.jc,.jc,.jc]) [.c (.map 2 true),.c (.int .i64 x.qo)]=_:=fun M h=>Zih h x.qo _
 have hS1:=Zkh x.seen (by omega);have hS2:=Zkb x.pts (by omega);have hq:=ho x.qo;simp only[zX6]at kZ;unfold he3 heD;cases hb:Zjv d x.qo with
 |false =>
  rw[hb]at hC;refine⟨u,v,⟨⟨jm _,fun _=>by simp⟩,⟨jm _,fun _=>by simp⟩⟩,?_⟩;simp only[jE,if_false];obtain⟨s0,s1,s2,s3,s4,n,ini,p⟩:=g;rw[ZfM znK.eq_1];cases hf:znB x.qo es with
  |none =>
   rw[hf]at hG;cases ini<;>simp[ndM,ndC,rgC,mpB,bxv]at hC<;>simp[hci,hw,kZ,hC,hG,Zly,-Int.natCast_add]
  |some y =>
   rw[hf]at hG;cases ini<;>simp[ndM,ndC,rgC,mpB,bxv]at hC<;>simp[hci,hw,kZ,hC,hG,Zly,-Int.natCast_add]
 |true =>
  rw[hb]at hC;refine⟨u+1,v+1,⟨⟨kL u,fun h=>absurd h (by omega)⟩,⟨kL v,fun h=>absurd h (by omega)⟩⟩,?_⟩;simp only[if_true];obtain⟨s0,s1,s2,s3,s4,n,ini,p⟩:=g;rw[ZfM znK.eq_1];unfold Ziq at hq ⊢;cases hf:znB x.qo es with
  |none =>
   rw[hf]at hG;have hK:=ZjJ [] (by decide);have hP:∀(M:Mem),M[2]?=some (mpB c es u)->zoJ M true [.c (.map 2 true),.c (.int .i64 x.qo),.a [.jb (zb []),.jb (zb []),.jb (ZlG [x])]]=_:=fun M h=>ZhM h x.qo ⟨[],[],[x]⟩
   simp only[ZjD,ZiU,ZiT]at hP hK;simp only[Am,je];generalize ZiZ x.qo ⟨[],[],[x]⟩ (c,es)=z at *;obtain⟨c',es'⟩:=z;cases ini<;>simp[ndM,ndC,rgC,mpB,bxv]at hC<;>simp[hci,hw,kZ,hC,hG,hK,hP,hS1,hS2,Zig,zX,Zly,-Int.natCast_add]
  |some y =>
   rw[hf]at hG hq;simp only[um]at hq ⊢;have hK:=ZjJ y.kc (by omega);have hr:(y.kc.length+1)*56<=140737488355328:=by omega
   have hP:∀(M:Mem),M[2]?=some (mpB c es u)->zoJ M true [.c (.map 2 true),.c (.int .i64 x.qo),.a [.jb (zb y.jS),.jb (zb y.ki),.jb (ZlG (y.kc++[x]))]]=_:=fun M h=>ZhM h x.qo ⟨y.jS,y.ki,y.kc++[x]⟩
   simp only[ZjN,ZjD]at hP;generalize ZiZ x.qo ⟨y.jS,y.ki,y.kc++[x]⟩ (c,es)=z at *;obtain⟨c',es'⟩:=z;cases ini<;>simp[ndM,ndC,rgC,mpB,bxv]at hC<;>simp[hci,hw,kZ,hC,hG,hK,hP,hS1,hS2,hr,Zig,zX,Zly,Zix,Zid,Ziw,Zic,-Int.natCast_add]
def ZjL(d:NdV):NdV:={ d with told:=d.qi,uz:=Pl.vj d.qi 0,qi:=Pl.yZ d.qi,now:=d.now+1 }
theorem Zkl(S:StV)(d:NdV){g:RgV}(hg:ZjQ g)(h4:g.na<=4)(c:Int)(es:List Zou)(v w u:Nat)(hn:0<=d.now/\d.now<=1099511627776)(hp:d.qi.length<=1000) :
  R L Cs Zhq [Pt 0] (ndM S d g c es v w u)=some (.w (.c .qZ),ndM S (ZjL d) (ZhJ g (Pl.vj d.qi 0)) c es (v+4) (w+2) u):=by
 have hA:=Pl.C4 d.qi hp 0;have hT:=Pl.R_Tail d.qi hp;have hR:=ZkC hg h4 (Pl.vj d.qi 0) w;have hi:=(ZjF h4 (Pl.vj d.qi 0)).2.2.2.2;have hw:IntKind.i64.wrap (d.now+1)=d.now+1:=zTd _ (by omega) (by omega);unfold ZjL;generalize Pl.vj d.qi 0=a at *;generalize Pl.yZ d.qi=t at *;generalize ZhJ g a=g' at *;obtain⟨s0,s1,s2,s3,s4,n,ini,p⟩:=g;obtain⟨r0,r1,r2,r3,r4,n',ini',p'⟩:=g';simp only at hi;subst hi;rw[zUa ZiO rfl];cases ini<;>simp[ndM,ndC,rgC,mpB,bxv]at hR<;>simp[ZhA,hA,hT,hR,hw,zX,Zly]
def ZiF(S:StV)(d:NdV):NdV:={ d with mode:=if S.yb<d.now-d.last then 2 else d.mode,looked:=0 }
theorem ZjV(S:StV)(d:NdV)(g:RgV)(c:Int)(es:List Zou)(v w u:Nat)(hn:0<=d.now/\d.now<=1099511627776)(hl:0<=d.last/\d.last<=1099511627776) :
  ∃v',v<v'/\R L Cs ZhK [Pt 0] (ndM S d g c es v w u)=some (.w (.c (.fn (if(ZiF S d).mode=1 then ZhB else Zhq) [.ptr 0 0 0 0] [])),ndM S (ZiF S d) g c es v' w u):=by
 have hw:IntKind.i64.wrap (d.now-d.last)=d.now-d.last:=zTd _ (by omega) (by omega);unfold ZiF;obtain⟨s0,s1,s2,s3,s4,n,ini,p⟩:=g;rw[zUa Ziv rfl];by_cases h1:S.yb<d.now-d.last
 ·refine⟨v+2,by omega,?_⟩;simp only[h1,if_true];cases ini<;>simp[Zhk,hw,h1,Zly]
 ·refine⟨v+1,by omega,?_⟩;simp only[h1,if_false];by_cases h2:d.mode=1
  ·cases ini<;>simp[Zhk,hw,h1,h2,Zly]
  ·cases ini<;>simp[Zhk,hw,h1,h2,Zly]
open Go Go.Eng Go.PlanLaw
theorem zLx{c:zK8}{w:Int}:∀{n:Nat} {s:Drv},0<=s.v/\s.v<=2000->0<=(Drv.uM c w n s).v/\(Drv.uM c w n s).v<=2000
 |0,s,h=>h
 |n+1,s,h=>zLx (n:=n) (zG1 s.v _)
theorem zMg:∀{q:List Int} {s:Drv},0<=s.v/\s.v<=2000->0<=(Drv.queue q s).v/\(Drv.queue q s).v<=2000
 |[],s,h=>h
 |x::q,s,h=>zMg (q:=q) (zG1 s.v _)
theorem zOt{c:zK8}(hc:c.ok)(q:List Int)(last v:Int)(up hold:Nat)(hv:0<=v/\v<=2000):(zJ2 c q last v up hold).length<=115+up+hold:=by
 unfold zJ2;have h1:=zMg (q:=q.take 5) (s:=Drv.mk last v []) hv;have h2:=zLx (c:=c) (w:=c.qQ) (n:=up) h1;have h3:=zLx (c:=c) (w:=0) (n:=hold) h2;have hl1:(Drv.queue (q.take 5) (Drv.mk last v [])).l.length=(q.take 5).length:=by rw[Drv.Bg];simp
 have hl2:=Drv.Ai (c:=c) (w:=c.qQ) (n:=up) (s:=Drv.queue (q.take 5) (Drv.mk last v []));have hl3:=Drv.Ai (c:=c) (w:=0) (n:=hold) (s:=Drv.uM c c.qQ up (Drv.queue (q.take 5) (Drv.mk last v [])));generalize Drv.uM c 0 hold (Drv.uM c c.qQ up (Drv.queue (q.take 5) (Drv.mk last v [])))=s at *;have h4:=(zMs hc s.last s.v h3.1 h3.2).2.2;have h5:(q.take 5).length<=5:=by simp;omega
 simp only[jv];omega
theorem zNC{c:zK8}{l:List Int}(h:uP c l=0):(∀a∈l,zk0 a)/\l.length<=200/\l≠[]:=by
 obtain⟨hc,hne,hl⟩:=zVR h;refine⟨?_,hl,hne⟩;unfold uP at h;rw[if_neg (by simp[hc]),if_neg (by simpa using hne),if_neg (by omega)]at h;split at h
 ·cases h
 split at h
 ·cases h
 rename_i hb;have hb:l.any (zLD c)=false:=by simpa using hb
 intro a ha;have h1:=Ab.1 hb a ha;obtain⟨q1,q2,q3,q4,q5,q6,q7,q8,q9,q10⟩:=hc;simp[zLD]at h1;constructor<;>omega
theorem zNa{c:zK8}(hc:c.ok)(q:List Int)(last v:Int)(hv:0<=v/\v<=2000):∀p∈Pl.yA c q last v,p.length<=200:=by
 intro p hp;have h:=fun up hold=>zOt hc q last v up hold hv
 simp only[Pl.yA,jQ,qn,or_false]at hp;rcases hp with rfl|rfl|rfl|rfl|rfl|rfl|rfl|rfl
 ·have:=h 6 4;omega
 ·have:=h 6 0;omega
 ·have:=h 3 4;omega
 ·have:=h 3 0;omega
 ·have:=h 1 4;omega
 ·have:=h 1 0;omega
 ·have:=h 0 4;omega
 ·have:=h 0 0;omega
def zK5(kQ:Int)(ok:List Int->Bool):List (List Int)->Nat->Int×Int
 |[],i=>(-1,i)
 |p::t,i=>if kQ<=i then(-1,i) else if ok p=true then(i,(i+1:Nat)) else zK5 kQ ok t (i+1)
def okC(m:zD)(zs:List Zon)(ss:List Sgn)(r:List Int)(c:zK8)(k:zci)(signals able:Bool)(p:List Int):Bool:=able&&decide (uP c p=0)&&(zNw m zs ss r c.len k p signals).1
abbrev zLh(m:zD)(c:zK8)(k:zci):Mem:=[bx 5 (zf m),bx 5 (Pl.kV c),bx 6 (zG k),bx 1 [.jc]]
abbrev seE(J:WV)(l:List (List Int))(kQ:Int)(signals able:Bool)(i:Nat):Env:=[(51,.w (W i)),(50,.w (W l.length)),(49,.w (.c (.jb (Pl.uF l)))),(6,.w (W kQ)),(7,.w (Bo signals)),(11,.w (Pt 2)),(23,.w J),(10,.w (Pt 1)),(22,.w (Bo able)),(21,.w (W (-1))),(19,.w (.c (.jb (Pl.uF l)))),(20,.w (W i)),(16,.w (Pt 3))]
def SeX(E:Env)(T:Mem)(l:List (List Int))(x:Int×Int):Prop:=(T=[]\/∃p,T=[bxv 1 1 [.jb (zu p)]])/\E.get 21=some (.w (W x.1))/\E.get 20=some (.w (W x.2))/\E.get 19=some (.w (.c (.jb (Pl.uF l))))/\E.get 16=some (.w (Pt 3))
theorem zOp(m:zD)(zs:List Zon)(ss:List Sgn)(r:List Int)(c:zK8)(k:zci)(signals:Bool)(kQ:Int)(l:List (List Int))(hll:l.length<=100):∀(t:List (List Int)) (i:Nat),l.drop i=t->i<=l.length ->
  ∃E T,SeX E T l (zK5 kQ (okC m zs ss r c k signals false) t i)/\Y L Cs zIx (some [51,50,49,6,7,11,23,10,22,21,19,20,16]) 4 (seE (.c .kP) l kQ signals false i) (zLh m c k)=some (.exit 0,E,zLh m c k++T):=by
 intro t;induction t with
 |nil =>
  intro i hd hi;obtain rfl:=zUb hd hi;refine⟨(52,.w (Bo false))::seE (.c .kP) l kQ signals false l.length,[],⟨.inl rfl,rfl,rfl,rfl,rfl⟩,?_⟩;rw[ZfM zIx.eq_1];simp
 |cons p t ih =>
  intro i hd hi;obtain⟨hil,hx,hd'⟩:=zL hd;have hw:=zB (i:=i) (by omega);unfold zK5;by_cases c1:kQ<=(i:Int)
  ·rw[if_pos c1];refine⟨[(58,.w (Bo true)),(24,.w (W i)),(51,.w (W i)),(50,.w (W l.length)),(49,.w (.c (.jb (Pl.uF l)))),(6,.w (W kQ)),(7,.w (Bo signals)),(11,.w (Pt 2)),(23,.w (.c .kP)),(10,.w (Pt 1)),(22,.w (Bo false)),(25,.w (Pt 4)),(21,.w (W (-1))),(19,.w (.c (.jb (Pl.uF l)))),(20,.w (W i)),(16,.w (Pt 3))],[bxv 1 1 [.jb (zu p)]],⟨.inr ⟨p,rfl⟩,rfl,rfl,rfl,rfl⟩,?_⟩;rw[ZfM zIx.eq_1];simp (maxSteps:=1000000) [seE,zLh,jC,zox,zh,zi,zf,zG,own,zJY,zJ4,Pl.kV,Pl.uF,hil,hx,hw,c1,zg,zH]
  ·rw[if_neg c1,if_neg (by simp[okC])];obtain⟨E,T,h1,h2⟩:=ih (i+1) hd' hil;refine⟨E,T,h1,?_⟩;rw[<-h2,ZfM zIx.eq_1];clear h2 ih;simp (maxSteps:=1000000) [seE,zLh,jC,zox,zh,zi,zf,zG,own,zJY,zJ4,Pl.kV,Pl.uF,hil,hx,hw,c1,zg,zH]
abbrev zNM(m:zD)(r:List Int)(len:Int)(ps:List Pss)(vs:List Vis)(u:Nat)(was NW:List Cl)(SW:Cl):Mem:=[bxv u 26 (jC m r len ps (.slice 5 vs.length 10 0 vs.length none) was NW SW),some (Go.Eng.own 10 (zKt vs))]
abbrev zNL(m:zD)(r:List Int)(len:Int)(ps:List Pss)(vs:List Vis)(u:Nat)(was NW:List Cl)(SW:Cl):Mem:=[bxv u 26 (jC m r len ps .jc was NW SW)]
abbrev zV0(qq:Nat)(m:zD)(r:List Int)(len:Int)(ps:List Pss)(vs:List Vis)(u:Nat)(was NW:List Cl)(SW:Cl):Mem:=if qq=0 then zNL m r len ps vs u was NW SW else zNM m r len ps vs u was NW SW
theorem zV1{m:zD}{zs:List Zon}{ss:List Sgn}(hF:zKj m zs ss){r:List Int}(hr:zdA m r=0)(c:zK8)(hc:c.ok)(k:zci)(hk:KJ m k)(ht:0<=k.tick/\k.tick<=1099511627776)(signals:Bool)(kQ:Int)(vs:List Vis)(hvs:vs=pvV m zs r)(qq:Nat)(hq0:qq=0/\vs=[]\/qq=1/\vs≠[])(l:List (List Int))(hll:l.length<=100)(hl:∀p∈l,p.length<=1000):∀(t:List (List Int)) (i u:Nat) (WAS NW:List Cl) (SW:Cl),zMo WAS->zKq NW SW->l.drop i=t->i<=l.length ->
  ∃E T u' Cy NW' SW',zMo Cy/\zKq NW' SW'/\SeX E T l (zK5 kQ (okC m zs ss r c k signals true) t i)/\Y L Cs zIx (some [51,50,49,6,7,11,23,10,22,21,19,20,16]) (qq+5) (seE (.c (.ptr 4 0 0 0)) l kQ signals true i) (zLh m c k++zV0 qq m r c.len (zKh m zs 0 r) vs u WAS NW SW)=some (.exit 0,E,zLh m c k++zV0 qq m r c.len (zKh m zs 0 r) vs u' Cy NW' SW'++T):=by
 intro t;induction t with
 |nil =>
  intro i u WAS NW SW oW oS hd hi;obtain rfl:=zUb hd hi;refine⟨(52,.w (Bo false))::seE (.c (.ptr 4 0 0 0)) l kQ signals true l.length,[],u,WAS,NW,SW,oW,oS,⟨.inl rfl,rfl,rfl,rfl,rfl⟩,?_⟩;rw[ZfM zIx.eq_1];simp
 |cons p t ih =>
  intro i u WAS NW SW oW oS hd hi;obtain⟨hil,hx,hd'⟩:=zL hd;have hpl:p∈l:=by rw[<-hx];exact jf hil
  have hw:=zB (i:=i) (by omega);have hC:=Pl.Cz c p (hl p hpl);have hcl:0<=c.len/\c.len<=20000:=by have:=hc.1;have:=hc.2.1;omega
  simp only[Pl.kV]at hC;unfold zK5;by_cases c1:kQ<=(i:Int)
  ·rw[if_pos c1];clear ih;refine⟨[(58,.w (Bo true)),(24,.w (W i)),(51,.w (W i)),(50,.w (W l.length)),(49,.w (.c (.jb (Pl.uF l)))),(6,.w (W kQ)),(7,.w (Bo signals)),(11,.w (Pt 2)),(23,.w (.c (.ptr 4 0 0 0))),(10,.w (Pt 1)),(22,.w (Bo true)),(25,.w (Pt (qq+5))),(21,.w (W (-1))),(19,.w (.c (.jb (Pl.uF l)))),(20,.w (W i)),(16,.w (Pt 3))],[bxv 1 1 [.jb (zu p)]],u,WAS,NW,SW,oW,oS,⟨.inr ⟨p,rfl⟩,rfl,rfl,rfl,rfl⟩,?_⟩;rw[ZfM zIx.eq_1];rcases hq0 with⟨rfl,-⟩ |⟨rfl,-⟩<;>rcases oW with rfl |⟨kw,rfl⟩<;>rcases oS with⟨rfl,rfl⟩ |⟨k0,x,rfl,rfl⟩<;>simp (maxSteps:=1000000) [seE,zLh,zV0,zNM,zNL,jC,zox,zh,zi,zf,zG,own,zJY,zJ4,Pl.kV,Pl.uF,hil,hx,hw,c1,zg,zH]
  ·rw[if_neg c1];by_cases c2:uP c p=0
   ·obtain⟨hin,hp2,hne⟩:=zNC c2;rw[c2]at hC;obtain⟨u',W',N',S',oW',oS',hu,h4⟩:=zL8 hF hr c.len hcl signals p hin (by omega) u k WAS NW SW hk ht oW oS hne;have hok:okC m zs ss r c k signals true p=(zNw m zs ss r c.len k p signals).1:=by simp[okC,c2]
    rw[hok];rw[<-hvs]at h4;generalize zNw m zs ss r c.len k p signals=y at *;obtain⟨y1,y2,y3⟩:=y;simp only[zJ3,zVW hq0]at h4;cases y1 with
    |true =>
     clear ih;rw[if_pos rfl];refine⟨[(21,.w (W i)),(19,.w (.c (.jb (Pl.uF l)))),(20,.w (W (i+1:Nat))),(16,.w (Pt 3))],[bxv 1 1 [.jb (zu p)]],u',W',N',S',oW',oS',⟨.inr ⟨p,rfl⟩,rfl,rfl,rfl,rfl⟩,?_⟩;rw[ZfM zIx.eq_1];rcases hq0 with⟨rfl,-⟩ |⟨rfl,-⟩<;>rcases oW with rfl |⟨kw,rfl⟩<;>rcases oS with⟨rfl,rfl⟩ |⟨k0,x,rfl,rfl⟩<;>rcases oW' with rfl |⟨kw',rfl⟩<;>rcases oS' with⟨rfl,rfl⟩ |⟨k0',x',rfl,rfl⟩<;>simp only[jP,↓reduceIte,jF,Nat.reduceAdd,jC,zox,zh,zi,zf,zG,own,zJY,zJ4,Pl.kV,Pl.uF,zJZ,ji,je]at h4<;>simp (maxSteps:=1000000) [seE,zLh,zV0,zNM,zNL,jC,zox,zh,zi,zf,zG,own,zJY,zJ4,Pl.kV,Pl.uF,hil,hx,hw,c1,hC,h4,hu,zg,zH]
    |false =>
     rw[if_neg (by simp)];obtain⟨E,T,u2,W2,N2,S2,oW2,oS2,h1,h2⟩:=ih (i+1) u' W' N' S' oW' oS' hd' hil;refine⟨E,T,u2,W2,N2,S2,oW2,oS2,h1,?_⟩;rw[<-h2,ZfM zIx.eq_1];clear h1 h2 ih;rcases hq0 with⟨rfl,-⟩ |⟨rfl,-⟩<;>rcases oW with rfl |⟨kw,rfl⟩<;>rcases oS with⟨rfl,rfl⟩ |⟨k0,x,rfl,rfl⟩<;>rcases oW' with rfl |⟨kw',rfl⟩<;>rcases oS' with⟨rfl,rfl⟩ |⟨k0',x',rfl,rfl⟩<;>simp only[jP,↓reduceIte,jF,Nat.reduceAdd,jC,zox,zh,zi,zf,zG,own,zJY,zJ4,Pl.kV,Pl.uF,zJZ,ji,je]at h4<;>simp (maxSteps:=1000000) [seE,zLh,zV0,zNM,zNL,jC,zox,zh,zi,zf,zG,own,zJY,zJ4,Pl.kV,Pl.uF,hil,hx,hw,c1,hC,h4,hu,zg,zH]
   ·have hb:(uP c p==0)=false:=by simpa using c2
    have hok:okC m zs ss r c k signals true p=false:=by simp[okC,c2]
    rw[hok,if_neg (by simp)];obtain⟨E,T,u2,W2,N2,S2,oW2,oS2,h1,h2⟩:=ih (i+1) u WAS NW SW oW oS hd' hil;refine⟨E,T,u2,W2,N2,S2,oW2,oS2,h1,?_⟩;rw[<-h2,ZfM zIx.eq_1];clear h1 h2 ih;generalize uP c p=e at *;rcases hq0 with⟨rfl,-⟩ |⟨rfl,-⟩<;>rcases oW with rfl |⟨kw,rfl⟩<;>rcases oS with⟨rfl,rfl⟩ |⟨k0,x,rfl,rfl⟩<;>simp (maxSteps:=1000000) [seE,zLh,zV0,zNM,zNL,jC,zox,zh,zi,zf,zG,own,zJY,zJ4,Pl.kV,Pl.uF,hil,hx,hw,c1,hC,hb,zg,zH]
theorem zOd(kQ:Int)(ok:List Int->Bool):∀(t:List (List Int)) (i:Nat),(zK5 kQ ok t i).1=-1\/((i:Int)<=(zK5 kQ ok t i).1/\(zK5 kQ ok t i).1<i+t.length)
 |[],i=>.inl rfl
 |p::t,i=>by
  unfold zK5;split
  ·exact .inl rfl
  ·split
   ·refine .inr ⟨by simp,by simp;omega⟩
   ·rcases zOd kQ ok t (i+1)with h|h
    ·exact .inl h
    ·refine .inr ⟨by omega,by simp only[jk];omega⟩
abbrev zLj(c:zK8)(q:List Int)(last:Int)(k:zci):List (List Int):=Pl.yA c q last (max 0 (min k.ego.vhi 2000))
def zMT(l:List (List Int))(f:Int):List Int:=if f<0 then [] else l.getD f.toNat []
def zOU(m:zD)(zs:List Zon)(ss:List Sgn)(r:List Int)(c:zK8)(k:zci)(q:List Int)(last kQ:Int)(signals:Bool):Int×Int :=
 zK5 kQ (okC m zs ss r c k signals (zKW m r c k)) (zLj c q last k) 0
theorem zPl{m:zD}{zs:List Zon}{ss:List Sgn}(hF:zKj m zs ss)(r:List Int)(hl:r.length<=1000)(c:zK8)(hc:c.ok)(k:zci)(hk:k.jR.length<=100000000000)(q:List Int)(hq:q.length<=5)(last kQ:Int)(signals:Bool) :
  R L Cs zMZ [.a (zf m),.c (.jb (zu r)),.a (Pl.kV c),.a (zG k),.c (.jb (zu q)),W last,W kQ,Bo signals] [] =
    some (.t [.a [.jb (zu (zMT (zLj c q last k) (zOU m zs ss r c k q last kQ signals).1))],W (zOU m zs ss r c k q last kQ signals).2,Bo (decide (0<=(zOU m zs ss r c k q last kQ signals).1))],[]):=by
 have h1:=zPi hF r hl c k hk;have h2:=Pl.Ce hc q hq last k.ego.vhi;have hin:=zOd kQ (okC m zs ss r c k signals (zKW m r c k)) (zLj c q last k) 0;have hlen:(zLj c q last k).length=8:=rfl;have hlenI:((zLj c q last k).length:Int)=8:=rfl;have hpl:=zNa hc q last (max 0 (min k.ego.vhi 2000)) (by omega);unfold zOU;by_cases d1:zKW m r c k=true
 ·obtain⟨hr,_,_,hck⟩:=zNz d1;have hke:=zte hck;have hkj:=zPP hF.full.qW hck;obtain⟨u,h3⟩:=zMM hF hr c.len;rw[show zKE (zKh m zs 0 r) 0 zs.length=pvV m zs r from rfl]at h3;rw[d1]at h1 hin ⊢;obtain⟨qq,hq0⟩:∃qq,qq=0/\pvV m zs r=[]\/qq=1/\pvV m zs r≠[]:=by
   by_cases h0:pvV m zs r=[]
   ·exact⟨0,.inl ⟨rfl,h0⟩⟩
   ·exact⟨1,.inr ⟨rfl,h0⟩⟩
  obtain⟨E,T,u',W',N',S',oW,oS,⟨hT,g1,g2,g3,g4⟩,hL⟩:=zV1 hF hr c hc k hkj (by omega) signals kQ (pvV m zs r) rfl qq hq0 (zLj c q last k) (by omega) (fun p hp=>by have:=hpl p hp;omega) (zLj c q last k) 0 u zox zox .jc (.inl rfl) (.inl ⟨rfl,rfl⟩) rfl (jp _);simp only[zJ3,zVW hq0]at h3;simp only[zLj]at *;generalize pvV m zs r=vs at *;generalize zKh m zs 0 r=ps at *;generalize zK5 kQ (okC m zs ss r c k signals true) (Pl.yA c q last (max 0 (min k.ego.vhi 2000))) 0=y at *;generalize Pl.yA c q last (max 0 (min k.ego.vhi 2000))=ws at *;obtain⟨f,n⟩:=y;simp only at g1 g2 g3 g4 hin ⊢;rcases hq0 with⟨rfl,-⟩ |⟨rfl,-⟩
  all_goals
   simp only[jP,↓reduceIte,jF,Nat.reduceAdd,zf,zG,Pl.kV,Pl.uF,jC,zox,zh,zi,own,zJZ,ji,je,seE,zLh,zV0,zNM,zNL,hlenI,jg]at h1 h2 h3 hL g3;rw[zUa zLc rfl];rcases hin with rfl |⟨i1,i2⟩
   ·rcases hT with rfl |⟨p,rfl⟩<;>simp (maxSteps:=1000000) [zIS,zMT,zf,zG,Pl.kV,h1,h2,h3,hL,g1,g2,g3,g4,hlen,zg,zH]
   ·obtain⟨j,rfl⟩:∃j:Nat,f=j:=⟨f.toNat,by omega⟩;have j1:¬(j:Int)<0:=by omega
    have j2:(0:Int)<=j:=by omega
    have j3:j<ws.length:=by omega
    have j4:j<8:=by omega
    have j5:(j:Int)<8:=by omega
    rcases hT with rfl |⟨p,rfl⟩<;>simp (maxSteps:=1000000) [zIS,zMT,zf,zG,Pl.kV,h1,h2,h3,hL,g1,g2,g3,g4,hlen,j1,j2,j3,j4,j5,zg,zH]
 ·have d1:zKW m r c k=false:=by simpa using d1
  rw[d1]at h1 hin ⊢;obtain⟨E,T,⟨hT,g1,g2,g3,g4⟩,hL⟩:=zOp m zs ss r c k signals kQ (zLj c q last k) (by omega) (zLj c q last k) 0 rfl (jp _);simp only[zLj]at *;generalize zK5 kQ (okC m zs ss r c k signals false) (Pl.yA c q last (max 0 (min k.ego.vhi 2000))) 0=y at *;generalize Pl.yA c q last (max 0 (min k.ego.vhi 2000))=ws at *;obtain⟨f,n⟩:=y;simp only at g1 g2 g3 g4 hin ⊢;simp only[zf,zG,Pl.kV,Pl.uF,ji,je,seE,zLh,hlenI,jg]at h1 h2 hL g3;rw[zUa zLc rfl];rcases hin with rfl |⟨i1,i2⟩
  ·rcases hT with rfl |⟨p,rfl⟩<;>simp (maxSteps:=1000000) [zIS,zMT,zf,zG,Pl.kV,h1,h2,hL,g1,g2,g3,g4,hlen,zg,zH]
  ·obtain⟨j,rfl⟩:∃j:Nat,f=j:=⟨f.toNat,by omega⟩;have j1:¬(j:Int)<0:=by omega
   have j2:(0:Int)<=j:=by omega
   have j3:j<ws.length:=by omega
   have j4:j<8:=by omega
   have j5:(j:Int)<8:=by omega
   rcases hT with rfl |⟨p,rfl⟩<;>simp (maxSteps:=1000000) [zIS,zMT,zf,zG,Pl.kV,h1,h2,hL,g1,g2,g3,g4,hlen,j1,j2,j3,j4,j5,zg,zH]
def Zh2(d:NdV)(n:Nat):List Int:=(List.range n).map fun(i:Nat)=>Pl.vj d.qi (i:Int)
theorem Zkw(d:NdV)(n:Nat):Zh2 d (n+1)=Zh2 d n++[Pl.vj d.qi n]:=by simp[Zh2,List.range_succ]
theorem ZjG(d:NdV)(n:Nat):(Zh2 d n).length=n:=by simp[Zh2]
theorem Zkm(S:StV)(d:NdV)(g:RgV)(c:Int)(es:List Zou)(v w u:Nat)(hp:d.qi.length<=1000)(D:Nat)(hD:D<=5):∀(f i:Nat),i+f=D ->
  Y L Cs Zhj (some [3,14,13,0]) 4 [(3,.w (.c (sl 3 1 (zu (Zh2 d i))))),(14,.w (W i)),(13,.w (W D)),(0,.w (Pt 0))] (ndM S d g c es v w u++[some (own 1 (zu (Zh2 d i)))]) =
    some (.exit 0,[(15,.w (Bo false)),(3,.w (.c (sl 3 1 (zu (Zh2 d D))))),(14,.w (W D)),(13,.w (W D)),(0,.w (Pt 0))],ndM S d g c es v w u++[some (own 1 (zu (Zh2 d D)))])
 |0,i,h=>by
  obtain rfl:i=D:=by omega
  obtain⟨s0,s1,s2,s3,s4,n,ini,p⟩:=g;rw[ZfM Zhj.eq_1];cases ini<;>simp[Zly]
 |f+1,i,h=>by
  have ih:=Zkm S d g c es v w u hp D hD f (i+1) (by omega);have hw:=zB (i:=i) (by omega);have hci:(i:Int)<D:=by omega
  have hA:=Pl.C4 d.qi hp i;have hq:=ZjG d i;have hr:((Zh2 d i).length+1)*8<=140737488355328:=by omega
  rw[<-ih,Zkw];generalize Pl.vj d.qi (i:Int)=a at *;generalize Zh2 d i=q at *;obtain⟨s0,s1,s2,s3,s4,n,ini,p⟩:=g;rw[ZfM Zhj.eq_1];cases ini<;>simp[hci,hw,hA,hr,zX,Zly,-Int.natCast_add]
def Zkd(S:StV)(zs:List Zon)(ss:List Sgn)(d:NdV):Int×Int:=zOU S.m zs ss S.r S.car d.kr (Zh2 d S.car.ur.toNat) d.uz S.kQ S.sig
def ZiG(S:StV)(zs:List Zon)(ss:List Sgn)(d:NdV):NdV:={ d with looked:=(Zkd S zs ss d).2,qi:=if 0<=(Zkd S zs ss d).1 then zMT (zLj S.car (Zh2 d S.car.ur.toNat) d.uz d.kr) (Zkd S zs ss d).1 else d.qi }
theorem ZjR{S:StV}{zs:List Zon}{ss:List Sgn}(hS:z6u S zs ss)(d:NdV)(g:RgV)(c:Int)(es:List Zou)(v w u:Nat)(hp:d.qi.length<=1000)(hk:d.kr.jR.length<=100000000000) :
  ∃v',v<v'/\R L Cs ZhB [Pt 0] (ndM S d g c es v w u)=some (.w (.c (.fn Zhq [.ptr 0 0 0 0] [])),ndM S (ZiG S zs ss d) g c es v' w u):=by
 obtain⟨q1,q2,q3,q4,q5,q6,q7,q8,q9,q10⟩:=hS.car;obtain⟨D,hD⟩:=jB q9;have hr2:=zlP hS.full.full.yz hS.yc;have hL:=Zkm S d g c es v w u hp D (by omega) D 0 (by omega);have hS2:=zPl hS.full S.r (by omega) S.car hS.car d.kr hk (Zh2 d D) (by rw[ZjG];omega) d.uz S.kQ S.sig;have hql:=ZjG d D;have htk:(zu (Zh2 d D)).take D=zu (Zh2 d D):=jx (by simp[hql]);unfold ZiG Zkd;have eD:S.car.ur.toNat=D:=by rw[hD];rfl
 rw[eD];have q0:Zh2 d 0=[]:=rfl;generalize zOU S.m zs ss S.r S.car d.kr (Zh2 d D) d.uz S.kQ S.sig=y at *;generalize zLj S.car (Zh2 d D) d.uz d.kr=z at *;obtain⟨f,n⟩:=y;simp only at hS2 ⊢;simp only[q0,ndM,ji,je,jg,zay,sl,own,jo,zfq,hql]at hL;simp only[zf,Pl.kV,zG,hD]at hS2;obtain⟨s0,s1,s2,s3,s4,na,ini,p⟩:=g;by_cases hf:0<=f
 ·refine⟨v+2,by omega,?_⟩;simp only[hf,if_true,decide_true]at hS2 ⊢;rw[zUa ZhH rfl];cases ini<;>simp[Zho,hL,hS2,hD,htk,hql,zX,Zly,zr]
 ·refine⟨v+1,by omega,?_⟩;simp only[hf,if_false,decide_false]at hS2 ⊢;rw[zUa ZhH rfl];cases ini<;>simp[Zho,hL,hS2,hD,htk,hql,zX,Zly,zr]
structure KB(m:zD)(k:zci):Prop where
 nd:KNd m k
 far:k.ego.shi<=1000000000+2000*k.tick
 few:k.tick<=100000
theorem KB.step{S:StV}{zs:List Zon}{ss:List Sgn}(hS:z6u S zs ss){k:zci}(h:KB S.m k)(ht:k.tick<100000)(a:Int):KB S.m (ZhP S zs ss k a)/\(ZhP S zs ss k a).tick=k.tick+1:=by
 have hd:=zLs hS.full.full.qW hS.yc h.nd.j.ego a;have hf:=h.far;have h0:=h.nd.t;have e:(ZhP S zs ss k a).ego=zaN S.m S.r k.ego a:=rfl;have et:(ZhP S zs ss k a).tick=k.tick+1:=rfl;have hj:=zNm hS.full.full hS.yc S.car.len S.sig h.nd.j a (show(zaN S.m S.r k.ego a).shi<=1099511627776 by omega);exact⟨⟨⟨hj,by rw[et];omega⟩,by rw[e,et];omega,by rw[et];omega⟩,et⟩
theorem ZjY:∀(l:List Mrk) (k:zci) (b:Bool),(ZhZ l (k,b)).1.ego.shi=k.ego.shi
 |[],k,b=>rfl
 |x::l,k,b=>by
  show(ZhZ l ((z9f k x.st x.lo x.hi).1,b&&(z9f k x.st x.lo x.hi).2)).1.ego.shi=_;rw[ZjY l];exact(ZhO k x.st x.lo x.hi).2.2.2
theorem Zka:∀(l:List Mrk) (k:zci) (b:Bool),(Zis l (k,b)).1.ego.shi<=k.ego.shi
 |[],k,b=>kS _
 |x::l,k,b=>by
  show(Zis l ((Zag k x.st x.lo x.hi).1,b&&(Zag k x.st x.lo x.hi).2)).1.ego.shi<=_;refine Int.le_trans (Zka l _ _) ?_;unfold Zag
  (repeat' split)<;>simp only<;>omega
theorem ZjZ(S:StV):∀(l:List zZP) (k:zci) (b:Bool),(ZiH S l (k,b)).1.ego=k.ego
 |[],k,b=>rfl
 |x::l,k,b=>by
  show(ZiH S l (Zhv S (Zib S.m k x),b&&ZiS S.m (Zhv S (Zib S.m k x)) x.pts)).1.ego=_;rw[ZjZ S l];rfl
theorem ZkN(S:StV)(q:Option Hrd)(k:zci):(znE S q k).1.ego.shi<=k.ego.shi:=by
 cases q with
 |none=>exact kS _
 |some y =>
  have e:(znE S (some y) k).1.ego=(Zis y.ki (ZhZ y.jS (k,true))).1.ego:=ZjZ S y.kc _ _;rw[e];refine Int.le_trans (Zka y.ki _ _) ?_;exact Int.le_of_eq (ZjY y.jS k true)
theorem KB.Br{S:StV}{k:zci}(h:KB S.m k)(q:Option Hrd):KB S.m (znE S q k).1/\(znE S q k).1.tick=k.tick:=by
 obtain⟨h1,h2⟩:=h.nd.Br q;have:=ZkN S q k;have:=h.far;have:=h.few;exact⟨⟨h1,by rw[h2];omega,by rw[h2];omega⟩,h2⟩
def chN(S:StV)(zs:List Zon)(ss:List Sgn)(es:List Zou)(l:List Int)(x:zci×Bool):zci×Bool :=
 l.foldl (fun q a=>((znE S (znB (q.1.tick+1) es) (ZhP S zs ss q.1 a)).1,q.2&&(znE S (znB (q.1.tick+1) es) (ZhP S zs ss q.1 a)).2)) x
def Zir(g:RgV):Nat->Int
 |0=>g.s0
 |1=>g.s1
 |2=>g.s2
 |3=>g.s3
 |_=>g.s4
theorem ZkB{g:RgV}(h:g.na<=5){i:Nat}(hi:i<g.na):g.jL.drop i=Zir g i::g.jL.drop (i+1):=by
 obtain⟨s0,s1,s2,s3,s4,n,ini,p⟩:=g;simp only at h hi;unfold RgV.jL Zir;rcases n with _|_|_|_|_|_|n
 ·omega
 all_goals first |(exfalso;omega) |(rcases i with _ |_ |_ |_ |_ |i<;>first |rfl |(exfalso;omega))
def Zk8(es:List Zou):Prop:=∀t h,znB t es=some h->Zld h t
theorem ZkP{S:StV}{zs:List Zon}{ss:List Sgn}(hS:z6u S zs ss)(es:List Zou):∀(l:List Int) (k:zci) (b:Bool),KB S.m k->k.tick+l.length<=100000->KB S.m (chN S zs ss es l (k,b)).1/\(chN S zs ss es l (k,b)).1.tick=k.tick+l.length
 |[],k,b,h,ht=>⟨h,by simp[chN]⟩
 |a::l,k,b,h,ht=>by
  simp only[jk]at ht;obtain⟨h1,h2⟩:=h.step hS (by omega) a;obtain⟨h3,h4⟩:=h1.Br (znB (k.tick+1) es);obtain⟨h5,h6⟩:=ZkP hS es l _ (b&&(znE S (znB (k.tick+1) es) (ZhP S zs ss k a)).2) h3 (by rw[h4,h2];omega);refine⟨h5,h6.trans ?_⟩;rw[h4,h2,jk];omega
abbrev fgE(i na:Nat)(A:Cl)(ok:Bool):Env:=[(4,.w (Bo ok)),(29,.w (W i)),(28,.w (W na)),(27,.w (.c A)),(0,.w (Pt 0)),(3,.w (Pt 3))]
theorem Zks{S:StV}{zs:List Zon}{ss:List Sgn}(hS:z6u S zs ss)(d:NdV){g:RgV}(hg:g.na<=5)(hi0:g.ini=false)(ha:∀a∈g.jL,zk0 a)(c:Int)(es:List Zou)(he:Zk8 es)(v w u:Nat):∀(f i:Nat) (k:zci) (ok:Bool) (vk:Nat),i+f=g.na->KB S.m k->k.tick+f<=100000 ->
  ∃vk',Y L Cs Zhc (some [4,29,28,27,0,3]) 4 (fgE i g.na (.bsl 1 0 0 0 1 g.na 5) ok) (ndM S d g c es v w u++[bxv vk 6 (zG k)]) =
   some (.exit 0,(30,.w (Bo false))::fgE g.na g.na (.bsl 1 0 0 0 1 g.na 5) (chN S zs ss es (g.jL.drop i) (k,ok)).2,ndM S d g c es v w u++[bxv vk' 6 (zG (chN S zs ss es (g.jL.drop i) (k,ok)).1)])
 |0,i,k,ok,vk,hf,hk,ht=>by
  obtain rfl:i=g.na:=by omega
  have e:g.jL.drop g.na=[]:=qK (by simp[RgV.jL];omega);rw[e];refine⟨vk,?_⟩;obtain⟨s0,s1,s2,s3,s4,n,ini,p⟩:=g;simp only at hi0;subst hi0;rw[ZfM Zhc.eq_1];simp[chN,Zly]
 |f+1,i,k,ok,vk,hf,hk,ht=>by
  have hin:i<g.na:=by omega
  have e:=ZkB hg hin;have ha0:zk0 (Zir g i):=ha _ (qw (by rw[e];exact jy));obtain⟨k1,k2⟩:=hk.step hS (by omega) (Zir g i);obtain⟨k3,k4⟩:=k1.Br (znB (k.tick+1) es);have h1:=Zkc hS d g c es v w u hk.nd (Zir g i) ha0;have h2:=ZjM hS d g c es v w u k1.nd (fun h hh=>he _ h hh);rw[k2]at h2;obtain⟨vk',ih⟩:=Zks hS d hg hi0 ha c es he v w u f (i+1) (znE S (znB (k.tick+1) es) (ZhP S zs ss k (Zir g i))).1 (ok&&(znE S (znB (k.tick+1) es) (ZhP S zs ss k (Zir g i))).2) (vk+1) (by omega) k3 (by rw[k4,k2];omega);refine⟨vk',?_⟩;have ec:chN S zs ss es (g.jL.drop i) (k,ok)=chN S zs ss es (g.jL.drop (i+1)) ((znE S (znB (k.tick+1) es) (ZhP S zs ss k (Zir g i))).1,ok&&(znE S (znB (k.tick+1) es) (ZhP S zs ss k (Zir g i))).2):=by rw[e];rfl
  rw[ec,<-ih];have hw:=zB (i:=i) (by omega);have hci:(i:Int)<g.na:=by omega
  clear ih ec k1 k2 k3 k4;generalize znE S (znB (k.tick+1) es) (ZhP S zs ss k (Zir g i))=y at *;obtain⟨ky,oy⟩:=y;generalize ZhP S zs ss k (Zir g i)=ks at *;obtain⟨s0,s1,s2,s3,s4,n,ini,p⟩:=g;simp only at hi0 hg hin hci;subst hi0;simp only[zG]at h1 h2;rw[ZfM Zhc.eq_1];simp[ndM,ndC,rgC,mpB,bxv]at h1 h2;have e1:(1:Int)<n<->1<n:=by omega
  have e2:(2:Int)<n<->2<n:=by omega
  have e3:(3:Int)<n<->3<n:=by omega
  have e4:(4:Int)<n<->4<n:=by omega
  rcases i with _|_|_|_|_|i
  case succ.succ.succ.succ.succ=>omega
  all_goals simp only[Zir]at h1
  all_goals have hin':=hin
  all_goals simp (config:={ failIfUnchanged:=false }) only[jF,Nat.reduceAdd]at hin'
  all_goals cases ok<;>simp[fgE,hin',e1,e2,e3,e4,h1,h2,wk1,wk2,wk3,wk4,wk5,zG,Zly,-Int.natCast_add]
def Zkz(S:StV)(zs:List Zon)(ss:List Sgn)(g:RgV)(es:List Zou):zci×Bool:=chN S zs ss es g.jL (znE S (znB g.jV.tick es) g.jV)
theorem Zlo(ok:Bool)(M:Mem):Y L Cs Zhc (some [4,29,28,27,0,3]) 4 [(4,.w (Bo ok)),(29,.w (W 0)),(28,.w (W 0)),(27,.w (.c .jc)),(0,.w (Pt 0)),(3,.w (Pt 3))] M=some (.exit 0,[(30,.w (Bo false)),(4,.w (Bo ok)),(29,.w (W 0)),(28,.w (W 0)),(27,.w (.c .jc)),(0,.w (Pt 0)),(3,.w (Pt 3))],M):=by
 rw[ZfM Zhc.eq_1];simp
theorem Zkj{S:StV}{zs:List Zon}{ss:List Sgn}(hS:z6u S zs ss)(d:NdV){g:RgV}(hg:ZjQ g)(ha:∀a∈g.jL,zk0 a)(hk:KB S.m g.jV)(ht:g.jV.tick+g.na<=100000)(c:Int)(es:List Zou)(he:Zk8 es)(v w u:Nat) :
  R L Cs ZhW [Pt 0] (ndM S d g c es v w u)=some (.w (.c (.fn (if(Zkz S zs ss g es).2 then ZhK else ZiI) [.ptr 0 0 0 0] [])),ndM S { d with kr:=(Zkz S zs ss g es).1 } g c es (v+1) w u):=by
 obtain⟨k1,k2⟩:=hk.Br (znB g.jV.tick es);have h1:=ZjM hS d g c es v w u hk.nd (fun h hh=>he _ h hh);unfold Zkz;cases hi:g.ini with
 |true =>
  have h0:=hg.ini hi;have e:g.jL=[]:=by simp[RgV.jL,h0]
  rw[e];simp only[chN,List.foldl_nil];generalize znE S (znB g.jV.tick es) g.jV=y at *;obtain⟨ky,oy⟩:=y;obtain⟨s0,s1,s2,s3,s4,n,ini,p⟩:=g;simp only at hi h0;subst hi;subst h0;simp only[zG]at h1;rw[zUa ZhX rfl];simp[ndM,ndC,rgC,mpB,bxv]at h1;cases oy<;>simp[Zhr,h1,Zlo,zG,Zly,zr]
 |false =>
  obtain⟨vk',hL⟩:=Zks hS d hg.few hi ha c es he v w u g.na 0 (znE S (znB g.jV.tick es) g.jV).1 (znE S (znB g.jV.tick es) g.jV).2 1 (by omega) k1 (by rw[k2];exact ht);simp only[ym]at hL;generalize znE S (znB g.jV.tick es) g.jV=y at *;obtain⟨ky,oy⟩:=y;simp only at hL;generalize chN S zs ss es g.jL (ky,oy)=z at *;obtain⟨kz,oz⟩:=z;obtain⟨s0,s1,s2,s3,s4,n,ini,p⟩:=g;simp only at hi;subst hi;simp only[zG,fgE,ndM,ji,je,jg]at h1 hL;rw[zUa ZhX rfl];simp[ndC,rgC,mpB,bxv]at h1;cases oz<;>simp[Zhr,h1,hL,zG,Zly,zr]
def ZjP(n:Int)(es:List Zou):List Zou:=match ZiR n es 0 with
 |some (i,_)=>es.eraseIdx i
 |none=>es
theorem Zi0{α β:Type}{f:α->β}:∀(l:List α) (i:Nat),(l.map f).eraseIdx i=(l.eraseIdx i).map f
 |[],_=>rfl
 |_::_,0=>rfl
 |a::l,i+1=>by simp[Zi0 l i]
theorem Zkf{M:Mem}{c:Int}{es:List Zou}{u:Nat}{id:Nat}(h:M[id]?=some (mpB c es u))(n:Int):∃u' fp,(u<=u'/\(u'=u->ZjP n es=es))/\zoK M [.c (.map id true),.c (.int .i64 n)]=some (.t [],M.set id (mpB c (ZjP n es) u'),fp):=by
 unfold zoK ZjP;simp only[Zia h,ZiE,zlW];cases ZiR n es 0 with
 |none =>
  refine⟨u,.no,⟨jm _,fun _=>rfl⟩,?_⟩;simp only[Option.map_none]
  congr 3
  apply uf;intro k;by_cases hk:id=k
  ·subst hk;rw[jY (jK.1 h).1,h]
  ·rw[jD hk]
 |some q =>
  refine⟨u+1,.wr [(id,0,whole)],⟨kL u,fun h=>absurd h (by omega)⟩,?_⟩;simp[mpB,Zi0]
def Zh0(t:Int)(ks:List Int)(es:List Zou):List Zou:=ks.foldl (fun es k=>if k<t then ZjP k es else es) es
theorem Zgm(S:StV)(d:NdV)(g:RgV)(c:Int)(v w:Nat)(ks:List Int)(hks:ks.length<=1000):∀(r:List Int) (i:Nat) (es:List Zou) (u:Nat),ks.drop i=r->i<=ks.length ->
  ∃u',(u<=u'/\(u'=u->Zh0 g.jV.tick r es=es))/\Y L Cs Zlz (some [62,61,60,0]) 4 [(62,.w (W i)),(61,.w (W ks.length)),(60,.w (.c (.jb (zu ks)))),(0,.w (Pt 0))] (ndM S d g c es v w u++[bx 1 [.map 2 true]]) =
   some (.exit 2,[(63,.w (Bo false)),(62,.w (W ks.length)),(61,.w (W ks.length)),(60,.w (.c (.jb (zu ks)))),(0,.w (Pt 0))],ndM S d g c (Zh0 g.jV.tick r es) v w u'++[bx 1 [.map 2 true]])
 |[],i,es,u,hd,hi=>by
  have e:i=ks.length:=by
   have:=congrArg List.length hd;simp at this;omega
  subst e;refine⟨u,⟨jm _,fun _=>rfl⟩,?_⟩;obtain⟨s0,s1,s2,s3,s4,n,ini,p⟩:=g;rw[ZfM Zlz.eq_1];cases ini<;>simp[Zh0,Zly]
 |x::r,i,es,u,hd,hi=>by
  have h1:i<ks.length:=by
   have:=congrArg List.length hd;simp at this;omega
  have h2:ks[i]=x:=by rw[js h1]at hd;exact(jU hd).1
  have h3:ks.drop (i+1)=r:=by rw[js h1]at hd;exact(jU hd).2
  have hw:=zB (i:=i) (by omega);have hci:(i:Int)<ks.length:=by omega
  have kZ:(zu ks)[i]?=some [I x]:=by simp[zu,h1,h2]
  by_cases hc:x<g.jV.tick
  ·have hM:(ndM S d g c es v w u++[bx 1 [.map 2 true]])[2]?=some (mpB c es u):=rfl;obtain⟨u1,fp,hfp,hD⟩:=Zkf hM x;obtain⟨u',hu,ih⟩:=Zgm S d g c v w ks hks r (i+1) (ZjP x es) u1 h3 (by omega);have e:Zh0 g.jV.tick (x::r) es=Zh0 g.jV.tick r (ZjP x es):=by simp[Zh0,hc]
   refine⟨u',⟨jO hfp.1 hu.1,fun q=>?_⟩,?_⟩
   ·have h5:=hfp.1;have h6:=hu.1;rw[e,hu.2 (by omega)];exact hfp.2 (by omega)
   rw[e,<-ih];clear hfp hu;generalize ZjP x es=es' at *;obtain⟨s0,s1,s2,s3,s4,n,ini,p⟩:=g;simp only[ndM,ji,je,own,zfq]at hD;simp only at hc;rw[ZfM Zlz.eq_1];cases ini<;>simp[hci,h1,h2,hw,hc,hD,Zly,-Int.natCast_add]
  ·obtain⟨u',hu,ih⟩:=Zgm S d g c v w ks hks r (i+1) es u h3 (by omega);have e:Zh0 g.jV.tick (x::r) es=Zh0 g.jV.tick r es:=by simp[Zh0,hc]
   refine⟨u',⟨hu.1,fun q=>by rw[e];exact hu.2 q⟩,?_⟩;rw[e,<-ih];clear hu;obtain⟨s0,s1,s2,s3,s4,n,ini,p⟩:=g;simp only at hc;rw[ZfM Zlz.eq_1];cases ini<;>simp[hci,h1,h2,hw,hc,Zly,-Int.natCast_add]
theorem Zj9(S:StV)(d:NdV)(g:RgV)(c:Int)(es:List Zou)(v w u:Nat)(hn:0<=d.now/\d.now<=1099511627776)(h:¬g.jV.tick<d.now-4):Y L Cs ZlA (some [0]) 3 [(0,.w (Pt 0))] (ndM S d g c es v w u)=some (.exit 0,[(19,.w (Bo false)),(0,.w (Pt 0))],ndM S d g c es v w u):=by
 have hw:IntKind.i64.wrap (d.now-4)=d.now-4:=zTd _ (by omega) (by omega);obtain⟨s0,s1,s2,s3,s4,n,ini,p⟩:=g;simp only at h;rw[ZfM ZlA.eq_1];cases ini<;>simp[hw,h,Zly]
def Zh9(S:StV)(zs:List Zon)(ss:List Sgn)(es:List Zou)(g:RgV):RgV:=ZhL { g with jV:=ZhP S zs ss (znE S (znB g.jV.tick es) g.jV).1 g.s0 }
theorem ZgL{S:StV}{zs:List Zon}{ss:List Sgn}(hS:z6u S zs ss)(d:NdV){g:RgV}(hg:g.na<=5)(h0:0<g.na)(hi:g.ini=false)(ha:zk0 g.s0)(hk:KB S.m g.jV)(ht:g.jV.tick<100000)(c:Int)(es:List Zou)(he:Zk8 es)(v w u:Nat)(hn:0<=d.now/\d.now<=1099511627776)(h:g.jV.tick<d.now-4) :
  Y L Cs ZlA (some [0]) 3 [(0,.w (Pt 0))] (ndM S d g c es v w u)=Y L Cs ZlA (some [0]) 3 [(0,.w (Pt 0))] (ndM S d (Zh9 S zs ss es g) c es v (w+3) u):=by
 have hw:IntKind.i64.wrap (d.now-4)=d.now-4:=zTd _ (by omega) (by omega);obtain⟨k1,k2⟩:=hk.Br (znB g.jV.tick es);have h1:=ZjM hS d g c es v w u hk.nd (fun h hh=>he _ h hh);have h2:=Zkc hS d g c es v w u k1.nd g.s0 ha;have h3:=Zki (g:={ g with jV:=ZhP S zs ss (znE S (znB g.jV.tick es) g.jV).1 g.s0 }) hg h0 hi (w+1);have h4:=(Zjr (g:={ g with jV:=ZhP S zs ss (znE S (znB g.jV.tick es) g.jV).1 g.s0 }) hg h0 hi).2.2.2.2;unfold Zh9;generalize ZhL { g with jV:=ZhP S zs ss (znE S (znB g.jV.tick es) g.jV).1 g.s0 }=g' at *;generalize znE S (znB g.jV.tick es) g.jV=y at *;obtain⟨ky,oy⟩:=y;simp only at h1 h2 h3;generalize ZhP S zs ss ky g.s0=ks at *;obtain⟨s0,s1,s2,s3,s4,n,ini,p⟩:=g;obtain⟨r0,r1,r2,r3,r4,n',ini',p'⟩:=g';simp only at h4 hi h h0 hg;subst h4;subst hi;have hn1:0<n:=h0;simp only[zG]at h1 h2;rw[ZfM ZlA.eq_1];simp[ndM,ndC,rgC,mpB,bxv]at h1 h2 h3;simp[hw,h,h1,h2,h3,hn1,zG,Zly];rfl
theorem ZkS(c:Int)(es:List Zou)(u:Nat):R L Cs Zi1 [.c (.map 0 true)] [mpB c es u]=some (.w (.c (.fn Zhd [] [.ptr 1 0 0 0])),[mpB c es u,bx 1 [.map 0 true]]):=by
 rw[zUa Zjd rfl];simp[ZhC,zr,Zly]
def ZjC(c:Int)(es:List Zou)(ks:List Int):Prop:=∀u,R L Cs Zit [.c (.fn Zhd [] [.ptr 0 0 0 0])] [bx 1 [.map 1 true],mpB c es u]=some (.w (.c (.jb (zu ks))),[bx 1 [.map 1 true],mpB c es u])
theorem Zjs{S:StV}(d:NdV)(g:RgV)(c:Int)(es:List Zou)(v w u:Nat)(g':RgV)(w1:Nat)(h1:Y L Cs ZlA (some [0]) 3 [(0,.w (Pt 0))] (ndM S d g c es v w u)=some (.exit 0,[(19,.w (Bo false)),(0,.w (Pt 0))],ndM S d g' c es v w1 u))(ks:List Int)(hK:ZjC c es ks)(hks:ks.length<=1000) :
  ∃u',(u<=u'/\(u'=u->Zh0 g'.jV.tick ks es=es))/\R L Cs Zhz [Pt 0] (ndM S d g c es v w u)=some (.t [],ndM S d g' c (Zh0 g'.jV.tick ks es) v w1 u'):=by
 have hk1:=ZkS c es u;have hk2:=hK u;obtain⟨u',hu,hL⟩:=Zgm S d g' c v w1 ks hks ks 0 es u rfl (jp _);refine⟨u',hu,?_⟩;clear hu;generalize Zh0 g'.jV.tick ks es=es' at *;obtain⟨r0,r1,r2,r3,r4,n',ini',p'⟩:=g';simp only[ndM,ji,je,jg,zfq]at hL hk2;rw[zUa ZhY rfl];cases ini'<;>simp[Zhs,h1,hk1,hk2,hL,zr,Zly]
def Zhl(S:StV)(zs:List Zon)(ss:List Sgn)(es:List Zou)(g:RgV):RgV:=if g.na=5 then Zh9 S zs ss es g else g
theorem Zj0{S:StV}{zs:List Zon}{ss:List Sgn}(hS:z6u S zs ss){g:RgV}(hg:g.na<=5)(h0:0<g.na)(hi:g.ini=false)(hk:KB S.m g.jV)(ht:g.jV.tick<100000)(es:List Zou) :
  ZjQ (Zh9 S zs ss es g)/\(Zh9 S zs ss es g).na+1=g.na/\(Zh9 S zs ss es g).jL=g.jL.tail/\(Zh9 S zs ss es g).jV=ZhP S zs ss (znE S (znB g.jV.tick es) g.jV).1 g.s0/\KB S.m (Zh9 S zs ss es g).jV/\(Zh9 S zs ss es g).jV.tick=g.jV.tick+1:=by
 obtain⟨k1,k2⟩:=hk.Br (znB g.jV.tick es);obtain⟨k3,k4⟩:=k1.step (zs:=zs) (ss:=ss) hS (by rw[k2];exact ht) g.s0;obtain⟨a1,a2,a3,a4,a5⟩:=Zjr (g:={ g with jV:=ZhP S zs ss (znE S (znB g.jV.tick es) g.jV).1 g.s0 }) hg h0 hi;refine⟨a4,a2,a1,a3,?_,?_⟩
 ·unfold Zh9;rw[a3];exact k3
 ·unfold Zh9;rw[a3];simp only;rw[k4,k2]
theorem Zkk{S:StV}{zs:List Zon}{ss:List Sgn}(hS:z6u S zs ss)(d:NdV){g:RgV}(hg:ZjQ g)(ha:∀a∈g.jL,zk0 a)(hk:KB S.m g.jV)(hn:d.now=g.jV.tick+g.na)(ht:d.now<=100000)(c:Int)(es:List Zou)(he:Zk8 es)(v w u:Nat)(ks:List Int)(hK:ZjC c es ks)(hks:ks.length<=1000) :
  ∃w' u',(w<=w'/\(w'=w->Zhl S zs ss es g=g))/\(u<=u'/\(u'=u->Zh0 (Zhl S zs ss es g).jV.tick ks es=es))/\R L Cs Zhz [Pt 0] (ndM S d g c es v w u)=some (.t [],ndM S d (Zhl S zs ss es g) c (Zh0 (Zhl S zs ss es g).jV.tick ks es) v w' u'):=by
 have hf:=hg.few;have h0:=hk.nd.t;unfold Zhl;by_cases h5:g.na=5
 ·rw[if_pos h5];have hi:g.ini=false:=by
   cases hi:g.ini with
   |false=>rfl
   |true=>have:=hg.ini hi;omega
  have hs0:g.s0∈g.jL:=by simp[RgV.jL,h5]
  obtain⟨b1,b2,b3,b4,b5,b6⟩:=Zj0 (zs:=zs) (ss:=ss) hS hf (by omega) hi hk (by omega) es;have e1:=ZgL (zs:=zs) (ss:=ss) hS d hf (by omega) hi (ha _ hs0) hk (by omega) c es he v w u (by omega) (by omega);have e2:=Zj9 S d (Zh9 S zs ss es g) c es v (w+3) u (by omega) (by rw[b6];omega);obtain⟨u',hu,h⟩:=Zjs d g c es v w u (Zh9 S zs ss es g) (w+3) (e1.trans e2) ks hK hks;exact⟨_,u',⟨by omega,fun q=>absurd q (by omega)⟩,hu,h⟩
 ·rw[if_neg h5];have e2:=Zj9 S d g c es v w u (by omega) (by omega);obtain⟨u',hu,h⟩:=Zjs d g c es v w u g w e2 ks hK hks;exact⟨_,u',⟨jm _,fun _=>rfl⟩,hu,h⟩
structure Zlw(n:Nat)(h:Hrd)(t:Int):Prop where
 n1:h.jS.length<=n
 n2:h.ki.length<=n
 n3:h.kc.length<=n
 s1:∀x∈h.jS,x.st=t
 s2:∀x∈h.ki,x.st=t
 s3:∀x∈h.kc,x.qo=t/\x.seen.length<=5000/\x.pts.length<=1000
def EsN(n:Nat)(es:List Zou):Prop:=∀e∈es,Zlw n e.hrd e.key
theorem ZlB{n:Int}{h:Hrd}:∀{es:List Zou},znB n es=some h->∃e∈es,e.key=n/\e.hrd=h
 |[],hf=>nomatch hf
 |e::r,hf=>by
  unfold znB at hf;split at hf
  ·grind
  ·obtain⟨e',h1,h2⟩:=ZlB hf
   grind
theorem EsN.nil(n:Nat):EsN n []:=fun e h=>nomatch h
theorem EsN.at{n:Nat}{es:List Zou}(h:EsN n es)(t:Int):Zlw n (Ziq es t) t:=by
 unfold Ziq;cases hf:znB t es with
 |none=>exact⟨jp _,jp _,jp _,fun x hx=>absurd hx (by simp),fun x hx=>absurd hx (by simp),fun x hx=>absurd hx (by simp)⟩
 |some y =>
  obtain⟨e,h1,rfl,rfl⟩:=ZlB hf;exact h e h1
theorem EsN.ok{n:Nat}(hn:n<=1000){es:List Zou}(h:EsN n es):Zk8 es:=fun t y hy=>by
 obtain⟨e,h1,rfl,rfl⟩:=ZlB hy;obtain⟨a,b,c,d,e,f⟩:=h e h1;exact⟨jO a hn,jO b hn,jO c hn,fun x hx=>(f x hx).1,fun x hx=>(f x hx).2.1,fun x hx=>(f x hx).2.2⟩
theorem EsN.he{n:Nat}(hn:n<=1000){es:List Zou}(h:EsN n es):Zlq 1000 es:=fun t=>by
 obtain⟨a,b,c,_⟩:=h.at t;omega
theorem EsN.mono{n k:Nat}(hn:n<=k){es:List Zou}(h:EsN n es):EsN k es:=fun t ht=>by
 obtain⟨a,b,c,d,e,f⟩:=h t ht;exact⟨by omega,by omega,by omega,d,e,f⟩
theorem ZjI{α:Type}{f:α->α}{x:α}:∀{l:List α} {i:Nat},x∈l.modify i f->x∈l\/∃y∈l,x=f y
 |[],i,h=>by grind
 |a::l,0,h=>by
  grind
 |a::l,i+1,h=>by
  rcases jQ.1 h with rfl|h
  ·grind
  ·rcases ZjI h with h |⟨y,hy,e⟩
   ·grind
   grind
theorem EsN.put{n:Nat}{q:Int×List Zou}(h:EsN n q.2)(t:Int){y:Hrd}(hy:Zlw (n+1) y t):EsN (n+1) (ZiZ t y q).2:=by
 intro e he;unfold ZiZ at he;split at he
 ·rcases ZjI he with he |⟨z,_,rfl⟩
  ·exact h.mono (kL n) e he
  grind
 ·rcases jN.1 he with he|he
  ·exact h.mono (kL n) e he
  grind
theorem EsN.del{n:Nat}{es:List Zou}(h:EsN n es)(t:Int):EsN n (ZjP t es):=by
 intro e he;unfold ZjP at he;split at he
 ·exact h e (List.mem_of_mem_eraseIdx he)
 ·exact h e he
theorem EsN.fgt{n:Nat}(t:Int):∀(ks:List Int) {es:List Zou},EsN n es->EsN n (Zh0 t ks es)
 |[],es,h=>h
 |k::ks,es,h=>by
  show EsN n (Zh0 t ks (if k<t then ZjP k es else es));refine EsN.fgt t ks ?_;split
  ·exact h.del k
  grind
theorem EsN.he1{n:Nat}{d:NdV}{q:Int×List Zou}(h:EsN n q.2)(y:Mrk):EsN (n+1) (he1 d q y).2:=by
 unfold Go.TrRun.he1;split
 ·obtain⟨a,b,c,d,e,f⟩:=h.at y.st;exact h.put _ ⟨by grind,uc b,uc c,fun x hx=>by
   grind,e,f⟩
 ·exact h.mono (kL n)
theorem EsN.he2{n:Nat}{d:NdV}{q:Int×List Zou}(h:EsN n q.2)(y:Mrk):EsN (n+1) (he2 d q y).2:=by
 unfold Go.TrRun.he2;split
 ·obtain⟨a,b,c,d,e,f⟩:=h.at y.st;exact h.put _ ⟨uc a,by grind,uc c,d,fun x hx=>by
   grind,f⟩
 ·exact h.mono (kL n)
theorem EsN.he3{n:Nat}{d:NdV}{q:Int×List Zou}(h:EsN n q.2){y:zZP}(hy:y.seen.length<=5000/\y.pts.length<=1000):EsN (n+1) (he3 d q y).2:=by
 unfold Go.TrRun.he3;split
 ·obtain⟨a,b,c,d,e,f⟩:=h.at y.qo;exact h.put _ ⟨uc a,uc b,by grind,d,e,fun x hx=>by
   grind⟩
 ·exact h.mono (kL n)
structure Zjo where
 tick:Int
 kc:List zZP
 jS:List Mrk
 ki:List Mrk
abbrev inC(x:Zjo):List Cl:=[I x.tick,.jb (ZlG x.kc),.jb (zb x.jS),.jb (zb x.ki)]
structure Zlc(x:Zjo):Prop where
 n1:x.kc.length<=100
 n2:x.jS.length<=100
 n3:x.ki.length<=100
 sc:∀y∈x.kc,y.seen.length<=5000/\y.pts.length<=1000
theorem Zj5{S:StV}(d:NdV)(g:RgV)(v w:Nat)(hn:0<=d.now/\d.now<=1099511627776)(x:Zjo)(l:List Mrk)(hl:l.length<=100):∀(r:List Mrk) (i:Nat) (q:Int×List Zou) (u n:Nat),l.drop i=r->i<=l.length->EsN n q.2->n+r.length<=1000 ->
  ∃u',(u<=u'/\(u'=u->r.foldl (he1 d) q=q))/\EsN (n+r.length) (r.foldl (he1 d) q).2/\Y L Cs zn2 (some [16,15,3,14,0]) 4 (ZkL l i) (heM S d g q v w u (inC x))=some (.exit 0,(17,.w (Bo false))::ZkL l l.length,heM S d g (r.foldl (he1 d) q) v w u' (inC x))
 |[],i,q,u,n,hd,hi,hq,hk=>by
  have e:i=l.length:=by
   grind
  subst e;refine⟨u,⟨jm _,fun _=>rfl⟩,hq,?_⟩;obtain⟨s0,s1,s2,s3,s4,n,ini,p⟩:=g;rw[ZfM zn2.eq_1];cases ini<;>simp[Zly]
 |a::r,i,q,u,n,hd,hi,hq,hk=>by
  have h1:i<l.length:=by
   grind
  have h2:l[i]=a:=by grind [List.drop_eq_getElem_cons,List.cons.inj]
  have h3:l.drop (i+1)=r:=by grind [List.drop_eq_getElem_cons,List.cons.inj]
  simp only[jk]at hk;obtain⟨u1,m1,e⟩:=ZkK (S:=S) d g q v w u hn (x.tick,x.kc,x.jS,x.ki) l (by omega) i h1 (hq.he (by omega));obtain⟨u2,m2,c1,ih⟩:=Zj5 (S:=S) d g v w hn x l hl r (i+1) (he1 d q a) u1 (n+1) h3 (by omega) (hq.he1 a) (by omega);rw[h2]at e m1;exact⟨u2,⟨jO m1.1 m2.1,fun q'=>by
   rw[ka,m2.2 (by omega)];exact m1.2 (by omega)⟩,by rw[jk,<-kU,yT];exact c1,e.trans ih⟩
theorem Zj4{S:StV}(d:NdV)(g:RgV)(v w:Nat)(hn:0<=d.now/\d.now<=1099511627776)(x:Zjo)(l:List Mrk)(hl:l.length<=100):∀(r:List Mrk) (i:Nat) (q:Int×List Zou) (u n:Nat),l.drop i=r->i<=l.length->EsN n q.2->n+r.length<=1000 ->
  ∃u',(u<=u'/\(u'=u->r.foldl (he2 d) q=q))/\EsN (n+r.length) (r.foldl (he2 d) q).2/\Y L Cs znM (some [49,48,3,47,0]) 4 (ZkJ l i) (heM S d g q v w u (inC x))=some (.exit 2,(50,.w (Bo false))::ZkJ l l.length,heM S d g (r.foldl (he2 d) q) v w u' (inC x))
 |[],i,q,u,n,hd,hi,hq,hk=>by
  have e:i=l.length:=by
   grind
  subst e;refine⟨u,⟨jm _,fun _=>rfl⟩,hq,?_⟩;obtain⟨s0,s1,s2,s3,s4,n,ini,p⟩:=g;rw[ZfM znM.eq_1];cases ini<;>simp[Zly]
 |a::r,i,q,u,n,hd,hi,hq,hk=>by
  have h1:i<l.length:=by
   grind
  have h2:l[i]=a:=by grind [List.drop_eq_getElem_cons,List.cons.inj]
  have h3:l.drop (i+1)=r:=by grind [List.drop_eq_getElem_cons,List.cons.inj]
  simp only[jk]at hk;obtain⟨u1,m1,e⟩:=ZkI (S:=S) d g q v w u hn (x.tick,x.kc,x.jS,x.ki) l (by omega) i h1 (hq.he (by omega));obtain⟨u2,m2,c1,ih⟩:=Zj4 (S:=S) d g v w hn x l hl r (i+1) (he2 d q a) u1 (n+1) h3 (by omega) (hq.he2 a) (by omega);rw[h2]at e m1;exact⟨u2,⟨jO m1.1 m2.1,fun q'=>by
   rw[ka,m2.2 (by omega)];exact m1.2 (by omega)⟩,by rw[jk,<-kU,yT];exact c1,e.trans ih⟩
theorem Zkp(d:NdV)(y:zZP):(heD d y).now=d.now:=by grind [heD]
def heS:List zZP->NdV×(Int×List Zou)->NdV×(Int×List Zou)
 |[],x=>x
 |y::r,x=>heS r (heD x.1 y,he3 x.1 x.2 y)
theorem Zj3{S:StV}(g:RgV)(w:Nat)(x:Zjo)(l:List zZP)(hl:l.length<=100)(hsc:∀y∈l,y.seen.length<=5000/\y.pts.length<=1000):∀(r:List zZP) (i:Nat) (d:NdV) (q:Int×List Zou) (u v n:Nat),0<=d.now/\d.now<=1099511627776->l.drop i=r->i<=l.length->EsN n q.2->n+r.length<=1000 ->
  ∃u' v',((u<=u'/\(u'=u->(heS r (d,q)).2=q))/\(v<=v'/\(v'=v->(heS r (d,q)).1=d)))/\EsN (n+r.length) (heS r (d,q)).2.2/\Y L Cs znK (some [82,81,80,0]) 4 (ZkH l i) (heM S d g q v w u (inC x))=some (.exit 4,(83,.w (Bo false))::ZkH l l.length,heM S (heS r (d,q)).1 g (heS r (d,q)).2 v' w u' (inC x))
 |[],i,d,q,u,v,n,hn,hd,hi,hq,hk=>by
  have e:i=l.length:=by
   grind
  refine⟨u,v,⟨⟨jm _,fun _=>rfl⟩,⟨jm _,fun _=>rfl⟩⟩,hq,?_⟩
  simp_all [ZfM,znK.eq_1,Zly,heS]
 |a::r,i,d,q,u,v,n,hn,hd,hi,hq,hk=>by
  have h1:i<l.length:=by
   have:=congrArg List.length hd;simp at this;omega
  have h2:l[i]=a:=by rw[js h1]at hd;exact(jU hd).1
  have h3:l.drop (i+1)=r:=by rw[js h1]at hd;exact(jU hd).2
  have ha:a∈l:=by rw[<-h2];exact jf h1
  simp only[jk]at hk;obtain⟨u1,v1,⟨m1,m2⟩,e⟩:=ZkG (S:=S) d g q v w u hn (x.tick,x.kc,x.jS,x.ki) l (by omega) (fun y hy=>(hsc y hy).1) (fun y hy=>(hsc y hy).2) i h1 (hq.he (by omega));rw[h2]at e m1 m2;obtain⟨u2,v2,⟨m3,m4⟩,c1,ih⟩:=Zj3 (S:=S) g w x l hl hsc r (i+1) (heD d a) (he3 d q a) u1 v1 (n+1) (by rw[Zkp];exact hn) h3 (by omega) (hq.he3 (hsc a ha)) (by omega);exact⟨u2,v2,⟨⟨jO m1.1 m3.1,fun q'=>by
   show(heS r (heD d a,he3 d q a)).2=q;rw[m3.2 (by omega)];exact m1.2 (by omega)⟩,⟨jO m2.1 m4.1,fun q'=>by
   show(heS r (heD d a,he3 d q a)).1=d;rw[m4.2 (by omega)];exact m2.2 (by omega)⟩⟩,by rw[jk,<-kU,yT];exact c1,e.trans ih⟩
def ZiQ(d:NdV)(q:Int×List Zou)(x:Zjo):NdV×(Int×List Zou):=heS x.kc (d,x.ki.foldl (he2 d) (x.jS.foldl (he1 d) q))
theorem ZkR{S:StV}(d:NdV)(g:RgV)(q:Int×List Zou)(v w u n:Nat)(hn:0<=d.now/\d.now<=1099511627776)(x:Zjo)(hx:Zlc x)(hq:EsN n q.2)(hk:n+300<=1000) :
  ∃v' u',((u<=u'/\(u'=u->(ZiQ d q x).2=q))/\(v<=v'/\(v'=v->(ZiQ d q x).1=d)))/\EsN (n+300) (ZiQ d q x).2.2/\R L Cs Zh4 [Pt 0,.a (inC x)] (ndM S d g q.1 q.2 v w u)=some (.t [],ndM S (ZiQ d q x).1 g (ZiQ d q x).2.1 (ZiQ d q x).2.2 v' w u'):=by
 obtain⟨x1,x2,x3,x4⟩:=hx;obtain⟨u1,m1,a1,h1⟩:=Zj5 (S:=S) d g v w hn x x.jS x2 x.jS 0 q u n rfl (jp _) hq (by omega);obtain⟨u2,m2,a2,h2⟩:=Zj4 (S:=S) d g v w hn x x.ki x3 x.ki 0 (x.jS.foldl (he1 d) q) u1 _ rfl (jp _) a1 (by omega);obtain⟨u3,v3,⟨m3,m4⟩,a3,h3⟩:=Zj3 (S:=S) g w x x.kc x1 x4 x.kc 0 d (x.ki.foldl (he2 d) (x.jS.foldl (he1 d) q)) u2 v _ hn rfl (jp _) a2 (by omega);refine⟨v3,u3,⟨⟨jO m1.1 (jO m2.1 m3.1),fun e=>?_⟩,m4⟩,a3.mono (by omega),?_⟩
 ·grind [ZiQ]
 unfold ZiQ;obtain⟨s0,s1,s2,s3,s4,na,ini,p⟩:=g;simp only[ZkL,ZkJ,ZkH,heM,ndM,ji,je,jg]at h1 h2 h3;rw[zUa Zjh rfl];cases ini<;>simp[ZhF,h1,h2,h3,Zly]
abbrev fnN(f:Nat):Cl:=.fn f [.ptr 0 0 0 0] []
theorem ZjB(S:StV)(d d':NdV)(g:RgV)(c:Int)(es:List Zou)(v v' w u f f':Nat)(x:Zjo)(hv:¬v'=v)(hR:R L Cs f [Pt 0] (ndM S d g c es v w u)=some (.w (.c (fnN f')),ndM S d' g c es v' w u)) :
  Y L Cs zj (some [6,0]) 4 [(6,.w (.c (fnN f))),(0,.w (Pt 0))] (ndM S d g c es v w u++[bx 4 (inC x)])=Y L Cs zj (some [6,0]) 4 [(6,.w (.c (fnN f'))),(0,.w (Pt 0))] (ndM S d' g c es v' w u++[bx 4 (inC x)]):=by
 obtain⟨s0,s1,s2,s3,s4,na,ini,p⟩:=g;rw[ZfM zj.eq_1];cases ini<;>simp[ndM,ndC,rgC,mpB,bxv]at hR<;>simp[hR,hv,Zly,zr]
theorem ZkV(S:StV)(d d':NdV)(g g':RgV)(c:Int)(es:List Zou)(v v' w w' u f:Nat)(x:Zjo)(hv:¬v'=v)(hw:¬w'=w)(hR:R L Cs f [Pt 0] (ndM S d g c es v w u)=some (.w (.c .qZ),ndM S d' g' c es v' w' u)) :
  Y L Cs zj (some [6,0]) 4 [(6,.w (.c (fnN f))),(0,.w (Pt 0))] (ndM S d g c es v w u++[bx 4 (inC x)])=some (.exit 1,[(43,.w (Bo false)),(6,.w (.c .qZ)),(0,.w (Pt 0))],ndM S d' g' c es v' w' u++[bx 4 (inC x)]):=by
 obtain⟨s0,s1,s2,s3,s4,na,ini,p⟩:=g;obtain⟨r0,r1,r2,r3,r4,ma,jni,p'⟩:=g';rw[ZfM zj.eq_1];cases ini<;>cases jni<;>simp[ndM,ndC,rgC,mpB,bxv]at hR<;>simp[hR,hv,hw,Zly,zr]<;>rw[ZfM zj.eq_1]<;>simp[Zly]
structure Zk7(S:StV)(d:NdV)(g:RgV)(es:List Zou)(n:Nat):Prop where
 rg:ZjQ g
 jL:∀a∈g.jL,zk0 a
 jV:KB S.m g.jV
 now:d.now=g.jV.tick+g.na
 few:d.now<=90000
 ents:EsN n es
 last:0<=d.last/\d.last<=1099511627776
 qi:d.qi.length<=900
def goN(S:StV)(zs:List Zon)(ss:List Sgn)(d:NdV)(k:zci):NdV :=
 if(ZiF S { d with kr:=k }).mode=1 then ZiG S zs ss (ZiF S { d with kr:=k }) else ZiF S { d with kr:=k }
def hrN(S:StV)(zs:List Zon)(ss:List Sgn)(d:NdV)(g:RgV)(c:Int)(es:List Zou)(ks:List Int)(x:Zjo):NdV×(Int×List Zou):=ZiQ d (c,Zh0 (Zhl S zs ss es g).jV.tick ks es) x
theorem Zla:∀(l:List zZP) (d:NdV) (q:Int×List Zou),(heS l (d,q)).1.now=d.now/\(heS l (d,q)).1.qi=d.qi/\(heS l (d,q)).1.first=d.first/\(heS l (d,q)).1.mode=d.mode/\(heS l (d,q)).1.uz=d.uz/\(heS l (d,q)).1.told=d.told/\(heS l (d,q)).1.kr=d.kr
 |[],d,q=>⟨rfl,rfl,rfl,rfl,rfl,rfl,rfl⟩
 |y::l,d,q=>by
  have h:=Zla l (heD d y) (he3 d q y);have e:(heD d y).now=d.now/\(heD d y).qi=d.qi/\(heD d y).first=d.first/\(heD d y).mode=d.mode/\(heD d y).uz=d.uz/\(heD d y).told=d.told/\(heD d y).kr=d.kr:=by
   unfold heD;split<;>exact⟨rfl,rfl,rfl,rfl,rfl,rfl,rfl⟩
  obtain⟨a1,a2,a3,a4,a5,a6,a7⟩:=h;obtain⟨b1,b2,b3,b4,b5,b6,b7⟩:=e;exact⟨a1.trans b1,a2.trans b2,a3.trans b3,a4.trans b4,a5.trans b5,a6.trans b6,a7.trans b7⟩
theorem Zj2:∀(l:List zZP) (d:NdV) (q:Int×List Zou),0<=d.last/\d.last<=1099511627776->0<=d.now/\d.now<=1099511627776->0<=(heS l (d,q)).1.last/\(heS l (d,q)).1.last<=1099511627776
 |[],d,q,h,_=>h
 |y::l,d,q,h,hn=>by
  refine Zj2 l (heD d y) (he3 d q y) ?_ (by rw[Zkp];exact hn);unfold heD Zjv;split
  ·rename_i hc;simp only[jl,decide_eq_true_eq]at hc;simp only;omega
  ·exact h
theorem Zko{S:StV}{d d':NdV}{g g':RgV}{c c':Int}{es es':List Zou}{v v' w w' u u' f:Nat}{xs:List Cl}{X:List Cl}(hxs:xs=[]\/∃x:Zjo,xs=inC x)(hX:∃x:Zjo,X=inC x)(hv:v'=v->d'=d)(hw:w'=w->g'=g)(hu:u'=u->c'=c/\es'=es)
  (hR:R L Cs f (Pt 0::if xs=[] then [] else [.a xs]) (ndM S d g c es v w u)=some (.t [],ndM S d' g' c' es' v' w' u')) :
  ∃fp,zx (R L Cs) ⟨true⟩ (.c (.fn f [] [])) (Pt 0::if xs=[] then [] else [.a xs]) (ndM S d g c es v w u++[bx 4 X])=some (.t [],ndM S d' g' c' es' v' w' u'++[bx 4 X],fp):=by
 obtain⟨x0,rfl⟩:=hX;obtain⟨s0,s1,s2,s3,s4,na,ini,p⟩:=g;obtain⟨r0,r1,r2,r3,r4,ma,jni,p'⟩:=g';by_cases a1:v'=v
 ·have:=hv a1;subst this;subst a1;by_cases a2:w'=w
  ·have:=hw a2;cases this;subst a2;by_cases a3:u'=u
   ·obtain⟨rfl,rfl⟩:=hu a3;subst a3;refine⟨.no,?_⟩;rcases hxs with rfl |⟨x,rfl⟩<;>cases ini<;>simp[ndM,ndC,rgC,mpB,bxv]at hR<;>simp[hR,Zly]
   ·refine⟨.wr [(2,0,whole)],?_⟩;rcases hxs with rfl |⟨x,rfl⟩<;>cases ini<;>simp[ndM,ndC,rgC,mpB,bxv]at hR<;>simp[hR,Zly,a3]
  ·by_cases a3:u'=u
   ·obtain⟨rfl,rfl⟩:=hu a3;subst a3;refine⟨.wr [(1,0,whole)],?_⟩;rcases hxs with rfl |⟨x,rfl⟩<;>cases ini<;>cases jni<;>simp[ndM,ndC,rgC,mpB,bxv]at hR<;>simp[hR,Zly,a2]
   ·refine⟨.wr [(1,0,whole),(2,0,whole)],?_⟩;rcases hxs with rfl |⟨x,rfl⟩<;>cases ini<;>cases jni<;>simp[ndM,ndC,rgC,mpB,bxv]at hR<;>simp[hR,Zly,a2,a3]
 ·by_cases a2:w'=w
  ·have:=hw a2;cases this;subst a2;by_cases a3:u'=u
   ·obtain⟨rfl,rfl⟩:=hu a3;subst a3;refine⟨.wr [(0,0,whole)],?_⟩;rcases hxs with rfl |⟨x,rfl⟩<;>cases ini<;>simp[ndM,ndC,rgC,mpB,bxv]at hR<;>simp[hR,Zly,a1]
   ·refine⟨.wr [(0,0,whole),(2,0,whole)],?_⟩;rcases hxs with rfl |⟨x,rfl⟩<;>cases ini<;>simp[ndM,ndC,rgC,mpB,bxv]at hR<;>simp[hR,Zly,a1,a3]
  ·by_cases a3:u'=u
   ·obtain⟨rfl,rfl⟩:=hu a3;subst a3;refine⟨.wr [(0,0,whole),(1,0,whole)],?_⟩;rcases hxs with rfl |⟨x,rfl⟩<;>cases ini<;>cases jni<;>simp[ndM,ndC,rgC,mpB,bxv]at hR<;>simp[hR,Zly,a1,a2]
   ·refine⟨.wr [(0,0,whole),(1,0,whole),(2,0,whole)],?_⟩;rcases hxs with rfl |⟨x,rfl⟩<;>cases ini<;>cases jni<;>simp[ndM,ndC,rgC,mpB,bxv]at hR<;>simp[hR,Zly,a1,a2,a3]
theorem ZkX{S:StV}{zs:List Zon}{ss:List Sgn}(hS:z6u S zs ss){d:NdV}{g:RgV}{es:List Zou}{n:Nat}(h:Zk7 S d g es n):ZjQ (Zhl S zs ss es g)/\(Zhl S zs ss es g).na<=4/\(∀a∈(Zhl S zs ss es g).jL,zk0 a)/\KB S.m (Zhl S zs ss es g).jV/\(Zhl S zs ss es g).jV.tick+(Zhl S zs ss es g).na=d.now:=by
 obtain⟨hg,ha,hk,hn,hf,_⟩:=h;have h5:=hg.few;unfold Zhl;by_cases c:g.na=5
 ·have hi:g.ini=false:=by
   cases hi:g.ini with
   |false=>rfl
   |true=>have:=hg.ini hi;omega
  grind [Zj0,List.mem_of_mem_tail]
 grind
def Zlu(S:StV)(d:NdV):Int:=Pl.vj d.told S.car.ur
theorem ZkA{S:StV}{zs:List Zon}{ss:List Sgn}(hS:z6u S zs ss)(q:List Int)(last:Int)(k:zci)(f:Int):(zMT (zLj S.car q last k) f).length<=900:=by
 have h:=zNa hS.car q last (max 0 (min k.ego.vhi 2000)) (by omega)
 grind [zMT]
theorem Zkv{S:StV}{zs:List Zon}{ss:List Sgn}(hS:z6u S zs ss){d:NdV}(h:d.qi.length<=900):(ZiG S zs ss d).qi.length<=900:=by
 grind [ZiG,ZkA]
theorem ZkM{S:StV}{zs:List Zon}{ss:List Sgn}(hS:z6u S zs ss){d:NdV}(h:d.qi.length<=900)(K:zci):(goN S zs ss d K).qi.length<=900/\(goN S zs ss d K).now=d.now/\(goN S zs ss d K).last=d.last/\(goN S zs ss d K).kr=K/\(goN S zs ss d K).mode=(if S.yb<d.now-d.last then 2 else d.mode):=by
 unfold goN;split
 ·exact⟨Zkv hS h,rfl,rfl,rfl,rfl⟩
 ·exact⟨h,rfl,rfl,rfl,rfl⟩
theorem Zlp{S:StV}{zs:List Zon}{ss:List Sgn}(hS:z6u S zs ss){d:NdV}{g:RgV}{es:List Zou}{n:Nat}(h:Zk7 S d g es n)(hn:n+300<=1000)(c:Int)(v w u:Nat)(ks:List Int)(hK:ZjC c es ks)(hks:ks.length<=1000){x:Zjo}(hx:Zlc x)(hx8:x.kc.length<=8/\x.jS.length<=8/\x.ki.length<=8)(ht:x.tick=d.now)
  {d2:NdV} {c2:Int} {es2:List Zou} (e2:hrN S zs ss d g c es ks x=(d2,(c2,es2))) {K:zci} (eK:Zkz S zs ss (Zhl S zs ss es g) es2=(K,true)) :
  ∃v' w' u',(v<v'/\w<w'/\(u<=u'/\(u'=u->c2=c/\es2=es)))/\EsN (n+300) es2 /\
   R L Cs Zh5 [Pt 0,.a (inC x)] (ndM S d g c es v w u)=some (.t [W (Zlu S (ZjL (goN S zs ss d2 K))),W 0],ndM S (ZjL (goN S zs ss d2 K)) (ZhJ (Zhl S zs ss es g) (Pl.vj (goN S zs ss d2 K).qi 0)) c2 es2 v' w' u'):=by
 have hh:=h;obtain⟨hg,ha,hk,yP,hfew,BG,yE,hplan⟩:=h;have hk0:=hk.nd.t;obtain⟨g1,g2,g3,g4,g5⟩:=ZkX (zs:=zs) (ss:=ss) hS hh;have h0:=ZkQ S d g c es v w u;obtain⟨w1,u1,m1,m2,h1⟩:=Zkk hS d hg ha hk yP (by omega) c es (BG.ok (by omega)) v w u ks hK hks;have BE:=BG.fgt (Zhl S zs ss es g).jV.tick ks;obtain⟨v2,u2,⟨m3,m4⟩,Ad,h2⟩:=ZkR (S:=S) d (Zhl S zs ss es g) (c,Zh0 (Zhl S zs ss es g).jV.tick ks es) v w1 u1 n (by omega) x hx BE hn;rw[show ZiQ d (c,Zh0 (Zhl S zs ss es g).jV.tick ks es) x=(d2,(c2,es2)) from e2]at h2 Ad m3 m4;simp only at h2 Ad m3 m4;have hd:=Zla x.kc d (x.ki.foldl (he2 d) (x.jS.foldl (he1 d) (c,Zh0 (Zhl S zs ss es g).jV.tick ks es)));have hl2:=Zj2 x.kc d (x.ki.foldl (he2 d) (x.jS.foldl (he1 d) (c,Zh0 (Zhl S zs ss es g).jV.tick ks es))) yE (by omega);rw[show heS x.kc (d,x.ki.foldl (he2 d) (x.jS.foldl (he1 d) (c,Zh0 (Zhl S zs ss es g).jV.tick ks es)))=(d2,(c2,es2)) from e2]at hd hl2;simp only at hd hl2;obtain⟨AZ,Ae,-⟩:=hd;have h3:=Zkj hS d2 g1 g3 g4 (by omega) c2 es2 (Ad.ok (by omega)) v2 w1 u2;have Bp:=ZkP hS es2 (Zhl S zs ss es g).jL (znE S (znB (Zhl S zs ss es g).jV.tick es2) (Zhl S zs ss es g).jV).1 (znE S (znB (Zhl S zs ss es g).jV.tick es2) (Zhl S zs ss es g).jV).2 (g4.Br _).1 (by
  rw[(g4.Br _).2];have:(Zhl S zs ss es g).jL.length<=5:=by simp[RgV.jL];omega
  omega)
 have hKB:KB S.m K:=by
  have:=Bp.1;have e:chN S zs ss es2 (Zhl S zs ss es g).jL (znE S (znB (Zhl S zs ss es g).jV.tick es2) (Zhl S zs ss es g).jV)=(K,true):=eK;rw[show((znE S (znB (Zhl S zs ss es g).jV.tick es2) (Zhl S zs ss es g).jV).1,(znE S (znB (Zhl S zs ss es g).jV.tick es2) (Zhl S zs ss es g).jV).2)=znE S (znB (Zhl S zs ss es g).jV.tick es2) (Zhl S zs ss es g).jV from rfl,e]at this;exact this
 rw[eK]at h3;simp only[if_true]at h3;clear Bp eK;obtain⟨v4,m5,h4⟩:=ZjV S { d2 with kr:=K } (Zhl S zs ss es g) c2 es2 (v2+1) w1 u2 (by simp only[AZ];omega) hl2;have hgo:∃v5,v2<v5/\∀T,Y L Cs zj (some [6,0]) 4 [(6,.w (.c (fnN Zhq))),(0,.w (Pt 0))] (ndM S (goN S zs ss d2 K) (Zhl S zs ss es g) c2 es2 v5 w1 u2++[bx 4 (inC x)])=T->Y L Cs zj (some [6,0]) 4 [(6,.w (.c (fnN ZhW))),(0,.w (Pt 0))] (ndM S d2 (Zhl S zs ss es g) c2 es2 v2 w1 u2++[bx 4 (inC x)])=T:=by
  have s1:=ZjB S d2 _ (Zhl S zs ss es g) c2 es2 v2 (v2+1) w1 u2 _ _ x (by omega) h3;unfold goN;by_cases hm:(ZiF S { d2 with kr:=K }).mode=1
  ·rw[if_pos hm]at h4 ⊢;have s2:=ZjB S _ _ (Zhl S zs ss es g) c2 es2 (v2+1) v4 w1 u2 _ _ x (by omega) h4;obtain⟨v5,m6,h5⟩:=ZjR hS (ZiF S { d2 with kr:=K }) (Zhl S zs ss es g) c2 es2 v4 w1 u2 (show d2.qi.length<=1000 by rw[Ae];omega) (show K.jR.length<=100000000000 by have:=hKB.nd.len hS;omega);have s3:=ZjB S _ _ (Zhl S zs ss es g) c2 es2 v4 v5 w1 u2 _ _ x (by omega) h5;exact⟨v5,by omega,fun T hT=>s1.trans (s2.trans (s3.trans hT))⟩
  ·rw[if_neg hm]at h4 ⊢;have s2:=ZjB S _ _ (Zhl S zs ss es g) c2 es2 (v2+1) v4 w1 u2 _ _ x (by omega) h4;exact⟨v4,by omega,fun T hT=>s1.trans (s2.trans hT)⟩
 obtain⟨v5,m6,hgo⟩:=hgo;have hpl:(goN S zs ss d2 K).qi.length<=1000/\(goN S zs ss d2 K).now=d.now:=by
  obtain⟨q1,q2,_⟩:=ZkM (zs:=zs) (ss:=ss) hS (d:=d2) (by rw[Ae];exact hplan) K;exact⟨jO q1 (by decide),q2.trans AZ⟩
 generalize goN S zs ss d2 K=d5 at *;have h6:=Zkl S d5 g1 g2 c2 es2 v5 w1 u2 (by omega) hpl.1;have hlp:=hgo _ (ZkV S d5 (ZjL d5) (Zhl S zs ss es g) _ c2 es2 v5 (v5+4) w1 (w1+2) u2 _ x (by omega) (by omega) h6);have hA:=Pl.C4 (ZjL d5).told (show d5.qi.length<=1000 from hpl.1) S.car.ur;refine⟨v5+4,w1+2,u2,⟨by omega,by omega,by omega,fun e=>?_⟩,Ad,?_⟩
 ·have e1:=m3.2 (by omega);have e2':=m2.2 (by omega);rw[e2']at e1;exact⟨congrArg Prod.fst e1,congrArg Prod.snd e1⟩
 have c1:¬8<max (x.kc.length:Int) (max x.jS.length x.ki.length):=by omega
 have c2':¬(1099511626776:Int)<=d.now:=by omega
 obtain⟨fp1,hc1⟩:=Zko (f:=Zhz) (xs:=[]) (X:=inC x) (.inl rfl) ⟨x,rfl⟩ (fun _=>rfl) m1.2 (fun q=>⟨rfl,m2.2 q⟩) (by simpa using h1);obtain⟨fp2,hc2⟩:=Zko (f:=Zh4) (xs:=inC x) (X:=inC x) (.inr ⟨x,rfl⟩) ⟨x,rfl⟩ m4.2 (fun _=>rfl) (fun q=>by
  have:=m3.2 q;exact⟨congrArg Prod.fst this,congrArg Prod.snd this⟩) (by simpa using h2)
 have hc0:zx (R L Cs) ⟨true⟩ (.c (.fn Zh3 [] [])) [Pt 0] (ndM S d g c es v w u++[bx 4 (inC x)])=some (.w (Bo false),ndM S d g c es v w u++[bx 4 (inC x)],.no):=by
  obtain⟨s0,s1,s2,s3,s4,na,ini,p⟩:=g;cases ini<;>simp[ndM,ndC,rgC,mpB,bxv]at h0<;>simp[h0,Zly]
 have hcA:∀M,zx (R L Cs) ⟨true⟩ (.c (.fn zGR [] [])) [.a [.jb (zu (ZjL d5).told)],W S.car.ur] M=some (.w (W (Pl.vj (ZjL d5).told S.car.ur)),M,.no):=fun M=>by
  simp[hA]
 unfold Zlu;generalize Pl.vj (ZjL d5).told S.car.ur=cc at *;generalize ZhJ (Zhl S zs ss es g) (Pl.vj d5.qi 0)=g9 at *;generalize Zh0 (Zhl S zs ss es g).jV.tick ks es=es1 at *;generalize Zhl S zs ss es g=g' at *;generalize ZjL d5=d6 at *;clear hg ha hk yP BG BE Ad g1 g2 g3 g4 g5 h0 h1 h2 h3 h4 h6 hgo hKB hh e2 hK hA m1 m2 m3 m4 m5 m6 hl2 hpl;obtain⟨xt,xsc,xsp,xfx⟩:=x;simp only at ht c1;subst ht;simp only[inC,List.cons_ne_nil,reduceCtorEq,if_false,if_true,ndM,ji,je]at hc0 hc1 hc2 hlp;rw[zUa Zji rfl];simp[-zx,ZhG,hc0,hc1,hc2,hlp,hcA,c1,c2',Zly,zr];cases g9.ini<;>simp
theorem Znq(l:List Pss)(hl:l.length<=100000000000)(fnv:Cl)(f:Pss->Bool)(M:Mem)(hc:∀p∈l,zx (R L Cs) ⟨true⟩ (.c fnv) [.a (zKF p)] M=some (.w (Bo (f p)),M,.no))(ha:l.any f=true) :
  ∃k:Nat,k<l.length/\R L Cs zLd [.c (.jb (zKd l)),.c fnv] M=some (.w (W k),M):=by
 have htk:∀p:Pss,List.take (zKF p).length (zKF p)=zKF p:=fun p=>kH
 have h:=zxf (L:=L) (Cs:=Cs) (b:=zHw) (live:=some [7,1,0,8]) (n0:=M.length) l (fun i=>[(7,.w (W l.length)),(1,.w (.c fnv)),(0,.w (.c (.jb (zKd l)))),(8,.w (W i))]) M f (fun i=>(.ret,[(4,.w (W i))],M)) (.exit 0,[(9,.w (Bo false)),(0,.w (.c (.jb (zKd l)))),(1,.w (.c fnv)),(7,.w (W l.length)),(8,.w (W l.length))],M) ?_ ?_ ?_
 ·cases hq:l.findIdx? f with
  |none =>
   rw[kl]at hq;have:l.any f=false:=by simpa using hq
   rw[this]at ha;cases ha
  |some k =>
   rw[hq]at h;obtain⟨h1,_⟩:=jT.1 hq;refine⟨k,h1,?_⟩;simp only[jg]at h;rw[zUa zKB rfl];simp[zHI,h]
 ·intro i hi hp;have hw:=zB (i:=i) (by omega);have hcc:=hc l[i] (jf hi);have ht:=htk l[i];simp only[zNu]at ht;rw[hp]at hcc;rw[ZfM zHw.eq_1];simp[hi,hw,hcc,ht,-zx]
 ·intro i hi hp;have hcc:=hc l[i] (jf hi);have ht:=htk l[i];simp only[zNu]at ht;rw[hp]at hcc;rw[ZfM zHw.eq_1];simp[hi,hcc,ht,-zx]
 ·rw[ZfM zHw.eq_1];simp
def onZ(z:Int)(p:Pss):Bool:=decide (p.qk=z)
theorem Zme(z:Int)(p:Pss):R L Cs ZlT [.a (zKF p),Pt 0] [bxv 1 1 [I z]]=some (.w (Bo (onZ z p)),[bxv 1 1 [I z]]):=by
 rw[zUa Zmy rfl];unfold onZ;by_cases c:p.qk=z
 ·simp[Zjl,zKF,c,zg,zH]
 ·have b1:(p.qk==z)=false:=by simp[c]
  simp[Zjl,zKF,c,b1,zg,zH]
abbrev zFn(k:Nat):Cl:=.fn ZlT [] [.ptr k 0 0 0]
theorem ZmU(z:Int)(ps:List Pss)(hs:ps.length<=1000):R L Cs zKY [.c (.jb (zKd ps)),.c (zFn 0)] [bxv 1 1 [I z]]=some (.w (Bo (ps.any (onZ z))),[bxv 1 1 [I z]]):=by
 obtain⟨k,h1,h2⟩:=zO6 ps (by omega) (zFn 0) (onZ z) [bxv 1 1 [I z]] (fun p _=>by
  have h:=Zme z p;simp only[zKF]at h;simp[h,zKF])
 rw[zUa zK2 rfl];simp[zHz,h1,h2]
theorem Znu(z:Int)(ps:List Pss)(hs:ps.length<=1000)(ha:ps.any (onZ z)=true):∃k:Nat,k<ps.length/\R L Cs zLd [.c (.jb (zKd ps)),.c (zFn 0)] [bxv 1 1 [I z]]=some (.w (W k),[bxv 1 1 [I z]]) :=
 Znq ps (by omega) (zFn 0) (onZ z) [bxv 1 1 [I z]] (fun p _=>by
  have h:=Zme z p;simp only[zKF]at h;simp[h,zKF]) ha
abbrev pkE(ps:List Pss)(n i z:Nat)(zn:Nat):Env:=[(83,.w (W i)),(82,.w (W n)),(66,.w (W z)),(65,.w (W zn)),(3,.w (Pt 1)),(1,.w (Pt 0)),(4,.w (.c (.jb (zKd ps)))),(7,.w (Pt 3)),(81,.w (.c (.jb (zKd ps)))),(6,.w (.c (zFn 2))),(8,.w (Pt 4))]
theorem ZmI(S:StV)(e:Ego)(z zn:Nat)(ps:List Pss)(hs:ps.length<=1000)(f:Pss):∀(r:List Pss) (i v:Nat) (l:Pss),ps.drop i=r->i<=ps.length ->
  ∃v' l',Y L Cs Zja (some [83,82,66,65,3,1,4,7,81,6,8]) 5 (pkE ps ps.length i z zn) [bx 19 (ZlR S),bxv 1 4 (zch e),bxv 1 1 [I z],bxv 1 4 (zKF f),bxv v 4 (zKF l)] =
   some (.exit 2,(84,.w (Bo false))::[(83,.w (W ps.length)),(82,.w (W ps.length)),(66,.w (W z)),(65,.w (W zn)),(3,.w (Pt 1)),(1,.w (Pt 0)),(4,.w (.c (.jb (zKd ps)))),(7,.w (Pt 3)),(81,.w (.c (.jb (zKd ps)))),(6,.w (.c (zFn 2))),(8,.w (Pt 4))],[bx 19 (ZlR S),bxv 1 4 (zch e),bxv 1 1 [I z],bxv 1 4 (zKF f),bxv v' 4 (zKF l')])
 |[],i,v,l,hd,hi=>by
  have ee:i=ps.length:=by
   have:=congrArg List.length hd;simp at this;omega
  subst ee;refine⟨v,l,?_⟩;rw[ZfM Zja.eq_1];simp
 |p::r,i,v,l,hd,hi=>by
  have g1:i<ps.length:=by
   have:=congrArg List.length hd;simp at this;omega
  have g2:ps[i]=p:=by rw[js g1]at hd;exact(jU hd).1
  have g3:ps.drop (i+1)=r:=by rw[js g1]at hd;exact(jU hd).2
  have hw:=zB (i:=i) (by omega);have hci:(i:Int)<ps.length:=by omega
  have hP:=Zme z p;cases hz:onZ z p with
  |true =>
   rw[hz]at hP;obtain⟨v',l',ih⟩:=ZmI S e z zn ps hs f r (i+1) (v+1) p g3 (by omega);refine⟨v',l',?_⟩;rw[<-ih];simp only[zKF]at hP;rw[ZfM Zja.eq_1];simp[hci,g1,g2,hw,hP,zKF,zr,-Int.natCast_add]
  |false =>
   rw[hz]at hP;obtain⟨v',l',ih⟩:=ZmI S e z zn ps hs f r (i+1) v l g3 (by omega);refine⟨v',l',?_⟩;rw[<-ih];simp only[zKF]at hP;rw[ZfM Zja.eq_1];simp[hci,g1,g2,hw,hP,zKF,zr,-Int.natCast_add]
theorem Zm0(S:StV)(e:Ego)(zn:Nat)(hzn:zn<=1000)(ps:List Pss)(hs:ps.length<=1000)(hp:∀p∈ps,e.shi<p.lo):∀(f z:Nat),z+f=zn ->
  Y L Cs Zi9 (some [66,65,3,1,4]) 2 [(66,.w (W z)),(65,.w (W zn)),(3,.w (Pt 1)),(1,.w (Pt 0)),(4,.w (.c (.jb (zKd ps))))] [bx 19 (ZlR S),bxv 1 4 (zch e)] =
    some (.exit 0,[(67,.w (Bo false)),(66,.w (W zn)),(65,.w (W zn)),(3,.w (Pt 1)),(1,.w (Pt 0)),(4,.w (.c (.jb (zKd ps))))],[bx 19 (ZlR S),bxv 1 4 (zch e)])
 |0,z,h=>by
  obtain rfl:z=zn:=by omega
  rw[ZfM Zi9.eq_1];simp
 |f+1,z,h=>by
  have ih:=Zm0 S e zn hzn ps hs hp f (z+1) (by omega);have hw:=zB (i:=z) (by omega);have hci:(z:Int)<zn:=by omega
  have hC:=ZmU z ps hs;rw[<-ih];cases ha:ps.any (onZ z)with
  |false =>
   rw[ha]at hC;rw[ZfM Zi9.eq_1];simp[hci,hw,hC,zr,-Int.natCast_add]
  |true =>
   rw[ha]at hC;obtain⟨k,hk,hI⟩:=Znu z ps hs ha;obtain⟨v',l',hL⟩:=ZmI S e z zn ps hs ps[k] ps 0 1 ps[k] rfl (jp _);have hlo:¬ps[k].lo<=e.shi:=by have:=hp _ (jf hk);omega
   simp only[pkE,zKF,jg]at hL;rw[ZfM Zi9.eq_1];simp[hci,hw,hC,hI,hk,hL,hlo,zKF,zr,-Int.natCast_add]
structure Zlr(S:StV)(zs:List Zon):Prop where
 v:S.e0.vlo=0/\S.e0.vhi=0
 s:S.e0.slo<=S.e0.shi/\S.car.len<S.e0.slo/\S.e0.shi-S.e0.slo<S.car.len
 far:S.e0.shi<=zmd S.m 0 S.r
 big:S.e0.shi<=1000000000
 pas:∀p∈zKh S.m zs 0 S.r,S.e0.shi<p.lo
 kind:zaK S.m (S.r.headD 0)=1
 t:0<=S.t0/\S.t0<=50000
theorem ZnI{S:StV}{zs:List Zon}{ss:List Sgn}(hS:z6u S zs ss)(hB:Zlr S zs):R L Cs ZmL [.a (ZlR S)] []=some (.w (Bo true),[]):=by
 have hf:=hS.full.full;obtain⟨v1,v2⟩:=hB.v;obtain⟨s1,s2,s3⟩:=hB.s;obtain⟨q1,q2,_⟩:=hS.car;have hE:=zsq hf.qW hS.yc;have hP:=zPm hf hS.yc (hS.full.srt _ hS.yc) (hS.full.few _ hS.yc);have hfew:=hS.full.few _ hS.yc;have hz:S.m.qV.length=zs.length:=by have:=hf.zd.z;rw[this];simp[zk8]
 have hL:=Zm0 S S.e0 S.m.qV.length (by have:=hS.full.two;omega) (zKh S.m zs 0 S.r) (by omega) hB.pas S.m.qV.length 0 (by omega);have hpe:(ZlR S).length=19:=rfl;have hfar:=hB.far;have CL:=hB.big;have w1:IntKind.i64.wrap (S.e0.shi-S.e0.slo)=S.e0.shi-S.e0.slo:=zTd _ (by omega) (by omega);have d1:¬S.e0.shi<S.e0.slo:=by omega
 have d2:¬S.e0.slo<=S.car.len:=by omega
 have d3:¬S.car.len<=S.e0.shi-S.e0.slo:=by omega
 have d4:¬zmd S.m 0 S.r<S.e0.shi:=by omega
 generalize zKh S.m zs 0 S.r=ps at *;simp only[zf,zch,v1,v2,jg]at hE hP hL;rw[zUa ZmM rfl];simp[ZjK,v1,v2,d1,d2,d3,d4,w1,hE,hP,hL]
theorem Zl1{f esz bytes:Nat}(hN:L.lookup f=none)(hL:Cs.lookup f=some (esz,bytes,false))(h0:0<esz){rows:List (List Cl)}(hr:rows.length*bytes<=140737488355328)(h:∀x∈rows,x.length=esz):R L Cs f [.c (.jb rows)] []=some (.w (.c (sl 0 esz rows)),[some (own esz rows)]):=by
 have h1:¬esz=0:=by omega
 rw[zrP hN];simp[uw,hL,zuh,hr,h1,h0];exact h
theorem Zmx(l:List Int)(hl:l.length<=100000):R L Cs Zmb [.c (.jb (zu l))] []=some (.w (.c (sl 0 1 (zu l))),[some (own 1 (zu l))]) :=
 Zl1 (esz:=1) (bytes:=8) rfl (by kernel_rfl) (by decide) (by rw[zfq];omega) (fun x hx=>by obtain⟨y,_,rfl⟩:=jZ.1 hx;rfl)
theorem Zna(l:List Prt)(hl:l.length<=100000):R L Cs Zl4 [.c (.jb (zkl l))] []=some (.w (.c (sl 0 4 (zkl l))),[some (own 4 (zkl l))]) :=
 Zl1 (esz:=4) (bytes:=32) rfl (by kernel_rfl) (by decide) (by rw[zCq];omega) (fun x hx=>by obtain⟨y,_,rfl⟩:=jZ.1 hx;rfl)
theorem Zm2(l:List Phs)(hl:l.length<=100000):R L Cs ZlY [.c (.jb (zje l))] []=some (.w (.c (sl 0 2 (zje l))),[some (own 2 (zje l))]) :=
 Zl1 (esz:=2) (bytes:=32) rfl (by kernel_rfl) (by decide) (by rw[zCr];omega) (fun x hx=>by obtain⟨y,_,rfl⟩:=jZ.1 hx;rfl)
abbrev Zma(l:List (Int×Int)):List (List Cl):=l.map fun p=>[I p.1,I p.2]
theorem Zm9(l:List (Int×Int))(hl:l.length<=100000):R L Cs Zl3 [.c (.jb (Zma l))] []=some (.w (.c (sl 0 2 (Zma l))),[some (own 2 (Zma l))]) :=
 Zl1 (esz:=2) (bytes:=16) rfl (by kernel_rfl) (by decide) (by rw[km];omega) (fun x hx=>by obtain⟨y,_,rfl⟩:=jZ.1 hx;rfl)
theorem Zny(l:List (Int×Int))(hl:l.length<=100000):R L Cs ZmS [.a [.jb (Zma l)]] []=some (.w (.a [.jb (Zma l)]),[]):=by
 have h:=Zm9 l hl;have hh:R L Cs ZmC [.c (.jb (Zma l))] []=some (.w (.a [.jb (Zma l)]),[]):=by
  rw[zUa ZmH rfl];simp[ZjA,h,zX];exact jx (by simp)
 rw[zUa ZmZ rfl];simp[ZjU,hh,zX]
theorem Znx(l:zfn)(h1:l.pts.length<=100000)(h2:l.next.length<=100000):R L Cs ZlO [.a (zo l)] []=some (.w (.a (zo l)),[]):=by
 have g1:=Zny l.pts h1;have g2:=Zmx l.next h2;rw[zUa ZmF rfl];simp[Zjy,zo,g1,g2,zX]
theorem Znv(z:Zon)(h:z.parts.length<=100000):R L Cs ZlM [.a (zdP z)] []=some (.w (.a (zdP z)),[]):=by
 have g:=Zna z.parts h;have ht:(zkl z.parts).take z.parts.length=zkl z.parts:=jx (by simp);rw[zUa ZmD rfl];simp[Zjw,zdP,g,ht,zX]
theorem Znw(w:zCP):R L Cs ZlN [.a (zaL w)] []=some (.w (.a (zaL w)),[]):=by
 rw[zUa ZmE rfl];simp[Zjx,zaL]
theorem Znh(s:Sgn)(u0:Nat)(hl:s.j8.length<=1000)(hg:∀p∈s.j8,p.green.length<=100000):∀(f i v:Nat),i+f=s.j8.length ->
  ∃v',Y L Cs Ziy (some [11,10,2,1]) 3 [(11,.w (W i)),(10,.w (W s.j8.length)),(2,.w (Pt 1)),(1,.w (Pt 0))] [bxv u0 2 [I s.offset,.slice 2 s.j8.length 2 0 s.j8.length none],bx 2 [I 0,.jc],some { box:=false,esz:=2,rows:=zje s.j8,gen:=s.j8.length,fz:=false,ver:=v }] =
   some (.exit 0,[(12,.w (Bo false)),(11,.w (W s.j8.length)),(10,.w (W s.j8.length)),(2,.w (Pt 1)),(1,.w (Pt 0))],[bxv u0 2 [I s.offset,.slice 2 s.j8.length 2 0 s.j8.length none],bx 2 [I 0,.jc],some { box:=false,esz:=2,rows:=zje s.j8,gen:=s.j8.length,fz:=false,ver:=v' }])
 |0,i,v,h=>by
  obtain rfl:i=s.j8.length:=by omega
  refine⟨v,?_⟩;rw[ZfM Ziy.eq_1];simp
 |f+1,i,v,h=>by
  have h1:i<s.j8.length:=by omega
  have hw:=zB (i:=i) (by omega);have hci:(i:Int)<s.j8.length:=by omega
  obtain⟨v',ih⟩:=Znh s u0 hl hg f (i+1) (v+1) (by omega);refine⟨v',?_⟩;rw[<-ih];have hK:=Zmx s.j8[i].green (hg _ (jf h1));have kZ:(zje s.j8)[i]?=some [I s.j8[i].vC,.jb (zu s.j8[i].green)]:=by simp[zje,h1,zr6]
  have AD:(zje s.j8).set i [I s.j8[i].vC,.jb (zu s.j8[i].green)]=zje s.j8:=by
   apply uf;intro k;by_cases hk:i=k
   ·subst hk;rw[jY (by simpa using h1),kZ]
   ·rw[jD hk]
  have ht:(zu s.j8[i].green).take s.j8[i].green.length=zu s.j8[i].green:=jx (by simp);rw[ZfM Ziy.eq_1];simp[hci,h1,hw,kZ,AD,hK,ht,zr6,zX,-Int.natCast_add]
theorem Zm4(s:Sgn)(hl:s.j8.length<=1000)(hg:∀p∈s.j8,p.green.length<=100000):R L Cs ZlK [.a (zeq s)] []=some (.w (.a (zeq s)),[]):=by
 have hK:=Zm2 s.j8 (by omega);obtain⟨v',hL⟩:=Znh s 1 hl hg s.j8.length 0 s.j8.length (by omega);have ht:(zje s.j8).take s.j8.length=zje s.j8:=jx (by simp);simp only[jg]at hL;rw[zUa Zmo rfl];simp[Zi5,zeq,hK,hL,ht,zX]
theorem Zl9(l:List zfn)(hl:l.length<=1000)(h:∀x∈l,(x.pts.length<=100000/\x.next.length<=100000)):∀(r:List zfn) (i:Nat),l.drop i=r->i<=l.length ->
  Y L Cs ZiB (some [5,10,9,8,1]) 2 [(5,.w (.c (sl 1 5 ((l.take i).map zo)))),(10,.w (W i)),(9,.w (W l.length)),(8,.w (.c (.jb (l.map zo)))),(1,.w (.c (.fn ZlO [] [])))] [gb 5,some (own 5 ((l.take i).map zo))] =
    some (.exit 0,[(11,.w (Bo false)),(5,.w (.c (sl 1 5 (l.map zo)))),(10,.w (W l.length)),(9,.w (W l.length)),(8,.w (.c (.jb (l.map zo)))),(1,.w (.c (.fn ZlO [] [])))],[gb 5,some (own 5 (l.map zo))])
 |[],i,hd,hi=>by
  have e:i=l.length:=by
   have:=congrArg List.length hd;simp at this;omega
  subst e;rw[kH,ZfM ZiB.eq_1];simp
 |x::r,i,hd,hi=>by
  have g1:i<l.length:=by
   have:=congrArg List.length hd;simp at this;omega
  have g2:l[i]=x:=by rw[js g1]at hd;exact(jU hd).1
  have g3:l.drop (i+1)=r:=by rw[js g1]at hd;exact(jU hd).2
  have hx:x∈l:=by rw[<-g2];exact jf g1
  have hw:=zB (i:=i) (by omega);have hci:(i:Int)<l.length:=by omega
  have hO:=Znx x (h x hx).1 (h x hx).2;have ih:=Zl9 l hl h r (i+1) g3 (by omega);have et:(l.take (i+1)).map zo=(l.take i).map zo++[zo x]:=by rw[ux,jr g1,g2];simp
  have kZ:(l.map zo)[i]?=some (zo x):=by simp[g1,g2]
  have hlen:((l.take i).map zo).length=i:=by simp;omega
  rw[<-ih,et];have hr:(i+1)*72<=140737488355328:=by omega
  generalize (l.take i).map zo=q at *;subst hlen;simp only[zo]at hO kZ;rw[ZfM ZiB.eq_1];simp[hci,g1,g2,hw,kZ,hO,hr,zo,-Int.natCast_add]
theorem Znf(l:List zfn)(hl:l.length<=1000)(h:∀x∈l,(x.pts.length<=100000/\x.next.length<=100000)):R L Cs Zmk [.c (.jb (l.map zo)),.c (.fn ZlO [] [])] []=some (.w (.c (.jb (l.map zo))),[]):=by
 have hL:=Zl9 l hl h l 0 rfl (jp _);have ht:(l.map zo).take l.length=l.map zo:=jx (by simp);simp only[yh,qj,sl,own,jo,km,jg]at hL;rw[zUa Zmr rfl];simp[Zi8,hL,ht,zr]
theorem Zl7(l:List Zon)(hl:l.length<=1000)(h:∀x∈l,(x.parts.length<=100000)):∀(r:List Zon) (i:Nat),l.drop i=r->i<=l.length ->
  Y L Cs Ziz (some [5,10,9,8,1]) 2 [(5,.w (.c (sl 1 2 ((l.take i).map zdP)))),(10,.w (W i)),(9,.w (W l.length)),(8,.w (.c (.jb (l.map zdP)))),(1,.w (.c (.fn ZlM [] [])))] [gb 2,some (own 2 ((l.take i).map zdP))] =
    some (.exit 0,[(11,.w (Bo false)),(5,.w (.c (sl 1 2 (l.map zdP)))),(10,.w (W l.length)),(9,.w (W l.length)),(8,.w (.c (.jb (l.map zdP)))),(1,.w (.c (.fn ZlM [] [])))],[gb 2,some (own 2 (l.map zdP))])
 |[],i,hd,hi=>by
  have e:i=l.length:=by
   have:=congrArg List.length hd;simp at this;omega
  subst e;rw[kH,ZfM Ziz.eq_1];simp
 |x::r,i,hd,hi=>by
  have g1:i<l.length:=by
   have:=congrArg List.length hd;simp at this;omega
  have g2:l[i]=x:=by rw[js g1]at hd;exact(jU hd).1
  have g3:l.drop (i+1)=r:=by rw[js g1]at hd;exact(jU hd).2
  have hx:x∈l:=by rw[<-g2];exact jf g1
  have hw:=zB (i:=i) (by omega);have hci:(i:Int)<l.length:=by omega
  have hO:=Znv x (h x hx);have ih:=Zl7 l hl h r (i+1) g3 (by omega);have et:(l.take (i+1)).map zdP=(l.take i).map zdP++[zdP x]:=by rw[ux,jr g1,g2];simp
  have kZ:(l.map zdP)[i]?=some (zdP x):=by simp[g1,g2]
  have hlen:((l.take i).map zdP).length=i:=by simp;omega
  rw[<-ih,et];have hr:(i+1)*32<=140737488355328:=by omega
  generalize (l.take i).map zdP=q at *;subst hlen;simp only[zdP]at hO kZ;rw[ZfM Ziz.eq_1];simp[hci,g1,g2,hw,kZ,hO,hr,zdP,-Int.natCast_add]
theorem Znd(l:List Zon)(hl:l.length<=1000)(h:∀x∈l,(x.parts.length<=100000)):R L Cs Zmi [.c (.jb (l.map zdP)),.c (.fn ZlM [] [])] []=some (.w (.c (.jb (l.map zdP))),[]):=by
 have hL:=Zl7 l hl h l 0 rfl (jp _);have ht:(l.map zdP).take l.length=l.map zdP:=jx (by simp);simp only[yh,qj,sl,own,jo,km,jg]at hL;rw[zUa Zmp rfl];simp[Zi6,hL,ht,zr]
theorem ZlX(l:List Sgn)(hl:l.length<=1000)(h:∀x∈l,(x.j8.length<=1000/\∀p∈x.j8,p.green.length<=100000)):∀(r:List Sgn) (i:Nat),l.drop i=r->i<=l.length ->
  Y L Cs Zik (some [5,10,9,8,1]) 2 [(5,.w (.c (sl 1 2 ((l.take i).map zeq)))),(10,.w (W i)),(9,.w (W l.length)),(8,.w (.c (.jb (l.map zeq)))),(1,.w (.c (.fn ZlK [] [])))] [gb 2,some (own 2 ((l.take i).map zeq))] =
    some (.exit 0,[(11,.w (Bo false)),(5,.w (.c (sl 1 2 (l.map zeq)))),(10,.w (W l.length)),(9,.w (W l.length)),(8,.w (.c (.jb (l.map zeq)))),(1,.w (.c (.fn ZlK [] [])))],[gb 2,some (own 2 (l.map zeq))])
 |[],i,hd,hi=>by
  have e:i=l.length:=by
   have:=congrArg List.length hd;simp at this;omega
  subst e;rw[kH,ZfM Zik.eq_1];simp
 |x::r,i,hd,hi=>by
  have g1:i<l.length:=by
   have:=congrArg List.length hd;simp at this;omega
  have g2:l[i]=x:=by rw[js g1]at hd;exact(jU hd).1
  have g3:l.drop (i+1)=r:=by rw[js g1]at hd;exact(jU hd).2
  have hx:x∈l:=by rw[<-g2];exact jf g1
  have hw:=zB (i:=i) (by omega);have hci:(i:Int)<l.length:=by omega
  have hO:=Zm4 x (h x hx).1 (h x hx).2;have ih:=ZlX l hl h r (i+1) g3 (by omega);have et:(l.take (i+1)).map zeq=(l.take i).map zeq++[zeq x]:=by rw[ux,jr g1,g2];simp
  have kZ:(l.map zeq)[i]?=some (zeq x):=by simp[g1,g2]
  have hlen:((l.take i).map zeq).length=i:=by simp;omega
  rw[<-ih,et];have hr:(i+1)*32<=140737488355328:=by omega
  generalize (l.take i).map zeq=q at *;subst hlen;simp only[zeq]at hO kZ;rw[ZfM Zik.eq_1];simp[hci,g1,g2,hw,kZ,hO,hr,zeq,-Int.natCast_add]
theorem ZmW(l:List Sgn)(hl:l.length<=1000)(h:∀x∈l,(x.j8.length<=1000/\∀p∈x.j8,p.green.length<=100000)):R L Cs Zl5 [.c (.jb (l.map zeq)),.c (.fn ZlK [] [])] []=some (.w (.c (.jb (l.map zeq))),[]):=by
 have hL:=ZlX l hl h l 0 rfl (jp _);have ht:(l.map zeq).take l.length=l.map zeq:=jx (by simp);simp only[yh,qj,sl,own,jo,km,jg]at hL;rw[zUa Zl6 rfl];simp[ZiK,hL,ht,zr]
theorem Zl8(l:List zCP)(hl:l.length<=1000)(h:∀x∈l,True):∀(r:List zCP) (i:Nat),l.drop i=r->i<=l.length ->
  Y L Cs ZiA (some [5,10,9,8,1]) 2 [(5,.w (.c (sl 1 6 ((l.take i).map zaL)))),(10,.w (W i)),(9,.w (W l.length)),(8,.w (.c (.jb (l.map zaL)))),(1,.w (.c (.fn ZlN [] [])))] [gb 6,some (own 6 ((l.take i).map zaL))] =
    some (.exit 0,[(11,.w (Bo false)),(5,.w (.c (sl 1 6 (l.map zaL)))),(10,.w (W l.length)),(9,.w (W l.length)),(8,.w (.c (.jb (l.map zaL)))),(1,.w (.c (.fn ZlN [] [])))],[gb 6,some (own 6 (l.map zaL))])
 |[],i,hd,hi=>by
  have e:i=l.length:=by
   have:=congrArg List.length hd;simp at this;omega
  subst e;rw[kH,ZfM ZiA.eq_1];simp
 |x::r,i,hd,hi=>by
  have g1:i<l.length:=by
   have:=congrArg List.length hd;simp at this;omega
  have g2:l[i]=x:=by rw[js g1]at hd;exact(jU hd).1
  have g3:l.drop (i+1)=r:=by rw[js g1]at hd;exact(jU hd).2
  have hw:=zB (i:=i) (by omega);have hci:(i:Int)<l.length:=by omega
  have hO:=Znw x;have ih:=Zl8 l hl h r (i+1) g3 (by omega);have et:(l.take (i+1)).map zaL=(l.take i).map zaL++[zaL x]:=by rw[ux,jr g1,g2];simp
  have kZ:(l.map zaL)[i]?=some (zaL x):=by simp[g1,g2]
  have hlen:((l.take i).map zaL).length=i:=by simp;omega
  rw[<-ih,et];have hr:(i+1)*48<=140737488355328:=by omega
  generalize (l.take i).map zaL=q at *;subst hlen;simp only[zaL]at hO kZ;rw[ZfM ZiA.eq_1];simp[hci,g1,g2,hw,kZ,hO,hr,zaL,-Int.natCast_add]
theorem Zne(l:List zCP)(hl:l.length<=1000)(h:∀x∈l,True):R L Cs Zmj [.c (.jb (l.map zaL)),.c (.fn ZlN [] [])] []=some (.w (.c (.jb (l.map zaL))),[]):=by
 have hL:=Zl8 l hl h l 0 rfl (jp _);have ht:(l.map zaL).take l.length=l.map zaL:=jx (by simp);simp only[yh,qj,sl,own,jo,km,jg]at hL;rw[zUa Zmq rfl];simp[Zi7,hL,ht,zr]
theorem ZnH{m:zD}{zs:List Zon}{ss:List Sgn}(hF:zKj m zs ss):R L Cs ZmR [.a (zf m)] []=some (.w (.a (zf m)),[]):=by
 have hf:=hF.full;have hz:=hf.zd.z;have hs:=hf.zd.s;have h1:=Znf m.jd (by have:=hf.yz.few;omega) (fun l hl=>by
  obtain⟨x0,y0,x1,y1,e,_⟩:=hf.one.one l hl;refine⟨by rw[e];simp,?_⟩;have:=hf.qW.small.next l hl;omega)
 have h2:=Znd zs (by have:=hF.two;omega) (fun z hq=>by have:=hf.zd.pfew z hq;omega);have h3:=ZmW ss (by have:=hf.zd.sfew;omega) (fun s hq=>by
  have:=hf.zd.ph s hq;exact⟨by have:=this.few;omega,fun p hp=>by have:=this.green p hp;omega⟩)
 have h4:=Zne m.kW hF.kW (fun _ _=>trivial);rw[zUa ZmY rfl];simp only[zk8,zjd]at hz hs;simp[ZjT,zf,hz,hs,h1,h2,h3,h4]
theorem ZmV{S:StV}{zs:List Zon}{ss:List Sgn}(hS:z6u S zs ss):R L Cs Zmv [.a (ZlR S)] []=some (.w (.a (ZlR S)),[]):=by
 have h1:=ZnH hS.full;have hr2:=zlP hS.full.full.yz hS.yc;have h2:=Zmx S.r (by omega);simp only[zf]at h1;rw[zUa Zmz rfl];simp[Zjm,h1,h2,zX]
theorem ZmX{S:StV}{zs:List Zon}{ss:List Sgn}(hS:z6u S zs ss)(hB:Zlr S zs):R L Cs Zmd [.a (ZlR S)] []=some (.w (W 0),[]):=by
 have hf:=hS.full.full;have hr2:=zlP hf.yz hS.yc;obtain⟨hon,hne,hl8⟩:=zg1 hf.qW hS.yc;have h1:=hf.qW.chk;have h2:=zQC hf.qW hS.full.fit.1;have h3:=zos S.m hf.qW.small h1 S.r (by omega);rw[hS.yc]at h3;have h4:=Pl.Au hS.car;have h5:=ZnI hS hB;have hk:=hB.kind;have hb:=hS.bud;have hs:=hS.sil;have ht:=hB.t;obtain⟨x,r,hr⟩:∃x r,S.r=x::r:=by cases h:S.r with|nil=>exact absurd h hne|cons x r=>exact⟨x,r,rfl⟩
 have hx:=hon x (by rw[hr];exact jy);obtain⟨j,rfl⟩:=jB hx.1;have hj:j<S.m.jd.length:=by omega
 rw[hr]at hk;have hk2:S.m.jd[j].kind=1:=by
  simpa [zaK,hj]using hk
 have d1:¬S.t0<0:=by omega
 have d2:¬(1099510627776:Int)<S.t0:=by omega
 have d3:¬S.kQ<0:=by omega
 have d4:¬(8:Int)<S.kQ:=by omega
 have d5:¬S.yb<0:=by omega
 have d6:¬(1000:Int)<S.yb:=by omega
 have u6:(zu S.r)[0]?=some [I (j:Int)]:=by rw[hr];rfl
 have hlen:0<S.r.length:=by rw[hr];simp
 have hg0:∀h:0<S.r.length,S.r[0]=(j:Int):=fun h=>by simp[hr]
 simp only[zf,Pl.kV]at h1 h2 h3 h4;rw[zUa Zmg rfl];simp[ZiX,h1,h2,h3,h4,h5,d1,d2,d3,d4,d5,d6,hlen,hg0,hj,zo,hk2]
def nd0(S:StV):NdV:=⟨S.t0,S.t0,S.t0,1,[0],0,[0],Zhv S ⟨S.t0,zTA 0 S.m.jd,S.e0⟩,0⟩
def rg0(S:StV):RgV:=⟨0,0,0,0,0,0,true,Zhv S ⟨S.t0,zTA 0 S.m.jd,S.e0⟩⟩
set_option maxRecDepth 100000
open Go Go.Eng Go.PlanLaw
def zT7:List Pss->Bool
 |[]=>true
 |[_]=>true
 |[p,q]=>decide (p.lo<=q.lo)&&decide (p.hi<=q.hi)&&decide (q.lo<=p.hi+300)
 |_=>false
def zTY(ps:List Pss)(z:Int):Bool:=zT7 (ps.filter fun p=>decide (p.qk=z))
theorem zT6(k:Nat)(hk:k<7)(lim r o1 o2 o3 v:Int)(ws:List zCP):zTx (zq k lim r o1 o2 o3 v ws) (fun l=>(List.range (zsP k r).length).all fun z=>zTY (zKh (zq k lim r o1 o2 o3 v ws) (zsP k r) 0 l) z)=true:=match k,hk with
 |0,_=>by kernel_rfl
 |1,_=>by kernel_rfl
 |2,_=>by kernel_rfl
 |3,_=>by kernel_rfl
 |4,_=>by kernel_rfl
 |5,_=>by kernel_rfl
 |6,_=>by kernel_rfl
theorem zT3(k:Nat)(hk:k<7)(lim r o1 o2 o3 v:Int)(ws:List zCP):zaK (zq k lim r o1 o2 o3 v ws) ((zDT (zq k lim r o1 o2 o3 v ws) 0).headD 0)=1:=match k,hk with
 |0,_=>by kernel_rfl
 |1,_=>by kernel_rfl
 |2,_=>by kernel_rfl
 |3,_=>by kernel_rfl
 |4,_=>by kernel_rfl
 |5,_=>by kernel_rfl
 |6,_=>by kernel_rfl
set_option maxRecDepth 10000
open Go Go.Eng Go.PlanLaw
theorem zTQ{m:zD}(h:zcp m):∀(r:List zfn) (i:Nat),m.jd.drop i=r->∀b∈zTA i r,VB m b/\(i:Int)<=b.lane
 |[],i,_,b,hb=>by cases hb
 |l::r,i,hd,b,hb=>by
  obtain⟨hi,hx,hd'⟩:=zL hd;unfold zTA at hb;rcases jQ.1 hb with rfl|hb
  ·have hlen:z8 m (i:Int)=l.len:=by simp[z8,hi,hx]
   have hl1:=h.Cj l (by rw[<-hx];exact jf hi);have htop:0<=zeR l.kind:=by unfold zeR;(repeat' split)<;>omega
   have hkd:zaK m (i:Int)=l.kind:=by simp[zaK,hi,hx]
   refine⟨⟨⟨by simp[zTF],by simp[zTF];omega⟩,by simp[zTF],by simp[zTF];omega,by simp[zTF,hlen],by simp[zTF],by simpa [zTF]using htop,by simp[zTF,hkd],by simp[zTF,hlen];omega⟩,by simp[zTF]⟩
  ·have:=zTQ h r (i+1) hd' b hb;exact⟨this.1,by omega⟩
theorem zTX{m:zD}(h:zcp m):∀(r:List zfn) (i:Nat),m.jd.drop i=r->(zTA i r).Pairwise Apt
 |[],i,_=>List.Pairwise.nil
 |l::r,i,hd=>by
  obtain⟨hi,hx,hd'⟩:=zL hd;unfold zTA;refine kx.2 ⟨fun b hb=>.inl ?_,zTX h r (i+1) hd'⟩;have:=(zTQ h r (i+1) hd' b hb).2;show(i:Int)<b.lane;omega
open Go Go.Eng
theorem KNd.zero{S:StV}{zs:List Zon}{ss:List Sgn}(hS:z6u S zs ss)(hB:Zlr S zs):KNd S.m ⟨S.t0,zTA 0 S.m.jd,S.e0⟩:=by
 have hg:=hS.full.full.qW;obtain⟨v1,v2⟩:=hB.v;obtain⟨s1,s2,s3⟩:=hB.s;obtain⟨q1,q2,_⟩:=hS.car;have hb:=hB.big;have ht:=hB.t;refine⟨⟨fun b hb=>(zTQ hg S.m.jd 0 rfl b hb).1,zTX hg S.m.jd 0 rfl,⟨⟨by simp only;omega,by simp only;omega,by simp only;omega⟩,⟨by simp only;omega,by simp only;omega,by simp only;omega⟩⟩⟩,by simp only;omega⟩
theorem KB.zero{S:StV}{zs:List Zon}{ss:List Sgn}(hS:z6u S zs ss)(hB:Zlr S zs):KB S.m (Zhv S ⟨S.t0,zTA 0 S.m.jd,S.e0⟩):=by
 have hb:=hB.big;have ht:=hB.t;exact⟨(KNd.zero hS hB).own,by simp only[Zhv];omega,by simp only[Zhv];omega⟩
abbrev Zn3(S:StV):List Cl:=[I S.m.version,.jb (S.m.jd.map zo),.jb S.m.qV,.jb S.m.signals,.jb (S.m.kW.map zaL),.jb (zu S.r),I S.car.len,I S.car.qQ,I S.car.qp,I S.car.v9,I S.car.ur,I S.e0.slo,I S.e0.shi,I S.e0.vlo,I S.e0.vhi,I S.t0,I S.kQ,I S.yb,.bool S.sig,
 I S.m.version,.jb (S.m.jd.map zo),.jb S.m.qV,.jb S.m.signals,.jb (S.m.kW.map zaL),.jb (zu S.r),.jb (zu (zW S.m 0 S.r)),I (zmd S.m 0 S.r),I S.car.len,.jb (zu (S.m.jd.map zfn.len)),.jb (zgU (srcs S)),
 I S.t0,I S.t0,I S.t0,I 1,.jb [[I 0]],.kP,.map 1 true,I 0,.jc,I 0,.jc,I 0,I 0,I 0,I 0,I 0]
theorem ZnJ{S:StV}{zs:List Zon}{ss:List Sgn}(hS:z6u S zs ss)(v:Nat){k:zci}(hk:k.jR.length<=300000000)(he:znd k.ego):R L Cs Zjk [Pt 0,.a (zG k)] [bxv v 46 (Zn3 S),mpB 0 [] 0]=some (.w (.a (zG (Zhv S k))),[bxv v 46 (Zn3 S),mpB 0 [] 0]):=by
 have hG:=hS.full.full.qW;obtain⟨hon,hne,hl8⟩:=zg1 hG hS.yc;have hr2:=zlP hS.full.full.yz hS.yc;have hc:=hS.car;have hlen:0<=S.car.len/\S.car.len<=20000:=by obtain⟨q1,q2,_⟩:=hc;omega
 have hes:=he.s;have h1:=zor hG S.r (by omega) hon S.car.len k.ego (by omega) hlen k.jR (by
  have:2 ^ S.r.length<=2 ^ 8:=vl (by decide) (by omega)
  calc k.jR.length*2 ^ S.r.length<=300000000*2 ^ 8:=yg hk this
   _<=100000000000:=by decide)
 have h2:=zvv k.jR (by omega);simp only[zh,zi,zch]at h1;rw[zUa Zjq rfl];simp[ZhN,zG,Zhv,h1,h2,zX,Zly]
theorem Znz{S:StV}{zs:List Zon}{ss:List Sgn}(hS:z6u S zs ss)(hB:Zlr S zs):R L Cs ZlW [.a (ZlR S)] []=some (.t [Pt 0,W 0],ndM S (nd0 S) (rg0 S) 0 [] 4 0 0):=by
 have hf:=hS.full.full;have hk:=KNd.zero hS hB;have h1:=ZmX hS hB;have h2:=ZmV hS;have h3:=zB9 hf.qW hS.yc S.car.len;have h4:=Zn6 hf.qW S.t0 S.e0;have h5:=ZnJ hS 1 (k:=⟨S.t0,zTA 0 S.m.jd,S.e0⟩) (by have:=hk.len hS;omega) hk.j.ego;have e0:(Zhv S ⟨S.t0,zTA 0 S.m.jd,S.e0⟩).tick=S.t0/\(Zhv S ⟨S.t0,zTA 0 S.m.jd,S.e0⟩).ego=S.e0:=⟨rfl,rfl⟩;unfold nd0 rg0;generalize Zhv S ⟨S.t0,zTA 0 S.m.jd,S.e0⟩=K at *;obtain⟨kt,kb,ke⟩:=K;simp only at e0;obtain⟨rfl,rfl⟩:=e0;generalize zTA 0 S.m.jd=A at *;simp only[zf,zh,zi,zG,zch,mpB,qj]at h3 h4 h5;rw[zUa ZmG rfl];simp[Zjz,h1,h2,h3,h4,h5,zr]
set_option maxRecDepth 100000
open Go Go.Eng Go.PlanLaw
def Zn5(m:zD)(zs:List Zon)(l:List Int):Bool:=!(decide (l.headD 0∈zbK m 0 m.jd)&&decide (zaK m (l.headD 0)=1))||((zKh m zs 0 l).all (fun p=>decide (10250<p.lo))&&decide (10250<=zmd m 0 l))
theorem Zn4(k:Nat)(hk:k<7)(lim r o1 o2 o3 v:Int)(ws:List zCP):zTx (zq k lim r o1 o2 o3 v ws) (Zn5 (zq k lim r o1 o2 o3 v ws) (zsP k r))=true:=match k,hk with
 |0,_=>by kernel_rfl
 |1,_=>by kernel_rfl
 |2,_=>by kernel_rfl
 |3,_=>by kernel_rfl
 |4,_=>by kernel_rfl
 |5,_=>by kernel_rfl
 |6,_=>by kernel_rfl
structure ZnL(m:zD)(zs:List Zon)(ss:List Sgn):Prop where
 full:zKj m zs ss
 con:∀l,zdA m l=0->∀z:Nat,z<zs.length->zTY (zKh m zs 0 l) z=true
 k0:zaK m ((zDT m 0).headD 0)=1
 wl:∀w∈m.kW,0<=w.yd
 beg:∀k,zaK m ((zDT m k).headD 0)=1->(∀p∈zKh m zs 0 (zDT m k),10250<p.lo)/\10250<=zmd m 0 (zDT m k)
theorem ZnA(n:Int):∃m zs ss,ZnL m zs ss/\R L Cs zY [W n] []=some (.w (.a (zf m)),[]):=by
 obtain⟨k,lim,r,o1,o2,o3,v,ws,hk,nu,hR⟩:=zA5 n;have hF:=zTs k hk nu;refine⟨_,_,_,⟨hF,fun l hr z hz=>?_,zT3 k hk lim r o1 o2 o3 v ws,fun x hx=>?_,fun j hj=>?_⟩,hR⟩
 ·exact jz.1 (zTp hF.full.yz (zT6 k hk lim r o1 o2 o3 v ws) hr) z (uJ.2 hz)
 ·obtain⟨j,hj,_,_,_,_,_,_,_,h7,_⟩:=nu.wv x hx;exact h7
 ·have hr:=zE5 hF.full hF.pos j;have hb:=zTp hF.full.yz (Zn4 k hk lim r o1 o2 o3 v ws) hr;have hne:=zFr hF.full.yz hF.pos;have hin:(zDT (zq k lim r o1 o2 o3 v ws) j).headD 0∈zbK (zq k lim r o1 o2 o3 v ws) 0 (zq k lim r o1 o2 o3 v ws).jd:=by
   have hlen:0<(zbK (zq k lim r o1 o2 o3 v ws) 0 (zq k lim r o1 o2 o3 v ws).jd).length:=kN.2 hne;unfold zDT;rw[if_neg hne,Az];have hi:=ug (j % 1048576).toNat hlen;rw[jw,jr hi];exact jf hi
  unfold Zn5 at hb;simp only[hin,hj,decide_true,Bool.and_self,Bool.not_true,uB,jl,decide_eq_true_eq,jz]at hb;exact hb
def Zns(m:zD)(k bu si dl s sp ln ac br ra:Int)(sg:Bool):StV :=
 ⟨m,zDT m k,⟨300+ln % 4700,1+ac % 30,50+br % 41,20+ra % 101,dl % 6⟩,⟨300+ln % 4700+1+s % 5000,300+ln % 4700+1+s % 5000+sp % 250,0,0⟩,0,bu % 9,si % 12,sg⟩
theorem ZnR{m:zD}{zs:List Zon}{ss:List Sgn}(hM:ZnL m zs ss){k:Int}(hk:k=0\/zaK m ((zDT m k).headD 0)=1)(bu si dl s sp ln ac br ra:Int)(sg:Bool) :
  z6u (Zns m k bu si dl s sp ln ac br ra sg) zs ss/\Zlr (Zns m k bu si dl s sp ln ac br ra sg) zs:=by
 have hkd:zaK m ((zDT m k).headD 0)=1:=by
  rcases hk with rfl|h
  ·exact hM.k0
  ·exact h
 obtain⟨b1,b2⟩:=hM.beg k hkd;have hro:=zE5 hM.full.full hM.full.pos k;unfold Zns;refine⟨⟨hM.full,hro,?_,?_,?_⟩,⟨⟨rfl,rfl⟩,?_,?_,?_,?_,hkd,?_⟩⟩
 ·unfold Car.ok;simp only;omega
 all_goals simp only
 all_goals first |omega |skip
 intro p hp;have:=b1 p hp;omega
theorem ZnS(n r dl bu si s sp ln ac br ra:Int)(sg:Bool):∃m zs ss k,ZnL m zs ss/\(k=0\/zaK m ((zDT m k).headD 0)=1) /\
  R L Cs ZlI [.a [I n,I r,I dl,I bu,I si,I s,I sp,I ln,I ac,I br,I ra,.bool sg]] []=some (.w (.a (ZlR (Zns m k bu si dl s sp ln ac br ra sg))),[]):=by
 obtain⟨m,zs,ss,hM,hR⟩:=ZnA n;obtain⟨k,hk,hRt⟩:=zT8 hM.full.full.qW r;refine⟨m,zs,ss,k,hM,hk,?_⟩;have e1:=zEW bu 9 (by omega) (by omega);have e2:=zEW si 12 (by omega) (by omega);have e3:=zEW dl 6 (by omega) (by omega);have e4:=zD0 ln 4700 (by omega) (by omega);have e5:=zD0 ac 30 (by omega) (by omega);have e6:=zD0 br 41 (by omega) (by omega);have e7:=zD0 ra 101 (by omega) (by omega);have e8:=zD0 s 5000 (by omega) (by omega);have e9:=zD0 sp 250 (by omega) (by omega);have w1:=zTd (300+ln % 4700) (by omega) (by omega);have w2:=zTd (1+ac % 30) (by omega) (by omega);have w3:=zTd (50+br % 41) (by omega) (by omega);have w4:=zTd (20+ra % 101) (by omega) (by omega);have w5:=zTd (300+ln % 4700+1) (by omega) (by omega);have w6:=zTd (300+ln % 4700+1+s % 5000) (by omega) (by omega);have w7:=zTd (300+ln % 4700+1+s % 5000+sp % 250) (by omega) (by omega);rw[zUa ZlV rfl];simp only[zf]at hR hRt;unfold Zns;simp[Zil,hR,hRt,e1,e2,e3,e4,e5,e6,e7,e8,e9,w1,w2,w3,w4,w5,w6,w7]
set_option maxRecDepth 10000
open Go Go.Eng Go.PlanLaw
theorem zUm(m:zD)(zs:List Zon)(ss:List Sgn)(r:List Int)(c:zK8)(k:zci)(p:List Int)(signals:Bool):(zOk m zs ss r c k p signals).1=true <->
  zKW m r c k=true/\uP c p=0/\(zKr m zs ss r c.len (zKh m zs 0 r) (pvV m zs r) signals p 0 k).1=none/\fbF m r p k.tick k.ego=none/\zLQ c.len (pvV m zs r) (zKr m zs ss r c.len (zKh m zs 0 r) (pvV m zs r) signals p 0 k).2=true:=by
 unfold zOk;by_cases h:zKW m r c k=true/\uP c p=0
 ·rw[if_pos h];unfold zNw zLH;generalize zKr m zs ss r c.len (zKh m zs 0 r) (pvV m zs r) signals p 0 k=V;obtain⟨v1,v2⟩:=V;cases v1 with
  |none =>
   by_cases hs:zLQ c.len (pvV m zs r) v2=true
   ·rw[if_pos hs];cases fbF m r p k.tick k.ego with
    |none=>grind [zKX]
    |some b=>simp[zKX]
   ·rw[if_neg hs];cases fbF m r p k.tick k.ego with
    |none=>grind [zKX]
    |some b=>simp[zKX]
  |some x =>
   cases fbF m r p k.tick k.ego with
   |none=>simp[zKX]
   |some b =>
    grind [zKX]
 grind
def Zjt(S:StV)(zs:List Zon)(ss:List Sgn)(k:zci)(p:List Int):Bool:=(zOk S.m zs ss S.r S.car k p S.sig).1
structure ZkT(S:StV)(zs:List Zon)(ss:List Sgn):Prop where
 ok:z6u S zs ss
 be:Zlr S zs
 con:∀z:Nat,z<zs.length->zTY (zKh S.m zs 0 S.r) z=true
 wl:∀w∈S.m.kW,0<=w.yd
theorem Zkn(kQ:Int)(ok:List Int->Bool):∀(t:List (List Int)) (i:Nat),0<=(zK5 kQ ok t i).1->∃j,j<t.length/\(zK5 kQ ok t i).1=((i+j:Nat):Int)/\ok (t.getD j [])=true
 |[],i,h=>by simp[zK5]at h
 |p::t,i,h=>by
  unfold zK5 at h ⊢;split
  ·rename_i c;rw[if_pos c]at h;simp at h
  ·rename_i c;rw[if_neg c]at h;split
   ·rename_i c2;exact⟨0,by simp,by simp,by simpa using c2⟩
   ·rename_i c2;rw[if_neg c2]at h;obtain⟨j,h1,h2,h3⟩:=Zkn kQ ok t (i+1) h;exact⟨j+1,by simp;omega,by rw[h2];omega,by simpa using h3⟩
theorem ZkW{S:StV}{zs:List Zon}{ss:List Sgn}(hc:S.car.ok)(d:NdV)(h:0<=(Zkd S zs ss d).1):Zjt S zs ss d.kr (ZiG S zs ss d).qi=true/\(ZiG S zs ss d).qi.length<=125:=by
 unfold ZiG;simp only[if_pos h];unfold Zkd zOU at h ⊢;obtain⟨j,h1,h2,h3⟩:=Zkn _ _ _ 0 h;unfold zMT;rw[h2,if_neg (by omega),show(((0+j:Nat):Int)).toNat=j by omega];constructor
 ·unfold okC at h3;simp only[jl,decide_eq_true_eq]at h3;obtain⟨⟨h4,h5⟩,h6⟩:=h3;unfold Zjt zOk;rw[if_pos ⟨h4,h5⟩];exact h6
 ·have hl:=fun up hold=>zOt hc (Zh2 d S.car.ur.toNat) d.uz (max 0 (min d.kr.ego.vhi 2000)) up hold (by omega)
  have hm:(zLj S.car (Zh2 d S.car.ur.toNat) d.uz d.kr).getD j []∈zLj S.car (Zh2 d S.car.ur.toNat) d.uz d.kr:=by
   rw[jw,jr h1];exact jf h1
  generalize (zLj S.car (Zh2 d S.car.ur.toNat) d.uz d.kr).getD j []=p at *;simp only[zLj,Pl.yA,jQ,qn,or_false]at hm;rcases hm with rfl|rfl|rfl|rfl|rfl|rfl|rfl|rfl
  ·have:=hl 6 4;omega
  ·have:=hl 6 0;omega
  ·have:=hl 3 4;omega
  ·have:=hl 3 0;omega
  ·have:=hl 1 4;omega
  ·have:=hl 1 0;omega
  ·have:=hl 0 4;omega
  ·have:=hl 0 0;omega
theorem ZoU(S:StV)(es:List Zou)(t:Int)(k:zci):znE S (znB t es) k=znE S (some (Ziq es t)) k:=by
 unfold Ziq;cases znB t es<;>rfl
set_option maxRecDepth 100000
open Go Go.Eng
structure Zoz(n:Nat)(c:Int)(es:List Zou):Prop where
 few:es.length<=n
 lt:∀b∈es.map (·.born),b<c
 nb:(es.map (·.born)).Nodup
 nk:(es.map (·.key)).Nodup
 C9:∀k∈es.map (·.key),zk0 k
theorem Zoz.nil(c:Int):Zoz 0 c []:=⟨jm _,by simp,by simp,by simp,by simp⟩
theorem Zoz.mono{n m:Nat}{c:Int}{es:List Zou}(h:Zoz n c es)(hm:n<=m):Zoz m c es:=⟨jO h.few hm,h.lt,h.nb,h.nk,h.C9⟩
theorem Zpg{t:Int}:∀{es:List Zou} {i:Nat},ZiR t es i=none->t∉es.map (·.key)
 |[],i,_=>by simp
 |e::es,i,h=>by
  unfold ZiR at h;split at h
  ·cases h
  ·rename_i hc;simp only[kC,jQ,not_or];exact⟨hc,Zpg h⟩
theorem Zpf{t:Int}{y:Hrd}:∀{es:List Zou} {i j:Nat},ZiR t es i=some (j,y)->∃k,j=i+k/\(es.map (·.key))[k]?=some t
 |[],i,j,h=>by simp[ZiR]at h
 |e::es,i,j,h=>by
  unfold ZiR at h;split at h
  ·rename_i hc;cases h;exact⟨0,rfl,by simp[hc]⟩
  ·obtain⟨k,h1,h2⟩:=Zpf h;exact⟨k+1,by omega,by simpa using h2⟩
theorem ZoN{α β:Type}{f:α->α}{g:α->β}:∀(l:List α) (i:Nat),(∀a,l[i]?=some a->g (f a)=g a)->(l.modify i f).map g=l.map g
 |[],i,_=>by simp
 |a::l,0,h=>by simp[h a rfl]
 |a::l,i+1,h=>by simp[ZoN l i (fun b hb=>h b (by simpa using hb))]
theorem Zoz.put{n:Nat}{q:Int×List Zou}(h:Zoz n q.1 q.2){t:Int}(ht:zk0 t)(y:Hrd):Zoz (n+1) (ZiZ t y q).1 (ZiZ t y q).2:=by
 obtain⟨c,es⟩:=q;obtain⟨h1,h2,h3,h4,h5⟩:=h;simp only at h1 h2 h3 h4 h5;unfold ZiZ;simp only;cases hf:ZiR t es 0 with
 |none =>
  simp only;have hn:=Zpg hf;refine⟨by simp;omega,fun b hb=>?_,?_,?_,fun k hk=>?_⟩
  ·simp only[qc,kC,qj,jN,jG]at hb;rcases hb with hb|rfl
   ·have:=h2 b hb;omega
   ·omega
  ·simp only[qc,kC,qj];refine List.nodup_append.2 ⟨h3,by simp,fun a ha b hb=>?_⟩;rw[jG.1 hb];have:=h2 a ha;omega
  ·simp only[qc,kC,qj];refine List.nodup_append.2 ⟨h4,by simp,fun a ha b hb=>?_⟩;rw[jG.1 hb];exact fun e=>hn (e ▸ ha)
  ·simp only[qc,kC,qj,jN,jG]at hk;rcases hk with hk|rfl
   ·exact h5 k hk
   ·exact ht
 |some r =>
  obtain⟨j,y'⟩:=r;simp only;obtain⟨k,hj,hk⟩:=Zpf hf;obtain rfl:j=k:=by omega
  have eb:(es.modify j fun e=>(⟨e.born,t,y⟩:Zou)).map (·.born)=es.map (·.born):=ZoN _ _ (fun a _=>rfl);have ek:(es.modify j fun e=>(⟨e.born,t,y⟩:Zou)).map (·.key)=es.map (·.key):=ZoN _ _ (fun a ha=>by
   rw[kF,ha]at hk;simpa using hk.symm)
  exact⟨by simp;omega,by simp only[eb];exact h2,by simp only[eb];exact h3,by simp only[ek];exact h4,by simp only[ek];exact h5⟩
theorem Zoz.del{n:Nat}{c:Int}{es:List Zou}(h:Zoz n c es)(t:Int):Zoz n c (ZjP t es):=by
 unfold ZjP;split
 ·rename_i i _ _;have hs:=List.eraseIdx_sublist es i;have hb:=hs.map (fun e:Zou=>e.born);have hk:=hs.map (fun e:Zou=>e.key);exact⟨jO hs.length_le h.few,fun b m=>h.lt b (hb.subset m),h.nb.sublist hb,h.nk.sublist hk,fun k m=>h.C9 k (hk.subset m)⟩
 ·exact h
theorem Zoz.fgt{n:Nat}{c:Int}(t:Int):∀(ks:List Int) {es:List Zou},Zoz n c es->Zoz n c (Zh0 t ks es)
 |[],es,h=>h
 |k::ks,es,h=>by
  show Zoz n c (Zh0 t ks (if k<t then ZjP k es else es));split
  ·exact Zoz.fgt t ks (h.del k)
  ·exact Zoz.fgt t ks h
theorem ZpF{d:NdV}(hn:0<=d.now/\d.now<=100000){st:Int}(h:Zjv d st=true):zk0 st:=by
 unfold Zjv at h;simp only[jl,decide_eq_true_eq]at h;unfold zk0;omega
theorem Zoz.he1{n:Nat}{d:NdV}(hn:0<=d.now/\d.now<=100000){q:Int×List Zou}(h:Zoz n q.1 q.2)(y:Mrk):Zoz (n+1) (he1 d q y).1 (he1 d q y).2:=by
 unfold Go.TrRun.he1;split
 ·rename_i c;exact h.put (ZpF hn c) _
 ·exact h.mono (kL n)
theorem Zoz.he2{n:Nat}{d:NdV}(hn:0<=d.now/\d.now<=100000){q:Int×List Zou}(h:Zoz n q.1 q.2)(y:Mrk):Zoz (n+1) (he2 d q y).1 (he2 d q y).2:=by
 unfold Go.TrRun.he2;split
 ·rename_i c;exact h.put (ZpF hn c) _
 ·exact h.mono (kL n)
theorem Zoz.he3{n:Nat}{d:NdV}(hn:0<=d.now/\d.now<=100000){q:Int×List Zou}(h:Zoz n q.1 q.2)(y:zZP):Zoz (n+1) (he3 d q y).1 (he3 d q y).2:=by
 unfold Go.TrRun.he3;split
 ·rename_i c;exact h.put (ZpF hn c) _
 ·exact h.mono (kL n)
theorem Zoz.fold{α:Type}{F:Int×List Zou->α->Int×List Zou}(hF:∀n q y,Zoz n q.1 q.2->Zoz (n+1) (F q y).1 (F q y).2):∀(l:List α) {n:Nat} {q:Int×List Zou},Zoz n q.1 q.2->Zoz (n+l.length) (l.foldl F q).1 (l.foldl F q).2
 |[],n,q,h=>h
 |y::l,n,q,h=>(Zoz.fold hF l (hF n q y h)).mono (by simp;omega)
theorem Zoz.heS:∀(l:List zZP) {n:Nat} {d:NdV} (hn:0<=d.now/\d.now<=100000) {q:Int×List Zou},Zoz n q.1 q.2->Zoz (n+l.length) (heS l (d,q)).2.1 (heS l (d,q)).2.2
 |[],n,d,hn,q,h=>h
 |y::l,n,d,hn,q,h=>(Zoz.heS l (d:=heD d y) (by rw[Zkp];exact hn) (h.he3 hn y)).mono (by simp;omega)
theorem Zoz.hear{n:Nat}{d:NdV}(hn:0<=d.now/\d.now<=100000){q:Int×List Zou}(h:Zoz n q.1 q.2)(x:Zjo):Zoz (n+(x.jS.length+x.ki.length+x.kc.length)) (ZiQ d q x).2.1 (ZiQ d q x).2.2:=by
 have h1:=Zoz.fold (F:=Go.TrRun.he1 d) (fun n q y h=>h.he1 hn y) x.jS h;have h2:=Zoz.fold (F:=Go.TrRun.he2 d) (fun n q y h=>h.he2 hn y) x.ki h1;exact(Zoz.heS x.kc hn h2).mono (by omega)
def ksE(es:List Zou):List Int:=zfI (es.map (·.key))
theorem Zpe:∀es:List Zou,Zo0 (es.map Zly)=some (es.map fun e=>(e.born,e.key))
 |[]=>rfl
 |e::es=>by simp[Zo0,Zly,Zpe es]
theorem Zpz{n:Nat}{c:Int}{es:List Zou}(h:Zoz n c es)(hn:n<=1000):ZjC c es (ksE es):=fun u=>by
 have e1:(es.map fun e=>(e.born,e.key)).map (·.1)=es.map (·.born):=by simp
 have e2:(es.map fun e=>(e.born,e.key)).map (·.2)=es.map (·.key):=by simp
 have vh:((es.map fun e=>(e.born,e.key)).all fun p=>decide (p.1<c/\-9223372036854775808<=p.2/\p.2<9223372036854775808))=true:=by
  rw[jz];intro p hp;obtain⟨e,he,rfl⟩:=jZ.1 hp;have:=h.C9 e.key (qL he);exact decide_eq_true ⟨h.lt e.born (qL he),by unfold zk0 at this;omega⟩
 have hl:(es.map fun e=>(e.born,e.key)).length<=1000000:=by have:=h.few;simp;omega
 have hm:=Zia (M:=[bx 1 [.map 1 true],mpB c es u]) (id:=1) rfl;rw[zrP (by kernel_rfl)];have hcs:Cs.lookup Zit=some (0,64*Zhd+1,false):=by kernel_rfl
 unfold uw;rw[hcs];have hk:ZpA Zhd (.fn Zhd [] [.ptr 0 0 0 0]) [bx 1 [.map 1 true],mpB c es u]=some (.w (.c (.jb (zu (ksE es)))),[bx 1 [.map 1 true],mpB c es u]):=by
  unfold ZpA;simp only[show Eng.look [bx 1 [.map 1 true],mpB c es u] 0 0=some { box:=true,esz:=1,rows:=[[.map 1 true]],gen:=0,fz:=false,ver:=0 } from rfl,hm,Zpe];rw[e1,e2,if_pos ⟨trivial,trivial,hl,vh,h.nb,h.nk⟩];rfl
 exact hk
theorem ZpB(x:Int):∀l:List Int,(zwP x l).length=l.length+1
 |[]=>rfl
 |y::l=>by
  unfold zwP;split
  ·rfl
  ·simp[ZpB x l]
theorem Zo1:∀l:List Int,(zfI l).length=l.length
 |[]=>rfl
 |x::l=>by simp[zfI,ZpB,Zo1 l]
theorem Zqi{n:Nat}{c:Int}{es:List Zou}(h:Zoz n c es):(ksE es).length<=n:=by
 unfold ksE;rw[Zo1,km];exact h.few
set_option maxRecDepth 10000
open Go Go.Eng
abbrev ndX(S:StV)(d:NdV)(a b:Nat):List Cl:=[I S.m.version,.jb (S.m.jd.map zo),.jb S.m.qV,.jb S.m.signals,.jb (S.m.kW.map zaL),.jb (zu S.r),I S.car.len,I S.car.qQ,I S.car.qp,I S.car.v9,I S.car.ur,I S.e0.slo,I S.e0.shi,I S.e0.vlo,I S.e0.vhi,I S.t0,I S.kQ,I S.yb,.bool S.sig,
 I S.m.version,.jb (S.m.jd.map zo),.jb S.m.qV,.jb S.m.signals,.jb (S.m.kW.map zaL),.jb (zu S.r),.jb (zu (zW S.m 0 S.r)),I (zmd S.m 0 S.r),I S.car.len,.jb (zu (S.m.jd.map zfn.len)),.jb (zgU (srcs S)),
 I d.now,I d.first,I d.last,I d.mode,.jb (zu d.qi),.ptr a 0 0 0,.map b true,I d.uz,.jb (zu d.told),I d.kr.tick,.jb (zI d.kr.jR),I d.kr.ego.slo,I d.kr.ego.shi,I d.kr.ego.vlo,I d.kr.ego.vhi,I d.looked]
theorem rg3:List.range 3=[0,1,2]:=rfl
def ZoW(S:StV)(zs:List Zon)(ss:List Sgn)(l:List Int)(k:zci):zci:=l.foldl (ZhP S zs ss) k
theorem Zpn{S:StV}{zs:List Zon}{ss:List Sgn}(hS:z6u S zs ss):∀(l:List Int) (k:zci),KB S.m k->k.tick+l.length<=100000->KB S.m (ZoW S zs ss l k)/\(ZoW S zs ss l k).tick=k.tick+l.length
 |[],k,h,ht=>⟨h,by simp[ZoW]⟩
 |a::l,k,h,ht=>by
  simp only[jk]at ht;obtain⟨h1,h2⟩:=h.step hS (by omega) a;obtain⟨h5,h6⟩:=Zpn hS l _ h1 (by rw[h2];omega);refine⟨h5,h6.trans ?_⟩;rw[h2,jk];omega
abbrev loE(i na:Nat)(A:Cl):Env:=[(21,.w (W i)),(20,.w (W na)),(19,.w (.c A)),(0,.w (Pt 0)),(3,.w (Pt 3))]
theorem Zqr(M:Mem):Y L Cs Zio (some [21,20,19,0,3]) 4 [(21,.w (W 0)),(20,.w (W 0)),(19,.w (.c .jc)),(0,.w (Pt 0)),(3,.w (Pt 3))] M=some (.exit 0,[(22,.w (Bo false)),(21,.w (W 0)),(20,.w (W 0)),(19,.w (.c .jc)),(0,.w (Pt 0)),(3,.w (Pt 3))],M):=by
 rw[ZfM Zio.eq_1];simp
theorem ZpK{S:StV}{zs:List Zon}{ss:List Sgn}(hS:z6u S zs ss)(d:NdV){g:RgV}(hg:g.na<=5)(hi0:g.ini=false)(ha:∀a∈g.jL,zk0 a)(c:Int)(es:List Zou)(v w u:Nat):∀(f i:Nat) (k:zci) (vk:Nat),i+f=g.na->KB S.m k->k.tick+f<=100000 ->
  ∃vk',Y L Cs Zio (some [21,20,19,0,3]) 4 (loE i g.na (.bsl 1 0 0 0 1 g.na 5)) (ndM S d g c es v w u++[bxv vk 6 (zG k)]) =
   some (.exit 0,(22,.w (Bo false))::loE g.na g.na (.bsl 1 0 0 0 1 g.na 5),ndM S d g c es v w u++[bxv vk' 6 (zG (ZoW S zs ss (g.jL.drop i) k))])
 |0,i,k,vk,hf,hk,ht=>by
  obtain rfl:i=g.na:=by omega
  have e:g.jL.drop g.na=[]:=qK (by simp[RgV.jL];omega);rw[e];refine⟨vk,?_⟩;obtain⟨s0,s1,s2,s3,s4,n,ini,p⟩:=g;simp only at hi0;subst hi0;rw[ZfM Zio.eq_1];simp[ZoW,Zly]
 |f+1,i,k,vk,hf,hk,ht=>by
  have hin:i<g.na:=by omega
  have e:=ZkB hg hin;have ha0:zk0 (Zir g i):=ha _ (qw (by rw[e];exact jy));obtain⟨k1,k2⟩:=hk.step hS (by omega) (Zir g i);have h1:=Zkc hS d g c es v w u hk.nd (Zir g i) ha0;obtain⟨vk',ih⟩:=ZpK hS d hg hi0 ha c es v w u f (i+1) (ZhP S zs ss k (Zir g i)) (vk+1) (by omega) k1 (by rw[k2];omega);refine⟨vk',?_⟩;have ec:ZoW S zs ss (g.jL.drop i) k=ZoW S zs ss (g.jL.drop (i+1)) (ZhP S zs ss k (Zir g i)):=by rw[e];rfl
  rw[ec,<-ih];have hw:=zB (i:=i) (by omega);have hci:(i:Int)<g.na:=by omega
  clear ih ec k1 k2;generalize ZhP S zs ss k (Zir g i)=ks at *;obtain⟨s0,s1,s2,s3,s4,n,ini,p⟩:=g;simp only at hi0 hg hin hci;subst hi0;simp only[zG]at h1;rw[ZfM Zio.eq_1];simp[ndM,ndC,rgC,mpB,bxv]at h1;have e1:(1:Int)<n<->1<n:=by omega
  have e2:(2:Int)<n<->2<n:=by omega
  have e3:(3:Int)<n<->3<n:=by omega
  have e4:(4:Int)<n<->4<n:=by omega
  rcases i with _|_|_|_|_|i
  case succ.succ.succ.succ.succ=>omega
  all_goals simp only[Zir]at h1
  all_goals have hin':=hin
  all_goals simp (config:={ failIfUnchanged:=false }) only[jF,Nat.reduceAdd]at hin'
  all_goals simp[loE,hin',e1,e2,e3,e4,h1,wk1,wk2,wk3,wk4,wk5,zG,Zly,-Int.natCast_add]
def ZoJ(S:StV)(zs:List Zon)(ss:List Sgn)(d:NdV)(g:RgV):zci:=Zhv S ⟨d.now,zTA 0 S.m.jd,(ZoW S zs ss g.jL g.jV).ego⟩
def ZoO(S:StV)(zs:List Zon)(ss:List Sgn)(d:NdV)(g:RgV):NdV:={ d with kr:=ZoJ S zs ss d g,first:=d.now,mode:=2 }
def ZoH(k:zci):RgV:=⟨0,0,0,0,0,0,true,k⟩
abbrev Zqg(S:StV)(zs:List Zon)(ss:List Sgn)(d:NdV)(g:RgV)(c:Int)(es:List Zou)(v w u a b:Nat):Mem:=[bxv v 46 (ndX S (ZoO S zs ss d g) a b),bxv w 12 (rgC 1 g),mpB c es u]
theorem ZpJ{S:StV}{zs:List Zon}{ss:List Sgn}(hS:z6u S zs ss)(d:NdV){g:RgV}(hg:ZjQ g)(ha:∀a∈g.jL,zk0 a)(hk:KB S.m g.jV)(ht:g.jV.tick+g.na<=100000)(hn:d.now=g.jV.tick+g.na)(c:Int)(es:List Zou)(v w u:Nat) :
  R L Cs ZiI [Pt 0] (ndM S d g c es v w u)=some (.w (.c (fnN ZhK)),Zqg S zs ss d g c es (v+5) w u 3 4++[bxv 0 12 (rgC 3 (ZoH (ZoJ S zs ss d g))),mpB 0 [] 0]):=by
 have hacts:g.jL.length<=g.na:=by simp[RgV.jL];omega
 obtain⟨k1,k2⟩:=Zpn (zs:=zs) (ss:=ss) hS g.jL g.jV hk (by omega);have hA:=Zn6 hS.full.full.qW d.now (ZoW S zs ss g.jL g.jV).ego;have h0:=hk.nd.t;have hkn:KNd S.m ⟨d.now,zTA 0 S.m.jd,(ZoW S zs ss g.jL g.jV).ego⟩:=⟨⟨fun b hb=>(zTQ hS.full.full.qW S.m.jd 0 rfl b hb).1,zTX hS.full.full.qW S.m.jd 0 rfl,k1.nd.j.ego⟩,by simp only;omega⟩;have hO:=ZjW hS d g c es v w u (k:=⟨d.now,zTA 0 S.m.jd,(ZoW S zs ss g.jL g.jV).ego⟩) (by have:=hkn.len hS;omega) hkn.j.ego;have eK:(ZoJ S zs ss d g).tick=d.now:=rfl;have B3:∃vk',(g.ini=true/\g.jL=[]/\vk'=0)\/(g.ini=false/\Y L Cs Zio (some [21,20,19,0,3]) 4 (loE 0 g.na (.bsl 1 0 0 0 1 g.na 5)) (ndM S d g c es v w u++[bxv 1 6 (zG g.jV)]) =
   some (.exit 0,(22,.w (Bo false))::loE g.na g.na (.bsl 1 0 0 0 1 g.na 5),ndM S d g c es v w u++[bxv vk' 6 (zG (ZoW S zs ss g.jL g.jV))])):=by
  cases hi:g.ini with
  |true=>exact⟨0,.inl ⟨rfl,by simp[RgV.jL,hg.ini hi],rfl⟩⟩
  |false =>
   obtain⟨vk',h⟩:=ZpK hS d hg.few hi ha c es v w u g.na 0 g.jV 1 (by omega) hk ht;exact⟨vk',.inr ⟨rfl,h⟩⟩
 clear hkn k1 k2;unfold Zqg ZoO;change R L Cs _ _ _=some (_,[bxv _ _ (ndX S { d with kr:=ZoJ S zs ss d g,first:=d.now,mode:=2 } 3 4),_,_]++_);have hO':R L Cs Zjk [Pt 0,.a (zG ⟨d.now,zTA 0 S.m.jd,(ZoW S zs ss g.jL g.jV).ego⟩)] (ndM S d g c es v w u)=some (.w (.a (zG (ZoJ S zs ss d g))),ndM S d g c es v w u):=hO;clear hO;obtain⟨vk',B3⟩:=B3;generalize ZoJ S zs ss d g=K at *;generalize zTA 0 S.m.jd=AL at *;obtain⟨kt,kb,ke⟩:=K;rcases B3 with⟨hi,he,-⟩ |⟨hi,hL⟩
 ·rw[he]at hA hO';have h00:=hg.ini hi;have es0:ZoW S zs ss [] g.jV=g.jV:=rfl;rw[es0]at hA hO';obtain⟨s0,s1,s2,s3,s4,n,ini,p⟩:=g;simp only at hi h00;subst hi;subst h00;simp only[zf,zG,zch]at hA hO';rw[zUa ZoK rfl];simp[ndM,ndC,rgC,mpB,bxv]at hO';simp[ZiL,Zqr,hA,hO',zG,zch,Zly,zr,ZoH,rg3]
 ·generalize ZoW S zs ss g.jL g.jV=P at *;obtain⟨pt,pb,pe⟩:=P;obtain⟨s0,s1,s2,s3,s4,n,ini,p⟩:=g;simp only at hi;subst hi;simp only[zf,zG,zch,loE,ndM,ji,je,jg]at hA hO' hL;rw[zUa ZoK rfl];simp[ndC,rgC,mpB,bxv]at hO';simp (config:={ maxSteps:=400000 }) [ZiL,hL,hA,hO',zG,zch,Zly,zr,ZoH,rg3]
abbrev tlM(S:StV)(d:NdV)(g':RgV)(v w':Nat)(g:RgV)(c:Int)(es:List Zou)(w u:Nat)(X:List Cl):Mem:=[bxv v 46 (ndX S d 4 5),bxv w 12 (rgC 1 g),mpB c es u,bx 4 X,bxv w' 12 (rgC 4 g'),mpB 0 [] 0]
theorem Zqd{S:StV}{zs:List Zon}{ss:List Sgn}{d:NdV}{g:RgV}{c:Int}{es:List Zou}{v w u:Nat}(x:Zjo)
  (hR:R L Cs ZiI [Pt 0] (ndM S d g c es v w u)=some (.w (.c (fnN ZhK)),Zqg S zs ss d g c es (v+5) w u 3 4++[bxv 0 12 (rgC 3 (ZoH (ZoJ S zs ss d g))),mpB 0 [] 0])) :
  Y L Cs zj (some [6,0]) 4 [(6,.w (.c (fnN ZiI))),(0,.w (Pt 0))] (ndM S d g c es v w u++[bx 4 (inC x)])=Y L Cs zj (some [6,0]) 4 [(6,.w (.c (fnN ZhK))),(0,.w (Pt 0))] (tlM S (ZoO S zs ss d g) (ZoH (ZoJ S zs ss d g)) (v+5) 0 g c es w u (inC x)):=by
 unfold Zqg at hR;generalize ZoO S zs ss d g=d' at *;generalize ZoJ S zs ss d g=K at *;obtain⟨s0,s1,s2,s3,s4,na,ini,p⟩:=g;rw[ZfM zj.eq_1];cases ini<;>simp[ndM,ndC,rgC,mpB,bxv,ZoH]at hR<;>simp[hR,Zly,zr,ZoH]<;>rfl
theorem Zqc{S:StV}{d d':NdV}{k:zci}{g:RgV}{c:Int}{es:List Zou}{v v' w u f f':Nat}(x:Zjo)(hv:¬v'=v)(hR:R L Cs f [Pt 0] (ndM S d (ZoH k) 0 [] v 0 0)=some (.w (.c (fnN f')),ndM S d' (ZoH k) 0 [] v' 0 0)) :
  Y L Cs zj (some [6,0]) 4 [(6,.w (.c (fnN f))),(0,.w (Pt 0))] (tlM S d (ZoH k) v 0 g c es w u (inC x))=Y L Cs zj (some [6,0]) 4 [(6,.w (.c (fnN f'))),(0,.w (Pt 0))] (tlM S d' (ZoH k) v' 0 g c es w u (inC x)):=by
 obtain⟨s0,s1,s2,s3,s4,na,ini,p⟩:=g;rw[ZfM zj.eq_1];simp[ndM,ndC,rgC,mpB,bxv,ZoH]at hR;cases ini<;>simp[hR,hv,Zly,zr,ZoH]<;>rfl
theorem Zqe{S:StV}{d d':NdV}{k:zci}{g g':RgV}{c:Int}{es:List Zou}{v v' w w' u f:Nat}(x:Zjo)(hv:¬v'=v)(hw:¬w'=0)(hi:g'.ini=false)(hR:R L Cs f [Pt 0] (ndM S d (ZoH k) 0 [] v 0 0)=some (.w (.c .qZ),ndM S d' g' 0 [] v' w' 0)) :
  Y L Cs zj (some [6,0]) 4 [(6,.w (.c (fnN f))),(0,.w (Pt 0))] (tlM S d (ZoH k) v 0 g c es w u (inC x))=some (.exit 1,[(43,.w (Bo false)),(6,.w (.c .qZ)),(0,.w (Pt 0))],tlM S d' g' v' w' g c es w u (inC x)):=by
 obtain⟨s0,s1,s2,s3,s4,na,ini,p⟩:=g;obtain⟨r0,r1,r2,r3,r4,ma,jni,p'⟩:=g';simp only at hi;subst hi;rw[ZfM zj.eq_1];simp[ndM,ndC,rgC,mpB,bxv,ZoH]at hR;cases ini<;>simp[hR,hv,hw,Zly,zr,ZoH]<;>rw[ZfM zj.eq_1]<;>simp[Zly]
structure LM(k:Nat)(S:StV)(d:NdV)(g:RgV)(c:Int)(es:List Zou)(v w u p q:Nat)(M:Mem):Prop where
 nd:M[k]?=some (bxv v 46 (ndX S d p q))
 rg:M[p]?=some (bxv w 12 (rgC p g))
 mp:M[q]?=some (mpB c es u)
 kp:k≠p
 kq:k≠q
 pq:p≠q
variable{k:Nat}{S:StV}{d d':NdV}{g g':RgV}{c c':Int}{es es':List Zou}{v v' w w' u u' p q:Nat}{M:Mem}
theorem LM.len(h:LM k S d g c es v w u p q M):k<M.length/\p<M.length/\q<M.length:=⟨(jK.1 h.nd).1,(jK.1 h.rg).1,(jK.1 h.mp).1⟩
theorem LM.drop(h:LM k S d g c es v w u p q M){n:Nat}(hn:k<n)(E:Env):LM k S d g c es v w u p q (kD n E M):=by
 unfold kD;split
 ·exact h
 ·split
  ·rename_i hb;simp only[jl]at hb;have hb:=hb.2;have h1:(M.take n)[k]?=some (bxv v 46 (ndX S d p q)):=by rw[kR hn];exact h.nd
   have h2:([ndX S d p q]:List (List Cl)).all (fun r=>r.all (Eng.below n))=true:=jz.1 hb _ (kJ h1);have h3:=jz.1 h2 _ (jy ..);have h4:Eng.below n (.ptr p 0 0 0)=true:=jz.1 h3 _ (by simp);have h5:Eng.below n (.map q true)=true:=jz.1 h3 _ (by simp);have h4:p+1<=n:=of_decide_eq_true h4;have h5:q+1<=n:=of_decide_eq_true h5;exact⟨h1,by rw[kR (by omega)];exact h.rg,by rw[kR (by omega)];exact h.mp,h.kp,h.kq,h.pq⟩
  ·exact h
theorem Zo5{ρ:Nat->Option Nat}{id:Nat}{ids:List Nat}{b b' b0:Blk}{Ms M M1:Mem}{ch:List Nat}(h0:M[id]?=some (some b0))(hr:zhj ρ b=some b')(he:b.ver=b0.ver->b'=b0)(hb:back ρ ids Ms M=some (M1,ch))(h1:M1[id]?=some (some b0)) :
  ∃ch',back ρ (id::ids) (some b::Ms) M=some (M1.set id (some b'),ch'):=by
 unfold back;simp only[h0];by_cases c:b.ver=b0.ver
 ·rw[if_pos c,hb,he c];refine⟨ch,?_⟩;obtain⟨hl,e⟩:=jK.1 h1;rw[<-e,List.set_getElem_self]
 ·rw[if_neg c,hr,hb];exact⟨_,rfl⟩
theorem LM.on(h:LM k S d g c es v w u p q M){f:Nat}{xs:List Cl}(hxs:xs=[]\/∃x:Zjo,xs=inC x){r:AV}{Ms:Mem}(hR:R L Cs f (Pt 0::if xs=[] then [] else [.a xs]) (ndM S d g c es v w u)=some (r,Ms)) :
  zx (R L Cs) ⟨true⟩ (.c (.fn f [] [])) (Pt k::if xs=[] then [] else [.a xs]) M=uG [k,p,q] M r Ms:=by
 obtain⟨h1,h2,h3,n1,n2,n3⟩:=h;have hc:collect M zfj [k] []=[k,p,q]:=by
  cases hi:g.ini<;>simp[collect,zpw,h1,h2,h3,Blk.ids,Ck,hi,n1,n2,n3,n1.symm,n2.symm,n3.symm]
 have ht:zck M (zd3 [k,p,q]) [k,p,q]=some (ndM S d g c es v w u):=by
  cases hi:g.ini<;>simp[zck,h1,h2,h3,zhj,zd3,n1,n2,n3,hi,Zly]
 have hnd:zku [k,p,q]=true:=by simp[zku,n1,n2,n3]
 have qI:zcG (R L Cs) f (Pt k::if xs=[] then [] else [.a xs]) M=uG [k,p,q] M r Ms:=by
  unfold zcG;have e1:(Pt k::if xs=[] then [] else [WV.a xs]).flatMap WV.ids=[k]:=by
   rcases hxs with rfl |⟨x,rfl⟩<;>simp[WV.ids]
  have e2:ziU (zd3 [k,p,q]) (Pt k::if xs=[] then [] else [WV.a xs])=some (Pt 0::if xs=[] then [] else [WV.a xs]):=by
   rcases hxs with rfl |⟨x,rfl⟩<;>simp[zd3]
  rw[e1,hc];simp only[hnd,if_true,e2,ht,hR]
 have hfz:zla M (Pt k::if xs=[] then [] else [WV.a xs])=some (Pt k::if xs=[] then [] else [WV.a xs]):=by
  rcases hxs with rfl |⟨x,rfl⟩<;>simp
 have hsl:(Pt k::if xs=[] then [] else [WV.a xs]).flatMap WV.sls=[]:=by
  rcases hxs with rfl |⟨x,rfl⟩<;>simp
 have hhd:zl2 f (Pt k::if xs=[] then [] else [WV.a xs])=true:=rfl;unfold zx;simp only[callee,qj,je,kT,if_true,hfz,hsl,hhd,Bool.or_true,List.isEmpty_nil];rw[qI]
abbrev ZpO(k p q:Nat)(X:List Cl)(v:Nat)(g:RgV)(c:Int)(es:List Zou)(w u:Nat)(M:Mem):Mem:=((M.set q (mpB c es u)).set p (some { box:=true,esz:=12,rows:=[rgC p g],gen:=0,fz:=false,ver:=w })).set k (some { box:=true,esz:=46,rows:=[X],gen:=0,fz:=false,ver:=v })
theorem LM.back(h:LM k S d g c es v w u p q M){ρ:Nat->Option Nat}(r0:ρ 0=some k)(r1:ρ 1=some p)(r2:ρ 2=some q){a b:Nat}{Ms:Mem}{X:List Cl}(hX:zez ρ [ndX S d' a b]=some [X])(hv:v'=v->X=ndX S d p q)(hw:w'=w->g'=g)(hu:u'=u->c'=c/\es'=es) :
  ∃ch,Eng.back ρ [k,p,q] (some { box:=true,esz:=46,rows:=[ndX S d' a b],gen:=0,fz:=false,ver:=v' }::bxv w' 12 (rgC 1 g')::mpB c' es' u'::Ms) M=some (ZpO k p q X v' g' c' es' w' u' M,ch):=by
 obtain⟨h1,h2,h3,n1,n2,n3⟩:=h;have b3:Eng.back ρ [] Ms M=some (M,[]):=by unfold Eng.back;rfl
 obtain⟨ch2,b2⟩:=Zo5 (ρ:=ρ) (b:={ box:=true,esz:=1,rows:=[I c']::es'.map Zly,gen:=0,fz:=false,ver:=u' }) (b':={ box:=true,esz:=1,rows:=[I c']::es'.map Zly,gen:=0,fz:=false,ver:=u' }) h3 (by simp[zhj,Zly]) (fun e=>by obtain⟨rfl,rfl⟩:=hu e;have:u'=u:=e;subst this;rfl) b3 h3;obtain⟨ch1,b1⟩:=Zo5 (ρ:=ρ) (b:={ box:=true,esz:=12,rows:=[rgC 1 g'],gen:=0,fz:=false,ver:=w' }) (b':={ box:=true,esz:=12,rows:=[rgC p g'],gen:=0,fz:=false,ver:=w' }) h2 (by cases hi:g'.ini<;>simp[zhj,r1,hi]) (fun e=>by have e:w'=w:=e;have:=hw e;subst e this;rfl) b2 (by rw[jD n3.symm];exact h2);obtain⟨ch0,b0⟩:=Zo5 (ρ:=ρ) (b:={ box:=true,esz:=46,rows:=[ndX S d' a b],gen:=0,fz:=false,ver:=v' }) (b':={ box:=true,esz:=46,rows:=[X],gen:=0,fz:=false,ver:=v' }) h1 (by unfold zhj;simp only[if_true];rw[hX];rfl) (fun e=>by have e:v'=v:=e;rw[hv e,e]) b1 (by rw[jD n1.symm,jD n2.symm];exact h1);exact⟨ch0,b0⟩
def Fr(k p q p' q':Nat)(M M':Mem):Prop:=∀i,i<M.length->i≠k->i≠p->i≠q->M'[i]?=M[i]?/\i≠p'/\i≠q'
theorem Zq4{X:List Cl}:(ZpO k p q X v g c es w u M).length=M.length/\∀i,i≠k->i≠p->i≠q->(ZpO k p q X v g c es w u M)[i]?=M[i]? :=
 ⟨by simp,fun i a b c=>by rw[jD (qX a),jD (qX b),jD (qX c)]⟩
theorem LM.set(h:LM k S d g c es v w u p q M):(ZpO k p q (ndX S d' p q) v' g' c' es' w' u' M).length=M.length/\LM k S d' g' c' es' v' w' u' p q (ZpO k p q (ndX S d' p q) v' g' c' es' w' u' M):=by
 obtain⟨l1,l2,l3⟩:=h.len;obtain⟨h1,h2,h3,n1,n2,n3⟩:=h;refine⟨by simp,?_,?_,?_,n1,n2,n3⟩
 ·exact jY (by simpa using l1)
 ·rw[jD n1];exact jY (by simpa using l2)
 ·rw[jD n2,jD n3];exact jY (by simpa using l3)
theorem Zo2{k p q:Nat}{M M' Ms new:Mem}{r r':AV}{ch:List Nat}{ρ:Nat->Option Nat}(hρ:∀j,ρ j=match ([k,p,q]:List Nat)[j]? with |some id=>some id |none=>some (M.length+(j-3)))(hb:Eng.back ρ [k,p,q] Ms M=some (M',ch))(hn:zgx ρ (Ms.drop 3)=some new)(hr:znn ρ r=some r'):uG [k,p,q] M r Ms=some (r',M'++new,if ch.isEmpty then .no else .wr (ch.map fun id=>(id,0,whole))):=by
 have e:ρ=(fun j=>match ([k,p,q]:List Nat)[j]? with |some id=>some id |none=>some (M.length+(j-3))):=funext hρ;have e2:uG [k,p,q] M r Ms=(match Eng.back ρ [k,p,q] Ms M,zgx ρ (Ms.drop 3),znn ρ r with
  |some (M',ch),some new,some r=>some (r,M'++new,if ch.isEmpty then .no else .wr (ch.map fun id=>(id,0,whole)))
  |_,_,_=>none):=by rw[e];rfl
 rw[e2,hb,hn,hr]
theorem LM.call(h:LM k S d g c es v w u p q M){f:Nat}{xs:List Cl}(hxs:xs=[]\/∃x:Zjo,xs=inC x){r:AV}(hr:(∃a b,r=.t [W a,W b])\/(∃n,r=.w (W n))\/(∃k,r=.w (.a (zG k)))\/(∃y,r=.w (.a (zJ4 y)))\/(∃l,r=.w (.a [.jb (zu l)])))
  (hv:v'=v->d'=d) (hw:w'=w->g'=g) (hu:u'=u->c'=c/\es'=es)
  (hR:R L Cs f (Pt 0::if xs=[] then [] else [.a xs]) (ndM S d g c es v w u)=some (r,ndM S d' g' c' es' v' w' u')) :
  ∃M' fp,zx (R L Cs) ⟨true⟩ (.c (.fn f [] [])) (Pt k::if xs=[] then [] else [.a xs]) M=some (r,M',fp)/\LM k S d' g' c' es' v' w' u' p q M'/\M'.length=M.length/\Fr k p q p q M M':=by
 obtain⟨ρ,hρ⟩:∃ρ:Nat->Option Nat,∀j,ρ j=match ([k,p,q]:List Nat)[j]? with|some id=>some id|none=>some (M.length+(j-3)):=⟨_,fun _=>rfl⟩
 have r1:ρ 1=some p:=hρ 1;have r2:ρ 2=some q:=hρ 2;obtain⟨ch,hb⟩:=h.back (d':=d') (v':=v') (hρ 0) r1 r2 (a:=1) (b:=2) (Ms:=[]) (X:=ndX S d' p q) (by simp[r1,r2]) (fun e=>by rw[hv e]) hw hu;have hrA:znn ρ r=some r:=by
  rcases hr with⟨a,b,rfl⟩ |⟨n,rfl⟩ |⟨y,rfl⟩ |⟨⟨y1,y2,y3⟩,rfl⟩ |⟨l,rfl⟩<;>simp[zG,zJ4,zJY]
 have hl:=Zo2 hρ hb (new:=[]) rfl hrA;rw[kT]at hl;obtain⟨s1,s2⟩:=h.set (d':=d') (g':=g') (c':=c') (es':=es') (v':=v') (w':=w') (u':=u');exact⟨_,_,(h.on hxs hR).trans hl,s2,s1,fun i _ a b c=>⟨Zq4.2 i a b c,b,c⟩⟩
theorem LM.lose(h:LM k S d g c es v w u p q M){x:Zjo}{r:Int}{g1:RgV}{c1:Int}{es1:List Zou}{w1 u1:Nat}(hv:v<v')(hw:w1=w->g1=g)(hu:u1=u->c1=c/\es1=es)(hi:g'.ini=false)
  (hR:R L Cs Zh5 [Pt 0,.a (inC x)] (ndM S d g c es v w u)=some (.t [W r,W 0],[bxv v' 46 (ndX S d' 3 4),bxv w1 12 (rgC 1 g1),mpB c1 es1 u1,bxv 2 12 (rgC 3 g'),mpB 0 [] 0])) :
  ∃M' fp,zx (R L Cs) ⟨true⟩ (.c (.fn Zh5 [] [])) [Pt k,.a (inC x)] M=some (.t [W r,W 0],M',fp)/\LM k S d' g' 0 [] v' 2 0 M.length (M.length+1) M'/\M.length<=M'.length/\Fr k p q M.length (M.length+1) M M':=by
 obtain⟨ρ,hρ⟩:∃ρ:Nat->Option Nat,∀j,ρ j=match ([k,p,q]:List Nat)[j]? with|some id=>some id|none=>some (M.length+(j-3)):=⟨_,fun _=>rfl⟩
 have r1:ρ 1=some p:=hρ 1;have r2:ρ 2=some q:=hρ 2;have r3:ρ 3=some M.length:=hρ 3;have r4:ρ 4=some (M.length+1):=hρ 4;obtain⟨ch,hb⟩:=h.back (d':=d') (v':=v') (hρ 0) r1 r2 (a:=3) (b:=4) (Ms:=[bxv 2 12 (rgC 3 g'),mpB 0 [] 0]) (X:=ndX S d' M.length (M.length+1)) (by simp[r3,r4]) (fun e=>by omega) hw hu;obtain⟨l1,l2,l3⟩:=h.len;have hl:=Zo2 hρ hb (new:=[bxv 2 12 (rgC M.length g'),mpB 0 [] 0]) (by simp[zgx,zhj,hi,r3]) (r:=.t [W r,W 0]) (r':=.t [W r,W 0]) (by simp);have hlen:(ZpO k p q (ndX S d' M.length (M.length+1)) v' g1 c1 es1 w1 u1 M).length=M.length:=by simp
 have hk0:(ZpO k p q (ndX S d' M.length (M.length+1)) v' g1 c1 es1 w1 u1 M)[k]?=some (bxv v' 46 (ndX S d' M.length (M.length+1))):=jY (by simpa using l1);have hfr:=(Zq4 (k:=k) (p:=p) (q:=q) (X:=ndX S d' M.length (M.length+1)) (v:=v') (g:=g1) (c:=c1) (es:=es1) (w:=w1) (u:=u1) (M:=M)).2;generalize ZpO k p q (ndX S d' M.length (M.length+1)) v' g1 c1 es1 w1 u1 M=M1 at *;exact⟨_,_,(h.on (.inr ⟨x,rfl⟩) hR).trans hl,⟨by rw[jq (by omega)];exact hk0,by rw[jX (by omega),hlen];simp,by rw[jX (by omega),hlen];simp,by omega,by omega,by omega⟩,by simp;omega,fun i hi a b c=>⟨by rw[jq (by omega)];exact hfr i a b c,by omega,by omega⟩⟩
end Go.TrRun
namespace Go.TrRun
open Go Go.Eng
def Zpr(S:StV)(zs:List Zon)(ss:List Sgn)(d2:NdV)(g1:RgV):NdV:=ZjL (ZiF S (ZoO S zs ss d2 g1))
def Zp7(S:StV)(zs:List Zon)(ss:List Sgn)(d2:NdV)(g1:RgV):RgV:=ZhJ (ZoH (ZoJ S zs ss d2 g1)) (Pl.vj d2.qi 0)
abbrev Zqz(S:StV)(d:NdV)(g':RgV)(v w':Nat)(g:RgV)(c:Int)(es:List Zou)(w u:Nat):Mem:=[bxv v 46 (ndX S d 3 4),bxv w 12 (rgC 1 g),mpB c es u,bxv w' 12 (rgC 3 g'),mpB 0 [] 0]
theorem Zqo{S:StV}{zs:List Zon}{ss:List Sgn}(hS:z6u S zs ss){d:NdV}{g:RgV}{es:List Zou}{n:Nat}(h:Zk7 S d g es n)(hn:n+300<=1000)(c:Int)(v w u:Nat)(ks:List Int)(hK:ZjC c es ks)(hks:ks.length<=1000){x:Zjo}(hx:Zlc x)(hx8:x.kc.length<=8/\x.jS.length<=8/\x.ki.length<=8)(ht:x.tick=d.now)
  {d2:NdV} {c2:Int} {es2:List Zou} (e2:hrN S zs ss d g c es ks x=(d2,(c2,es2))) (eK:(Zkz S zs ss (Zhl S zs ss es g) es2).2=false) :
  ∃v' w1 u1,(v<v'/\(w<=w1/\(w1=w->Zhl S zs ss es g=g))/\(u<=u1/\(u1=u->c2=c/\es2=es))) /\
   R L Cs Zh5 [Pt 0,.a (inC x)] (ndM S d g c es v w u)=some (.t [W (Zlu S (Zpr S zs ss d2 (Zhl S zs ss es g))),W 0],Zqz S (Zpr S zs ss d2 (Zhl S zs ss es g)) (Zp7 S zs ss d2 (Zhl S zs ss es g)) v' 2 (Zhl S zs ss es g) c2 es2 w1 u1):=by
 have hh:=h;obtain⟨hg,ha,hk,yP,hfew,BG,yE,hplan⟩:=h;have hk0:=hk.nd.t;obtain⟨g1,g2,g3,g4,g5⟩:=ZkX (zs:=zs) (ss:=ss) hS hh;have h0:=ZkQ S d g c es v w u;obtain⟨w1,u1,m1,m2,h1⟩:=Zkk hS d hg ha hk yP (by omega) c es (BG.ok (by omega)) v w u ks hK hks;have BE:=BG.fgt (Zhl S zs ss es g).jV.tick ks;obtain⟨v2,u2,⟨m3,m4⟩,Ad,h2⟩:=ZkR (S:=S) d (Zhl S zs ss es g) (c,Zh0 (Zhl S zs ss es g).jV.tick ks es) v w1 u1 n (by omega) x hx BE hn;rw[show ZiQ d (c,Zh0 (Zhl S zs ss es g).jV.tick ks es) x=(d2,(c2,es2)) from e2]at h2 Ad m3 m4;simp only at h2 Ad m3 m4;have hd:=Zla x.kc d (x.ki.foldl (he2 d) (x.jS.foldl (he1 d) (c,Zh0 (Zhl S zs ss es g).jV.tick ks es)));have hl2:=Zj2 x.kc d (x.ki.foldl (he2 d) (x.jS.foldl (he1 d) (c,Zh0 (Zhl S zs ss es g).jV.tick ks es))) yE (by omega);rw[show heS x.kc (d,x.ki.foldl (he2 d) (x.jS.foldl (he1 d) (c,Zh0 (Zhl S zs ss es g).jV.tick ks es)))=(d2,(c2,es2)) from e2]at hd hl2;simp only at hd hl2;obtain⟨AZ,Ae,-⟩:=hd;have h3:=Zkj hS d2 g1 g3 g4 (by omega) c2 es2 (Ad.ok (by omega)) v2 w1 u2;rw[eK]at h3;simp only[jE,if_false]at h3;have s1:=ZjB S d2 _ (Zhl S zs ss es g) c2 es2 v2 (v2+1) w1 u2 _ _ x (by omega) h3;have h4:=ZpJ (zs:=zs) (ss:=ss) hS { d2 with kr:=(Zkz S zs ss (Zhl S zs ss es g) es2).1 } g1 g3 g4 (by omega) (by simp only[AZ];omega) c2 es2 (v2+1) w1 u2;have s2:=Zqd x h4;have eL:ZoO S zs ss { d2 with kr:=(Zkz S zs ss (Zhl S zs ss es g) es2).1 } (Zhl S zs ss es g)=ZoO S zs ss d2 (Zhl S zs ss es g):=rfl;have eK2:ZoJ S zs ss { d2 with kr:=(Zkz S zs ss (Zhl S zs ss es g) es2).1 } (Zhl S zs ss es g)=ZoJ S zs ss d2 (Zhl S zs ss es g):=rfl;rw[eL,eK2]at s2;have hLnow:(ZoO S zs ss d2 (Zhl S zs ss es g)).now=d.now:=AZ;have DD:(ZoO S zs ss d2 (Zhl S zs ss es g)).last=d2.last:=rfl;have hLplan:(ZoO S zs ss d2 (Zhl S zs ss es g)).qi=d.qi:=Ae;obtain⟨v5,m5,h5⟩:=ZjV S (ZoO S zs ss d2 (Zhl S zs ss es g)) (ZoH (ZoJ S zs ss d2 (Zhl S zs ss es g))) 0 [] (v2+1+5) 0 0 (by rw[hLnow];omega) (by rw[DD];exact hl2);have hmode:¬(ZiF S (ZoO S zs ss d2 (Zhl S zs ss es g))).mode=1:=by
  unfold ZiF ZoO;split<;>simp
 rw[if_neg hmode]at h5;have s3:=Zqc (g:=Zhl S zs ss es g) (c:=c2) (es:=es2) (w:=w1) (u:=u2) x (by omega) h5;have hWnow:(ZiF S (ZoO S zs ss d2 (Zhl S zs ss es g))).now=d.now:=AZ;have CQ:(ZiF S (ZoO S zs ss d2 (Zhl S zs ss es g))).qi=d.qi:=Ae;have h6:=Zkl S (ZiF S (ZoO S zs ss d2 (Zhl S zs ss es g))) (g:=ZoH (ZoJ S zs ss d2 (Zhl S zs ss es g))) ⟨show 0<=5 by decide,fun _=>rfl⟩ (show 0<=4 by decide) 0 [] v5 0 0 (by rw[hWnow];omega) (by rw[CQ];omega);have s4:=Zqe (g:=Zhl S zs ss es g) (c:=c2) (es:=es2) (w:=w1) (u:=u2) x (by omega) (by omega) rfl h6;have hlp:=s1.trans (s2.trans (s3.trans s4));rw[show ZhJ (ZoH (ZoJ S zs ss d2 (Zhl S zs ss es g))) (Pl.vj (ZiF S (ZoO S zs ss d2 (Zhl S zs ss es g))).qi 0)=Zp7 S zs ss d2 (Zhl S zs ss es g) from rfl,show ZjL (ZiF S (ZoO S zs ss d2 (Zhl S zs ss es g)))=Zpr S zs ss d2 (Zhl S zs ss es g) from rfl]at hlp;have hA:=Pl.C4 (Zpr S zs ss d2 (Zhl S zs ss es g)).told (show(ZiF S (ZoO S zs ss d2 (Zhl S zs ss es g))).qi.length<=1000 by rw[CQ];omega) S.car.ur;have hi9:(Zp7 S zs ss d2 (Zhl S zs ss es g)).ini=false:=rfl;refine⟨v5+4,w1,u2,⟨by omega,m1,by omega,fun e=>?_⟩,?_⟩
 ·have e1:=m3.2 (by omega);have e2':=m2.2 (by omega);rw[e2']at e1;exact⟨congrArg Prod.fst e1,congrArg Prod.snd e1⟩
 have c1:¬8<max (x.kc.length:Int) (max x.jS.length x.ki.length):=by omega
 have c2':¬(1099511626776:Int)<=d.now:=by omega
 obtain⟨fp1,hc1⟩:=Zko (f:=Zhz) (xs:=[]) (X:=inC x) (.inl rfl) ⟨x,rfl⟩ (fun _=>rfl) m1.2 (fun q=>⟨rfl,m2.2 q⟩) (by simpa using h1);obtain⟨fp2,hc2⟩:=Zko (f:=Zh4) (xs:=inC x) (X:=inC x) (.inr ⟨x,rfl⟩) ⟨x,rfl⟩ m4.2 (fun _=>rfl) (fun q=>by
  have:=m3.2 q;exact⟨congrArg Prod.fst this,congrArg Prod.snd this⟩) (by simpa using h2)
 have hc0:zx (R L Cs) ⟨true⟩ (.c (.fn Zh3 [] [])) [Pt 0] (ndM S d g c es v w u++[bx 4 (inC x)])=some (.w (Bo false),ndM S d g c es v w u++[bx 4 (inC x)],.no):=by
  obtain⟨s0,s1,s2,s3,s4,na,ini,p⟩:=g;cases ini<;>simp[ndM,ndC,rgC,mpB,bxv]at h0<;>simp[h0,Zly]
 have hcA:∀M,zx (R L Cs) ⟨true⟩ (.c (.fn zGR [] [])) [.a [.jb (zu (Zpr S zs ss d2 (Zhl S zs ss es g)).told)],W S.car.ur] M=some (.w (W (Pl.vj (Zpr S zs ss d2 (Zhl S zs ss es g)).told S.car.ur)),M,.no):=fun M=>by
  simp[hA]
 unfold Zlu;generalize Pl.vj (Zpr S zs ss d2 (Zhl S zs ss es g)).told S.car.ur=cc at *;generalize Zp7 S zs ss d2 (Zhl S zs ss es g)=g9 at *;generalize Zpr S zs ss d2 (Zhl S zs ss es g)=d6 at *;generalize Zh0 (Zhl S zs ss es g).jV.tick ks es=es1 at *;generalize Zhl S zs ss es g=g' at *;clear hg ha hk yP BG BE Ad g1 g2 g3 g4 g5 h0 h1 h2 h3 h4 h5 h6 hK hh e2 hA m1 m2 m3 m4 m5 hl2 s1 s2 s3 s4 eL eK2 hLnow DD hLplan hmode hWnow CQ eK;obtain⟨xt,xsc,xsp,xfx⟩:=x;simp only at ht c1;subst ht;obtain⟨r0,r1,r2,r3,r4,ma,jni,p'⟩:=g9;simp only at hi9;subst hi9;obtain⟨s0,s1,s2,s3,s4,na,ini,p⟩:=g';simp only[inC,List.cons_ne_nil,reduceCtorEq,if_false,if_true,ndM,ji,je]at hc0 hc1 hc2 hlp;rw[zUa Zji rfl];cases ini<;>simp[-zx,ZhG,hc0,hc1,hc2,hlp,hcA,c1,c2',Zly,zr,tlM,rg3]
open Go Go.Eng Go.PlanLaw
theorem Zo7{n t:Int}(h:t≠n):∀(es:List Zou) (k j:Nat) (y:Hrd),ZiR n es k=some (j,y)->k<=j/\znB t (es.eraseIdx (j-k))=znB t es
 |[],k,j,y,e=>by simp[ZiR]at e
 |x::es,k,j,y,e=>by
  unfold ZiR at e;split at e
  ·rename_i c;cases e;rw[yM];refine⟨jm _,?_⟩;show znB t es=if t=x.key then _ else _
   rw[if_neg (by rw[<-c];exact h)]
  ·obtain⟨h1,h2⟩:=Zo7 h es (k+1) j y e;refine⟨by omega,?_⟩;obtain⟨m,hm⟩:∃m,j-k=m+1:=⟨j-k-1,by omega⟩;have e2:j-(k+1)=m:=by omega
   rw[e2]at h2;rw[hm,List.eraseIdx_cons_succ];unfold znB;rw[h2]
theorem ZpT{n t:Int}(h:t≠n)(es:List Zou):znB t (ZjP n es)=znB t es:=by
 unfold ZjP;cases hf:ZiR n es 0 with
 |none=>rfl
 |some r =>
  obtain⟨j,y⟩:=r;exact(Zo7 h es 0 j y hf).2
theorem Zpl{T t:Int}(h:T<=t):∀(ks:List Int) (es:List Zou),znB t (Zh0 T ks es)=znB t es
 |[],es=>rfl
 |k::ks,es=>by
  show znB t (Zh0 T ks (if k<T then ZjP k es else es))=_;rw[Zpl h ks];split
  ·exact ZpT (by omega) es
  ·rfl
theorem EsN.fold{α:Type}{F:Int×List Zou->α->Int×List Zou}{P:α->Prop}(hF:∀n q y,P y->EsN n q.2->EsN (n+1) (F q y).2):∀(l:List α) {n:Nat} {q:Int×List Zou},(∀y∈l,P y)->EsN n q.2->EsN (n+l.length) (l.foldl F q).2
 |[],n,q,_,h=>h
 |y::l,n,q,hp,h=>(EsN.fold hF l (fun z hz=>hp z (jI _ hz)) (hF n q y (hp y (jy ..)) h)).mono (by simp;omega)
theorem EsN.heS:∀(l:List zZP) {n:Nat} {d:NdV} {q:Int×List Zou},(∀y∈l,y.seen.length<=5000/\y.pts.length<=1000)->EsN n q.2->EsN (n+l.length) (heS l (d,q)).2.2
 |[],n,d,q,_,h=>h
 |y::l,n,d,q,hp,h=>(EsN.heS l (d:=heD d y) (fun z hz=>hp z (jI _ hz)) (EsN.he3 (d:=d) h (hp y (jy ..)))).mono (by simp;omega)
theorem EsN.hear{n:Nat}{d:NdV}{q:Int×List Zou}(h:EsN n q.2){x:Zjo}(hx:Zlc x):EsN (n+(x.jS.length+x.ki.length+x.kc.length)) (ZiQ d q x).2.2:=by
 have h1:=EsN.fold (F:=Go.TrRun.he1 d) (P:=fun _=>True) (fun n q y _ h=>h.he1 y) x.jS (fun _ _=>trivial) h;have h2:=EsN.fold (F:=Go.TrRun.he2 d) (P:=fun _=>True) (fun n q y _ h=>h.he2 y) x.ki (fun _ _=>trivial) h1;exact(EsN.heS x.kc hx.sc h2).mono (by omega)
def Zju(h:Hrd):List Zou:=[⟨0,0,h⟩]
def Zlb(h:Hrd):Prop:=h.jS=[]/\h.ki=[]/\∀s∈h.kc,s.pts=[]
theorem ZjS{S:StV}:∀(l:List zZP) (k:zci),(∀s∈l,s.pts=[])->(ZiH S l (k,true)).2=true
 |[],k,_=>rfl
 |x::l,k,h=>by
  have e:ZiH S (x::l) (k,true)=ZiH S l (Zhv S (Zib S.m k x),true):=by
   show ZiH S l (Zhv S (Zib S.m k x),true&&ZiS S.m (Zhv S (Zib S.m k x)) x.pts)=_;rw[h x (jy ..)];rfl
  rw[e];exact ZjS l _ fun s hs=>h s (jI _ hs)
theorem Zkg{S:StV}{h:Hrd}(q:Zlb h)(k:zci):(znE S (some h) k).2=true:=by
 obtain⟨h1,h2,h3⟩:=q;unfold znE;simp only[h1,h2];exact ZjS h.kc (Zhv S k) h3
set_option maxRecDepth 100000
open Go Go.Eng Go.PlanLaw
theorem ZkF(c:Int):ZjC c [] []:=Zpz (Zoz.nil c) (by decide)
set_option maxRecDepth 10000
open Go Go.Eng Go.PlanLaw
theorem ZkU{S:StV}{zs:List Zon}{ss:List Sgn}{k:zci}{p:List Int}(h:Zjt S zs ss k p=true):uP S.car p=0:=by
 unfold Zjt at h;exact((zUm ..).1 h).2.1
structure ZoP(p:List Int):Prop where
 C9:∀a∈p,zk0 a
 len:p.length<=125
theorem ZoP.tail{p:List Int}(h:ZoP p):ZoP (Pl.yZ p):=by
 unfold Pl.yZ;split
 ·exact⟨fun a ha=>h.C9 a (qw ha),by simp;have:=h.len;omega⟩
 grind
theorem ZoP.act{p:List Int}(h:ZoP p)(i:Int):zk0 (Pl.vj p i):=by
 unfold Pl.vj;split
 ·unfold zk0;omega
 ·cases hq:p[(max 0 (min i (p.length-1))).toNat]? with
  |none=>unfold zk0;simp
  |some x=>exact h.C9 x (kJ hq)
structure Zrc(S:StV)(d:NdV)(g:RgV)(c:Int)(es:List Zou)(n:Nat):Prop where
 nd:Zk7 S d g es n
 ent:Zoz n c es
 kb:KB S.m d.kr
 qi:ZoP d.qi
 told:ZoP d.told
variable{S:StV}{zs:List Zon}{ss:List Sgn}
structure PlN(S:StV)(d d':NdV):Prop where
 lat:d'.uz=Pl.vj d'.told 0
 pln:d'.qi=Pl.yZ d'.told
 told:d'.told=d.qi\/∃v up hold,(0<=v/\v<=2000)/\up<=20/\hold<=20/\d'.told=zJ2 S.car (Zh2 d S.car.ur.toNat) d.uz v up hold
theorem Zra(d:NdV)(K:zci):(goN S zs ss d K).qi=d.qi\/∃v up hold,(0<=v/\v<=2000)/\up<=20/\hold<=20/\(goN S zs ss d K).qi=zJ2 S.car (Zh2 d S.car.ur.toNat) d.uz v up hold:=by
 unfold goN;by_cases hm:(ZiF S { d with kr:=K }).mode=1
 ·rw[if_pos hm];by_cases h:0<=(Zkd S zs ss (ZiF S { d with kr:=K })).1
  ·right;unfold ZiG;simp only[if_pos h];unfold Zkd zOU at h ⊢;obtain⟨j,h1,h2,h3⟩:=Zkn _ _ _ 0 h;unfold zMT;rw[h2,if_neg (by omega),show(((0+j:Nat):Int)).toNat=j by omega];have vT:=jf h1;simp only[jw,jr h1,um];refine⟨max 0 (min K.ego.vhi 2000),?_⟩;simp only[Pl.yA,jQ,qn,or_false]at vT;rcases vT with h|h|h|h|h|h|h|h<;>exact⟨_,_,by omega,by decide,by decide,h⟩
  ·left;unfold ZiG;simp only[if_neg h];rfl
 ·rw[if_neg hm];exact .inl rfl
theorem Zq8(d d2:NdV)(K:zci)(hp:d2.qi=d.qi)(hl:d2.uz=d.uz):PlN S d (ZjL (goN S zs ss d2 K)):=by
 refine⟨rfl,rfl,?_⟩;have h:=Zra (S:=S) (zs:=zs) (ss:=ss) d2 K;unfold Zh2 at h ⊢;rw[hp,hl]at h;exact h
theorem Zqh(hS:z6u S zs ss){d:NdV}{g:RgV}(hg:ZjQ g)(hk:KB S.m g.jV)(hn:d.now=g.jV.tick+g.na)(ht:d.now<=100000):KB S.m (ZoJ S zs ss d g)/\(ZoJ S zs ss d g).tick=d.now:=by
 have hacts:g.jL.length=g.na:=by simp[RgV.jL];have:=hg.few;omega
 obtain⟨k1,k2⟩:=Zpn (zs:=zs) (ss:=ss) hS g.jL g.jV hk (by omega);have h0:=hk.nd.t;have hkn:KNd S.m ⟨d.now,zTA 0 S.m.jd,(ZoW S zs ss g.jL g.jV).ego⟩:=⟨⟨fun b hb=>(zTQ hS.full.full.qW S.m.jd 0 rfl b hb).1,zTX hS.full.full.qW S.m.jd 0 rfl,k1.nd.j.ego⟩,by grind⟩;have hf:=k1.far;refine⟨⟨KNd.own hkn,?_,?_⟩,rfl⟩
 ·show(ZoW S zs ss g.jL g.jV).ego.shi<=1000000000+2000*d.now
  grind
 ·show d.now<=100000
  grind
theorem Zrd(hS:z6u S zs ss){d:NdV}{K:zci}(hp:ZoP d.qi) :
  (goN S zs ss d K).now=d.now/\(goN S zs ss d K).kr=K/\(goN S zs ss d K).last=d.last/\ZoP (goN S zs ss d K).qi:=by
 unfold goN;by_cases hm:(ZiF S { d with kr:=K }).mode=1
 ·rw[if_pos hm];by_cases hf:0<=(Zkd S zs ss (ZiF S { d with kr:=K })).1
  ·obtain⟨v1,v2⟩:=ZkW hS.car (ZiF S { d with kr:=K }) hf;exact⟨rfl,rfl,rfl,(zNC (ZkU v1)).1,v2⟩
  ·have e:(ZiG S zs ss (ZiF S { d with kr:=K })).qi=d.qi:=by
    unfold ZiG;simp only[if_neg hf];rfl
   exact⟨rfl,rfl,rfl,by rw[e];exact hp⟩
 ·rw[if_neg hm];exact⟨rfl,rfl,rfl,hp⟩
def ZqB(S:StV)(d:NdV)(g:RgV)(c:Int)(es:List Zou)(v w u:Nat)(x:Zjo)(r:Int)(d':NdV)(g':RgV)(c':Int)(es':List Zou):Prop :=
 (∃v' w' u',(v<v'/\w<w'/\(u<=u'/\(u'=u->c'=c/\es'=es)))/\R L Cs Zh5 [Pt 0,.a (inC x)] (ndM S d g c es v w u)=some (.t [W r,W 0],ndM S d' g' c' es' v' w' u')) \/
 (c'=0/\es'=[]/\g'.ini=false/\∃g1 c1 es1 v' w1 u1,(v<v'/\(w<=w1/\(w1=w->g1=g))/\(u<=u1/\(u1=u->c1=c/\es1=es)))/\R L Cs Zh5 [Pt 0,.a (inC x)] (ndM S d g c es v w u)=some (.t [W r,W 0],Zqz S d' g' v' 2 g1 c1 es1 w1 u1))
def TkD(S:StV)(zs:List Zon)(ss:List Sgn)(d:NdV)(g:RgV)(c:Int)(es:List Zou)(x:Zjo)(d':NdV)(g':RgV)(c':Int)(es':List Zou):Prop :=
 (∃d2 K,hrN S zs ss d g c es (ksE es) x=(d2,c',es')/\Zkz S zs ss (Zhl S zs ss es g) es'=(K,true)/\K.tick=d.now/\KB S.m K/\d2.now=d.now/\d2.qi=d.qi/\d2.mode=d.mode/\d'=ZjL (goN S zs ss d2 K)/\g'=ZhJ (Zhl S zs ss es g) (Pl.vj (goN S zs ss d2 K).qi 0)) \/
 (∃d2 c2 es2,hrN S zs ss d g c es (ksE es) x=(d2,c2,es2)/\(Zkz S zs ss (Zhl S zs ss es g) es2).2=false/\KB S.m (ZoJ S zs ss d2 (Zhl S zs ss es g))/\(ZoJ S zs ss d2 (Zhl S zs ss es g)).tick=d.now/\d2.now=d.now/\d'=Zpr S zs ss d2 (Zhl S zs ss es g)/\g'=Zp7 S zs ss d2 (Zhl S zs ss es g)/\c'=0/\es'=[])
theorem Zrc.tick(hS:z6u S zs ss){d:NdV}{g:RgV}{c:Int}{es:List Zou}{n:Nat}(H:Zrc S d g c es n)(hn:n+300<=1000)(hd:d.now<=1000){x:Zjo}(hx:Zlc x)(hx8:x.kc.length<=8/\x.jS.length<=8/\x.ki.length<=8)(ht:x.tick=d.now)(v w u:Nat) :
  ∃d' g' c' es',Zrc S d' g' c' es' (n+24)/\d'.now=d.now+1/\PlN S d d'/\TkD S zs ss d g c es x d' g' c' es'/\ZqB S d g c es v w u x (Zlu S d') d' g' c' es':=by
 have hK:=Zpz H.ent (by omega);have hks:(ksE es).length<=1000:=jO (Zqi H.ent) (by omega);obtain⟨r1,r2,r3,r4,r5⟩:=ZkX (zs:=zs) (ss:=ss) hS H.nd;have hk0:=r4.nd.t;have hal:(Zhl S zs ss es g).jL.length=(Zhl S zs ss es g).na:=by grind [RgV.jL]
 have hd0:0<=d.now:=by omega
 have BF:=(H.ent.fgt (Zhl S zs ss es g).jV.tick (ksE es)).hear (d:=d) ⟨hd0,by omega⟩ (q:=(c,Zh0 (Zhl S zs ss es g).jV.tick (ksE es) es)) x;have CZ:=EsN.hear (d:=d) (q:=(c,Zh0 (Zhl S zs ss es g).jV.tick (ksE es) es)) (H.nd.ents.fgt (Zhl S zs ss es g).jV.tick (ksE es)) hx;have hdd:=Zla x.kc d (x.ki.foldl (he2 d) (x.jS.foldl (he1 d) (c,Zh0 (Zhl S zs ss es g).jV.tick (ksE es) es)));have hll:=Zj2 x.kc d (x.ki.foldl (he2 d) (x.jS.foldl (he1 d) (c,Zh0 (Zhl S zs ss es g).jV.tick (ksE es) es))) H.nd.last (by omega);change _ at BF;have eh:ZiQ d (c,Zh0 (Zhl S zs ss es g).jV.tick (ksE es) es) x=hrN S zs ss d g c es (ksE es) x:=rfl;have eh':heS x.kc (d,x.ki.foldl (he2 d) (x.jS.foldl (he1 d) (c,Zh0 (Zhl S zs ss es g).jV.tick (ksE es) es)))=hrN S zs ss d g c es (ksE es) x:=rfl;rw[eh]at BF CZ;rw[eh']at hdd hll;obtain⟨⟨d2,c2,es2⟩,e2⟩:∃y,hrN S zs ss d g c es (ksE es) x=y:=⟨_,rfl⟩;rw[e2]at BF CZ hdd hll;simp only at BF CZ hdd hll;obtain⟨AZ,Ae,d_first,d_mode,DF,d_told,d_know⟩:=hdd;have hent:Zoz (n+24) c2 es2:=BF.mono (by omega);have hesn:EsN (n+24) es2:=CZ.mono (by omega);have Bz:ZoP d2.qi:=by rw[Ae];exact H.qi
 by_cases hok:(Zkz S zs ss (Zhl S zs ss es g) es2).2=true
 ·obtain⟨K,eK⟩:∃K,Zkz S zs ss (Zhl S zs ss es g) es2=(K,true):=⟨_,Prod.ext rfl hok⟩;obtain⟨v',w',u',hvw,_,hR⟩:=Zlp hS H.nd hn c v w u (ksE es) hK hks hx hx8 ht e2 eK;obtain⟨k1,k2⟩:=r4.Br (S:=S) (znB (Zhl S zs ss es g).jV.tick es2);have Bp:=ZkP (zs:=zs) (ss:=ss) hS es2 (Zhl S zs ss es g).jL (znE S (znB (Zhl S zs ss es g).jV.tick es2) (Zhl S zs ss es g).jV).1 (znE S (znB (Zhl S zs ss es g).jV.tick es2) (Zhl S zs ss es g).jV).2 k1 (by grind);have Bp:KB S.m (Zkz S zs ss (Zhl S zs ss es g) es2).1/\(Zkz S zs ss (Zhl S zs ss es g) es2).1.tick=(znE S (znB (Zhl S zs ss es g).jV.tick es2) (Zhl S zs ss es g).jV).1.tick+(Zhl S zs ss es g).jL.length:=Bp;rw[eK]at Bp;simp only at Bp;have hKt:K.tick=d.now:=by grind
  obtain⟨q1,q2,q3,q4⟩:=Zrd (zs:=zs) (ss:=ss) (K:=K) hS Bz;obtain⟨a1,a2,a3,a4,a5⟩:=ZjF (g:=Zhl S zs ss es g) (by omega) (Pl.vj (goN S zs ss d2 K).qi 0);refine⟨ZjL (goN S zs ss d2 K),ZhJ (Zhl S zs ss es g) (Pl.vj (goN S zs ss d2 K).qi 0),c2,es2,⟨⟨a4,fun a ha=>?_,by grind,?_,?_,hesn,?_,?_⟩,hent,?_,q4.tail,q4⟩,?_,Zq8 d d2 K Ae DF,.inl ⟨d2,K,e2,eK,hKt,Bp.1,AZ,Ae,d_mode,rfl,rfl⟩,.inl ⟨v',w',u',hvw,hR⟩⟩
  ·rw[a1]at ha;rcases jN.1 ha with ha|ha
   ·grind
   ·rw[jG.1 ha];exact q4.act 0
  ·show(goN S zs ss d2 K).now+1=_
   grind
  ·show(goN S zs ss d2 K).now+1<=_
   grind
  ·show 0<=(goN S zs ss d2 K).last/\(goN S zs ss d2 K).last<=_
   grind
  ·exact jO q4.tail.len (by simp)
  ·show KB S.m (goN S zs ss d2 K).kr
   grind
  ·show(goN S zs ss d2 K).now+1=_
   grind
 ·obtain⟨v',w1,u1,hvw,hR⟩:=Zqo (zs:=zs) (ss:=ss) hS H.nd hn c v w u (ksE es) hK hks hx hx8 ht e2 (by grind);obtain⟨l1,l2⟩:=Zqh (zs:=zs) (ss:=ss) hS (d:=d2) r1 r4 (by grind) (by grind);have e0:(ZoH (ZoJ S zs ss d2 (Zhl S zs ss es g))).jL=[]:=rfl;obtain⟨a1,a2,a3,a4,a5⟩:=ZjF (g:=ZoH (ZoJ S zs ss d2 (Zhl S zs ss es g))) (show 0<=4 by simp) (Pl.vj d2.qi 0);rw[e0]at a1;refine⟨Zpr S zs ss d2 (Zhl S zs ss es g),Zp7 S zs ss d2 (Zhl S zs ss es g),0,[],⟨⟨a4,fun a ha=>?_,?_,?_,?_,.nil _,hll,?_⟩,(Zoz.nil 0).mono (by omega),l1,Bz.tail,Bz⟩,?_,⟨rfl,rfl,.inl Ae⟩,.inr ⟨d2,c2,es2,e2,by grind,l1,l2.trans AZ,AZ,rfl,rfl,rfl,rfl⟩,.inr ⟨rfl,rfl,a5,_,_,_,v',w1,u1,hvw,hR⟩⟩
  ·have ha:a∈(ZhJ (ZoH (ZoJ S zs ss d2 (Zhl S zs ss es g))) (Pl.vj d2.qi 0)).jL:=ha;rw[a1]at ha;rw[jG.1 ha];exact Bz.act 0
  ·show KB S.m (ZhJ (ZoH (ZoJ S zs ss d2 (Zhl S zs ss es g))) (Pl.vj d2.qi 0)).jV;rw[a3];exact l1
  ·show d2.now+1=(ZhJ (ZoH (ZoJ S zs ss d2 (Zhl S zs ss es g))) (Pl.vj d2.qi 0)).jV.tick+(ZhJ (ZoH (ZoJ S zs ss d2 (Zhl S zs ss es g))) (Pl.vj d2.qi 0)).na;rw[a3,a2];show d2.now+1=(ZoJ S zs ss d2 (Zhl S zs ss es g)).tick+((0+1:Nat):Int)
   grind
  ·show d2.now+1<=_
   grind
  ·exact jO Bz.tail.len (by simp)
  ·show d2.now+1=_
   grind
end Go.TrRun
namespace Go.TrRun
open Go Go.Eng Go.PlanLaw
def ZrI(x:Zjo)(t:Int)(h:Hrd):Hrd:=⟨h.jS++x.jS.filter (fun y=>decide (y.st=t)),h.ki++x.ki.filter (fun y=>decide (y.st=t)),h.kc++x.kc.filter (fun y=>decide (y.qo=t))⟩
theorem ZrD(d:NdV)(t:Int):∀(l:List Mrk) (q:Int×List Zou),Ziq (l.foldl (he1 d) q).2 t=if Zjv d t then { Ziq q.2 t with jS:=(Ziq q.2 t).jS++l.filter (fun y=>decide (y.st=t)) } else Ziq q.2 t
 |[],q=>by simp
 |y::l,q=>by
  rw[ka,ZrD d t l];by_cases e:y.st=t
  ·subst e;unfold he1;by_cases c:Zjv d y.st=true
   ·simp[c,Zo3]
   ·simp[c]
  ·have:Ziq (he1 d q y).2 t=Ziq q.2 t:=by
    unfold he1;split
    ·rw[Zo3,if_neg (qX e)]
    ·rfl
   rw[this];simp[e]
theorem ZrC(d:NdV)(t:Int):∀(l:List Mrk) (q:Int×List Zou),Ziq (l.foldl (he2 d) q).2 t=if Zjv d t then { Ziq q.2 t with ki:=(Ziq q.2 t).ki++l.filter (fun y=>decide (y.st=t)) } else Ziq q.2 t
 |[],q=>by simp
 |y::l,q=>by
  rw[ka,ZrC d t l];by_cases e:y.st=t
  ·subst e;unfold he2;by_cases c:Zjv d y.st=true
   ·simp[c,Zo3]
   ·simp[c]
  ·have:Ziq (he2 d q y).2 t=Ziq q.2 t:=by
    unfold he2;split
    ·rw[Zo3,if_neg (qX e)]
    ·rfl
   rw[this];simp[e]
theorem ZrF(d:NdV)(y:zZP)(t:Int):Zjv (heD d y) t=Zjv d t:=by
 unfold heD;split<;>rfl
theorem ZrB(t:Int):∀(l:List zZP) (d:NdV) (q:Int×List Zou),Ziq (heS l (d,q)).2.2 t=if Zjv d t then { Ziq q.2 t with kc:=(Ziq q.2 t).kc++l.filter (fun y=>decide (y.qo=t)) } else Ziq q.2 t
 |[],d,q=>by simp[heS]
 |y::l,d,q=>by
  show Ziq (heS l (heD d y,he3 d q y)).2.2 t=_;rw[ZrB t l,ZrF];by_cases e:y.qo=t
  ·subst e;unfold he3;by_cases c:Zjv d y.qo=true
   ·simp[c,Zo3]
   ·simp[c]
  ·have:Ziq (he3 d q y).2 t=Ziq q.2 t:=by
    unfold he3;split
    ·rw[Zo3,if_neg (qX e)]
    ·rfl
   rw[this];simp[e]
theorem Zrx(d:NdV)(q:Int×List Zou)(x:Zjo)(t:Int):Ziq (ZiQ d q x).2.2 t=if Zjv d t then ZrI x t (Ziq q.2 t) else Ziq q.2 t:=by
 unfold ZiQ;rw[ZrB,ZrC,ZrD];by_cases c:Zjv d t=true<;>simp[c,ZrI]
theorem Zrs{T t:Int}(h:T<=t)(ks:List Int)(es:List Zou):Ziq (Zh0 T ks es) t=Ziq es t:=by
 unfold Ziq;rw[Zpl h]
variable{S:StV}{zs:List Zon}{ss:List Sgn}
end Go.TrRun
namespace Go.TrRun
open Go Go.Eng Go.PlanLaw
structure Cpy(d e:NdV)(g f:RgV)(es fs:List Zou):Prop where
 nd:e=d
 jL:f.jL=g.jL
 na:f.na=g.na
 jV:f.jV=g.jV
 hrd:∀t,g.jV.tick<=t->Ziq fs t=Ziq es t
variable{S:StV}{zs:List Zon}{ss:List Sgn}
theorem Zst:∀(l:List zZP) (d:NdV) (q q':Int×List Zou),(heS l (d,q)).1=(heS l (d,q')).1
 |[],d,q,q'=>rfl
 |y::l,d,q,q'=>Zst l (heD d y) (he3 d q y) (he3 d q' y)
theorem Zsp(hS:z6u S zs ss){es fs:List Zou}:∀(l:List Int) {k:zci} (b:Bool),KB S.m k->k.tick+l.length<=100000->(∀t,k.tick<t->Ziq fs t=Ziq es t)->chN S zs ss fs l (k,b)=chN S zs ss es l (k,b)
 |[],k,b,_,_,_=>rfl
 |z::l,k,b,hk,ht,hh=>by
  simp only[jk]at ht;obtain⟨a1,a2⟩:=hk.step (zs:=zs) (ss:=ss) hS (by omega) z;have e:∀es:List Zou,chN S zs ss es (z::l) (k,b)=chN S zs ss es l ((znE S (znB (k.tick+1) es) (ZhP S zs ss k z)).1,b&&(znE S (znB (k.tick+1) es) (ZhP S zs ss k z)).2):=fun _=>rfl
  obtain⟨a3,a4⟩:=a1.Br (S:=S) (znB (k.tick+1) es);rw[e,e,ZoU S fs,hh _ (by omega),<-ZoU];exact Zsp hS l _ a3 (by rw[a4,a2];omega) fun t ht=>hh t (by rw[a4,a2]at ht;omega)
theorem Cpy.fgt(hS:z6u S zs ss){d e:NdV}{g f:RgV}{es fs:List Zou}{n m:Nat}(H:Cpy d e g f es fs)(h1:Zk7 S d g es n)(h2:Zk7 S e f fs m) :
  (Zhl S zs ss fs f).jL=(Zhl S zs ss es g).jL/\(Zhl S zs ss fs f).na=(Zhl S zs ss es g).na/\(Zhl S zs ss fs f).jV=(Zhl S zs ss es g).jV/\g.jV.tick<=(Zhl S zs ss es g).jV.tick:=by
 have hna:=H.na;unfold Zhl;by_cases c5:g.na=5
 ·rw[if_pos c5,if_pos (by rw[hna];exact c5)];have i1:g.ini=false:=by
   cases hi:g.ini with
   |false=>rfl
   |true=>have:=h1.rg.ini hi;omega
  have i2:f.ini=false:=by
   cases hi:f.ini with
   |false=>rfl
   |true=>have:=h2.rg.ini hi;omega
  have t1:=h1.jV.nd.t;have t2:=h2.jV.nd.t;have n1:=h1.now;have n2:=h2.now;have w1:=h1.few;have w2:=h2.few;obtain⟨a1,a2,a3,a4,a5,a6⟩:=Zj0 (zs:=zs) (ss:=ss) hS h1.rg.few (by omega) i1 h1.jV (by omega) es;obtain⟨b1,b2,b3,b4,b5,b6⟩:=Zj0 (zs:=zs) (ss:=ss) hS h2.rg.few (by omega) i2 h2.jV (by omega) fs;have e0:f.s0=g.s0:=by
   have:=H.jL;unfold RgV.jL at this;rw[hna,c5]at this;exact(jU this).1
  refine⟨by rw[a3,b3,H.jL],by omega,?_,by omega⟩;rw[a4,b4,e0,H.jV,ZoU S es,ZoU S fs,H.hrd _ (kS _)]
 ·rw[if_neg c5,if_neg (by rw[hna];exact c5)];exact⟨H.jL,hna,H.jV,kS _⟩
theorem Cpy.tick(hS:z6u S zs ss){d e:NdV}{g f:RgV}{c1 c2:Int}{es fs:List Zou}{n m:Nat}(H:Cpy d e g f es fs)(h1:Zrc S d g c1 es n)(h2:Zrc S e f c2 fs m){x:Zjo}
  {d' e':NdV} {g' f':RgV} {c1' c2':Int} {es' fs':List Zou} (T1:TkD S zs ss d g c1 es x d' g' c1' es') (T2:TkD S zs ss e f c2 fs x e' f' c2' fs'):Cpy d' e' g' f' es' fs':=by
 obtain rfl:=H.nd;obtain⟨q1,q2,q3,q4⟩:=H.fgt hS h1.nd h2.nd;obtain⟨r1,r2,r3,r4,r5⟩:=ZkX (zs:=zs) (ss:=ss) hS h1.nd;obtain⟨s1,s2,s3,s4,s5⟩:=ZkX (zs:=zs) (ss:=ss) hS h2.nd;have key:∀(dd ee:NdV) (cc cc':Int) (es2 fs2:List Zou),hrN S zs ss e g c1 es (ksE es) x=(dd,cc,es2)->hrN S zs ss e f c2 fs (ksE fs) x=(ee,cc',fs2)->ee=dd/\(∀t,(Zhl S zs ss es g).jV.tick<=t->Ziq fs2 t=Ziq es2 t)/\Zkz S zs ss (Zhl S zs ss fs f) fs2=Zkz S zs ss (Zhl S zs ss es g) es2:=fun dd ee cc cc' es2 fs2 u1 u2=>by
  have hd:ee=dd:=by
   have:=Zst x.kc e (x.ki.foldl (he2 e) (x.jS.foldl (he1 e) (c1,Zh0 (Zhl S zs ss es g).jV.tick (ksE es) es))) (x.ki.foldl (he2 e) (x.jS.foldl (he1 e) (c2,Zh0 (Zhl S zs ss fs f).jV.tick (ksE fs) fs)));have e1:heS x.kc (e,x.ki.foldl (he2 e) (x.jS.foldl (he1 e) (c1,Zh0 (Zhl S zs ss es g).jV.tick (ksE es) es)))=(dd,cc,es2):=u1;have e2:heS x.kc (e,x.ki.foldl (he2 e) (x.jS.foldl (he1 e) (c2,Zh0 (Zhl S zs ss fs f).jV.tick (ksE fs) fs)))=(ee,cc',fs2):=u2;rw[e1,e2]at this;exact this.symm
  have hh:∀t,(Zhl S zs ss es g).jV.tick<=t->Ziq fs2 t=Ziq es2 t:=fun t ht=>by
   have a1:=Zrx e (c1,Zh0 (Zhl S zs ss es g).jV.tick (ksE es) es) x t;have a2:=Zrx e (c2,Zh0 (Zhl S zs ss fs f).jV.tick (ksE fs) fs) x t;rw[show ZiQ e (c1,Zh0 (Zhl S zs ss es g).jV.tick (ksE es) es) x=(dd,cc,es2) from u1,Zrs ht]at a1;rw[show ZiQ e (c2,Zh0 (Zhl S zs ss fs f).jV.tick (ksE fs) fs) x=(ee,cc',fs2) from u2,Zrs (by rw[q3];exact ht)]at a2;rw[a1,a2,H.hrd t (by omega)]
  refine⟨hd,hh,?_⟩;unfold Zkz;rw[q1,q3,ZoU S fs2,hh _ (kS _),<-ZoU];obtain⟨k1,k2⟩:=r4.Br (S:=S) (znB (Zhl S zs ss es g).jV.tick es2);have hal:(Zhl S zs ss es g).jL.length<=5:=by simp[RgV.jL];omega
  have hfew:=h1.nd.few;have eta:znE S (znB (Zhl S zs ss es g).jV.tick es2) (Zhl S zs ss es g).jV=((znE S (znB (Zhl S zs ss es g).jV.tick es2) (Zhl S zs ss es g).jV).1,(znE S (znB (Zhl S zs ss es g).jV.tick es2) (Zhl S zs ss es g).jV).2):=rfl;rw[eta];exact Zsp hS _ _ k1 (by rw[k2];omega) fun t ht=>hh t (by rw[k2]at ht;omega)
 rcases T1 with⟨d2,K,x1,x2,x3,x4,x5,x6,x7,rfl,rfl⟩ |⟨d2,cc,es2,x1,x2,_,_,_,rfl,rfl,rfl,rfl⟩
 ·rcases T2 with⟨e2,J,y1,y2,y3,y4,y5,y6,y7,rfl,rfl⟩ |⟨e2,cc',fs2,y1,y2,_⟩
  ·obtain⟨rfl,hh,he⟩:=key d2 e2 c1' c2' es' fs' x1 y1;rw[x2,y2]at he;obtain rfl:J=K:=congrArg Prod.fst he;obtain⟨a1,a2,a3,a4,a5⟩:=ZjF (g:=Zhl S zs ss es g) (by omega) (Pl.vj (goN S zs ss e2 J).qi 0);obtain⟨b1,b2,b3,b4,b5⟩:=ZjF (g:=Zhl S zs ss fs f) (by omega) (Pl.vj (goN S zs ss e2 J).qi 0);exact⟨rfl,by rw[a1,b1,q1],by rw[a2,b2,q2],by rw[a3,b3,q3],fun t ht=>by rw[a3]at ht;exact hh t ht⟩
  ·obtain⟨rfl,hh,he⟩:=key d2 e2 c1' cc' es' fs2 x1 y1;rw[x2]at he;rw[he]at y2;cases y2
 ·rcases T2 with⟨e2,J,y1,y2,y3,y4,y5,y6,y7,rfl,rfl⟩ |⟨e2,cc',fs2,y1,y2,_,_,_,rfl,rfl,rfl,rfl⟩
  ·obtain⟨rfl,hh,he⟩:=key d2 e2 cc c2' es2 fs' x1 y1;rw[y2]at he;rw[<-he]at x2;cases x2
  ·obtain⟨rfl,hh,he⟩:=key d2 e2 cc cc' es2 fs2 x1 y1;have hl:ZoJ S zs ss e2 (Zhl S zs ss fs f)=ZoJ S zs ss e2 (Zhl S zs ss es g):=by
    unfold ZoJ;rw[q1,q3]
   have hr:Zp7 S zs ss e2 (Zhl S zs ss fs f)=Zp7 S zs ss e2 (Zhl S zs ss es g):=by
    unfold Zp7;rw[hl]
   have hn:Zpr S zs ss e2 (Zhl S zs ss fs f)=Zpr S zs ss e2 (Zhl S zs ss es g):=by
    unfold Zpr ZoO;rw[hl]
   rw[hr,hn];exact⟨rfl,rfl,rfl,rfl,fun _ _=>rfl⟩
end Go.TrRun
namespace Go.TrRun
open Go Go.Eng Go.PlanLaw
def Zr6(g:RgV):RgV:={ g with ini:=false }
theorem ZsS(g:RgV)(w:Nat)(hn:g.na<=5)(hi:g.ini=true->g.na=0)(hk:g.jV.jR.length<=100000000000):R L Cs Zsb [Pt 0] [bxv w 12 (rgC 0 g)]=some (.w (Pt 1),[bxv w 12 (rgC 0 g),bxv 1 12 (rgC 1 (Zr6 g))]):=by
 have h1:=z1I g.jV hk;obtain⟨s0,s1,s2,s3,s4,na,ini,p⟩:=g;simp only at hn hi hk;obtain⟨pt,pb,pe⟩:=p;simp only[zG]at h1;have hn':(na:Int)<=5:=by omega
 rw[zUa Zsc rfl];cases ini with
 |false=>simp[ZrS,h1,rgC,Zr6,hn,hn']
 |true =>
  have:=hi rfl;subst this;simp[ZrS,h1,rgC,Zr6]
theorem ZsH(S:StV)(d:NdV)(g:RgV)(c:Int)(es:List Zou)(v w u:Nat)(hn:g.na<=5)(hi:g.ini=true->g.na=0)(hk:g.jV.jR.length<=100000000000) :
  R L Cs Zr1 [Pt 0] (ndM S d g c es v w u)=some (.w (Pt 3),ndM S d g c es v w u++[bxv 3 46 (ndX S d 4 5),bxv 1 12 (rgC 4 (Zr6 g)),mpB c es 0]):=by
 have h0:=ZkQ S d g c es v w u;have h1:=ZsS g w hn hi hk;have hcs:Cs.lookup ZrN=some (0,64*Zhd+2,false):=by kernel_rfl
 have hcl:∀M:Mem,M[0]?=some (mpB c es u)->R L Cs ZrN [.c (.map 0 true)] M=some (.w (.c (.map M.length true)),M++[mpB c es 0]):=fun M hM=>by
  have hm:=Zia (M:=M) (id:=0) hM;rw[zrP (by kernel_rfl)];unfold uw;rw[hcs];have:Zpq (.map 0 true) M=some (.w (.c (.map M.length true)),M++[mpB c es 0]):=by
   unfold Zpq;simp only[hm]
  exact this
 have h2:=hcl [mpB c es u] rfl;obtain⟨s0,s1,s2,s3,s4,na,ini,p⟩:=g;obtain⟨pt,pb,pe⟩:=p;simp only[rgC,Zr6,bxv]at h1 ⊢;simp only[jk,jo,jF,ji,je]at h2;rw[zUa Zsa rfl];cases ini<;>simp[ndM,ndC,rgC,mpB,bxv]at h0 h1 h2<;>simp[ZrU,h0,h1,h2,Zly,rg3,rgC,Zr6,bxv,mpB]
open Go Go.Eng
variable{k:Nat}{S:StV}{zs:List Zon}{ss:List Sgn}{d:NdV}{g:RgV}{c:Int}{es:List Zou}{v w u p q:Nat}{M:Mem}
theorem ZpX(S:StV)(d:NdV)(g:RgV)(c:Int)(es:List Zou)(v w u:Nat)(x:Zjo)(hn:0<=d.now/\d.now<=100000)(hx:x.tick=d.now->8<x.kc.length\/8<x.jS.length\/8<x.ki.length) :
  ∃e,(e=0->False)/\(x.tick=d.now->e=8)/\R L Cs Zh5 [Pt 0,.a (inC x)] (ndM S d g c es v w u)=some (.t [W 0,W e],ndM S d g c es v w u):=by
 have h0:=ZkQ S d g c es v w u;have hc0:zx (R L Cs) ⟨true⟩ (.c (.fn Zh3 [] [])) [Pt 0] (ndM S d g c es v w u++[bx 4 (inC x)])=some (.w (Bo false),ndM S d g c es v w u++[bx 4 (inC x)],.no):=by
  obtain⟨s0,s1,s2,s3,s4,na,ini,p⟩:=g;cases ini<;>simp[ndM,ndC,rgC,mpB,bxv]at h0<;>simp[h0,Zly]
 obtain⟨xt,xsc,xsp,xfx⟩:=x;simp only at hx;simp only[inC,ndM,ji,je]at hc0;by_cases ht:xt=d.now
 ·subst ht;have c1:8<max (xsc.length:Int) (max xsp.length xfx.length):=by have:=hx rfl;omega
  refine⟨8,by omega,fun _=>rfl,?_⟩;rw[zUa Zji rfl];obtain⟨s0,s1,s2,s3,s4,na,ini,p⟩:=g;cases ini<;>simp[-zx,ZhG,hc0,c1,Zly,zr]
 ·refine⟨11,by omega,fun e=>absurd e ht,?_⟩;rw[zUa Zji rfl];obtain⟨s0,s1,s2,s3,s4,na,ini,p⟩:=g;cases ini<;>simp[-zx,ZhG,hc0,ht,Zly,zr]
theorem LM.same(h:LM k S d g c es v w u p q M){f:Nat}{r:AV}(hr:(∃n,r=.w (W n))\/(∃k,r=.w (.a (zG k)))\/(∃y,r=.w (.a (zJ4 y)))\/(∃l,r=.w (.a [.jb (zu l)])))
  (hR:R L Cs f [Pt 0] (ndM S d g c es v w u)=some (r,ndM S d g c es v w u)) :
  zx (R L Cs) ⟨true⟩ (.c (.fn f [] [])) [Pt k] M=some (r,M,.no):=by
 refine(h.on (.inl rfl) hR).trans ?_;obtain⟨h1,h2,h3,n1,n2,n3⟩:=h;obtain⟨ρ,hρ⟩:∃ρ:Nat->Option Nat,∀j,ρ j=match ([k,p,q]:List Nat)[j]? with|some id=>some id|none=>some (M.length+(j-3)):=⟨_,fun _=>rfl⟩
 have hrA:znn ρ r=some r:=by
  rcases hr with⟨n,rfl⟩ |⟨y,rfl⟩ |⟨⟨y1,y2,y3⟩,rfl⟩ |⟨l,rfl⟩<;>simp[zG,zJ4,zJY]
 have hb:Eng.back ρ [k,p,q] (ndM S d g c es v w u) M=some (M,[]):=by simp[Eng.back,h1,h2,h3]
 have hl:=Zo2 hρ hb (new:=[]) rfl hrA
 rwa [kT]at hl
theorem Zrr(hS:z6u S zs ss){n:Nat}(H:Zrc S d g c es n)(hn:n+300<=1000)(hd:d.now<=1000){x:Zjo}(hx:Zlc x)(h:LM k S d g c es v w u p q M)(ht:x.tick=d.now)(h8:x.kc.length<=8/\x.jS.length<=8/\x.ki.length<=8) :
  ∃d' g' c' es' v' w' u' p' q' M' fp,Zrc S d' g' c' es' (n+24)/\LM k S d' g' c' es' v' w' u' p' q' M'/\M.length<=M'.length/\zx (R L Cs) ⟨true⟩ (.c (.fn Zh5 [] [])) [Pt k,.a (inC x)] M=some (.t [W (Zlu S d'),W 0],M',fp) /\
   d'.now=d.now+1/\PlN S d d'/\TkD S zs ss d g c es x d' g' c' es'/\Fr k p q p' q' M M':=by
 obtain⟨d',g',c',es',H',BA,hP,hD,hT⟩:=H.tick (zs:=zs) (ss:=ss) hS hn hd hx h8 ht v w u;rcases hT with⟨v',w',u',hvw,hR⟩ |⟨rfl,rfl,hi,g1,c1,es1,v',w1,u1,⟨hv,hw,hu⟩,hR⟩
 ·obtain⟨M',fp,hC,hM,hl,hF⟩:=h.call (v':=v') (w':=w') (u':=u') (f:=Zh5) (xs:=inC x) (.inr ⟨x,rfl⟩) (.inl ⟨_,_,rfl⟩) (fun e=>absurd e (by omega)) (fun e=>absurd e (by omega)) hvw.2.2.2 (by simpa using hR);exact⟨d',g',c',es',v',w',u',p,q,M',fp,H',hM,by omega,by simpa using hC,BA,hP,hD,hF⟩
 ·obtain⟨M',fp,hC,hM,hl,hF⟩:=h.lose hv hw.2 hu.2 hi hR;exact⟨d',g',0,[],_,_,_,_,_,M',fp,H',hM,hl,hC,BA,hP,hD,hF⟩
theorem Zru{n:Nat}(H:Zrc S d g c es n){x:Zjo}(h:LM k S d g c es v w u p q M)(hno:¬(x.tick=d.now/\x.kc.length<=8/\x.jS.length<=8/\x.ki.length<=8)) :
  ∃e M' fp,LM k S d g c es v w u p q M'/\M'.length=M.length/\zx (R L Cs) ⟨true⟩ (.c (.fn Zh5 [] [])) [Pt k,.a (inC x)] M=some (.t [W 0,W e],M',fp)/\e≠0/\(x.tick=d.now->e=8)/\Fr k p q p q M M':=by
 have yP:0<=d.now/\d.now<=100000:=by
  have h1:=H.nd.now;have h2:=H.nd.jV.nd.t;have h3:=H.nd.few;omega
 obtain⟨e,he,he8,hR⟩:=ZpX S d g c es v w u x yP (fun ht=>by omega);obtain⟨M',fp,hC,hM,hl,hF⟩:=h.call (v':=v) (w':=w) (u':=u) (f:=Zh5) (xs:=inC x) (.inr ⟨x,rfl⟩) (.inl ⟨_,_,rfl⟩) (fun _=>rfl) (fun _=>rfl) (fun _=>⟨rfl,rfl⟩) (by simpa using hR);exact⟨e,M',fp,hM,hl,by simpa using hC,he,he8,hF⟩
theorem Zrc.mono{n m:Nat}(H:Zrc S d g c es n)(h:n<=m):Zrc S d g c es m:=⟨⟨H.nd.rg,H.nd.jL,H.nd.jV,H.nd.now,H.nd.few,H.nd.ents.mono h,H.nd.last,H.nd.qi⟩,H.ent.mono h,H.kb,H.qi,H.told⟩
theorem ZpW(hS:z6u S zs ss){n:Nat}(H:Zrc S d g c es n)(hn:n+300<=1000)(hd:d.now<=1000){x:Zjo}(hx:Zlc x)(h:LM k S d g c es v w u p q M) :
  ∃r e d' g' c' es' v' w' u' p' q' M' fp,Zrc S d' g' c' es' (n+24)/\d'.now<=d.now+1/\LM k S d' g' c' es' v' w' u' p' q' M'/\M.length<=M'.length/\zx (R L Cs) ⟨true⟩ (.c (.fn Zh5 [] [])) [Pt k,.a (inC x)] M=some (.t [W r,W e],M',fp) /\
   ((e=0/\r=Zlu S d'/\d'.now=d.now+1/\PlN S d d'/\TkD S zs ss d g c es x d' g' c' es')\/(e≠0/\(x.tick=d.now->e=8)/\d'=d/\g'=g/\c'=c/\es'=es))/\Fr k p q p' q' M M':=by
 by_cases hok:x.tick=d.now/\x.kc.length<=8/\x.jS.length<=8/\x.ki.length<=8
 ·obtain⟨d',g',c',es',v',w',u',p',q',M',fp,H',hM,hl,hC,BA,hP,hD,hF⟩:=Zrr (zs:=zs) (ss:=ss) hS H hn hd hx h hok.1 hok.2;exact⟨_,_,d',g',c',es',v',w',u',p',q',M',fp,H',by omega,hM,hl,hC,.inl ⟨rfl,rfl,BA,hP,hD⟩,hF⟩
 ·obtain⟨e,M',fp,hM,hl,hC,he,he8,hF⟩:=Zru H h hok;exact⟨_,_,d,g,c,es,v,w,u,p,q,M',fp,H.mono (by omega),by omega,hM,by omega,hC,.inr ⟨he,he8,rfl,rfl,rfl,rfl⟩,hF⟩
end Go.TrRun
namespace Go.TrRun
open Go Go.Eng
abbrev ZoM(l:List Zjo):List (List Cl):=l.map inC
def Zpi(y:zZP):Bool:=decide (y.seen.length<=8)&&decide (y.pts.length<=20)
def ZpQ(x:Zjo):Bool:=decide (x.kc.length<=10)&&(decide (x.jS.length<=10)&&(decide (x.ki.length<=10)&&x.kc.all Zpi))
def smB(l:List Zjo):Bool:=decide (l.length<=8)&&l.all ZpQ
theorem ZoY{α:Type}{l r:List α}{x:α}{i:Nat}(h:l.drop i=x::r):∃hi:i<l.length,l[i]=x/\l.drop (i+1)=r:=by
 have hi:i<l.length:=by
  have:=congrArg List.length h;simp at this;omega
 rw[js hi]at h;exact⟨hi,(jU h).1,(jU h).2⟩
theorem ZoS{α:Type}{l:List α}{i:Nat}(h:l.drop i=[])(hi:i<=l.length):i=l.length:=by
 have:=congrArg List.length h;simp at this;omega
theorem Zpw(l:List Zjo)(i:Nat)(hi:i<l.length)(hs:l[i].kc.length<=10):∀(r:List zZP) (k:Nat),l[i].kc.drop k=r->k<=l[i].kc.length ->
  Y L Cs ZoD (some [0,3,4]) 0 [(0,.w (.c (.jb (ZoM l)))),(3,.w (W i)),(4,.w (W k))] [] =
    if r.all Zpi then some (.exit 2,[(46,.w (Bo false)),(3,.w (W i)),(0,.w (.c (.jb (ZoM l)))),(4,.w (W l[i].kc.length))],[]) else some (.ret,[(2,.w (Bo false))],[])
 |[],k,hd,hk=>by
  obtain rfl:=ZoS hd hk;rw[ZfM ZoD.eq_1];simp[hi,ZlG]
 |y::r,k,hd,hk=>by
  obtain⟨hk1,hy,hd'⟩:=ZoY hd;have hw:=zB (i:=k) (by omega);have ih:=Zpw l i hi hs r (k+1) hd' (by omega);have hck:(k:Int)<l[i].kc.length:=by omega
  rw[qz];rw[ZfM ZoD.eq_1];by_cases c1:y.seen.length<=8
  ·by_cases c2:y.pts.length<=20
   ·have e:Zpi y=true:=by simp[Zpi,c1,c2]
    rw[e,uA,<-ih];have d1:¬(8:Int)<y.seen.length:=by omega
    have d2:¬(20:Int)<y.pts.length:=by omega
    simp[hi,ZlG,hck,hk1,hy,hw,zX6,zWx,zWs,d1,d2]
   ·have e:Zpi y=false:=by simp[Zpi,c2]
    rw[e,yW,if_neg (by simp)];have d1:¬(8:Int)<y.seen.length:=by omega
    have d2:(20:Int)<y.pts.length:=by omega
    simp[hi,ZlG,hck,hk1,hy,zX6,zWx,zWs,d1,d2]
  ·have e:Zpi y=false:=by simp[Zpi,c1]
   rw[e,yW,if_neg (by simp)];have d1:(8:Int)<y.seen.length:=by omega
   simp[hi,ZlG,hck,hk1,hy,zX6,zWx,zWs,d1]
theorem Zpv(l:List Zjo)(hl:l.length<=8):∀(r:List Zjo) (i:Nat),l.drop i=r->i<=l.length ->
  Y L Cs ZoC (some [3,0]) 0 [(3,.w (W i)),(0,.w (.c (.jb (ZoM l))))] [] =
    if r.all ZpQ then some (.exit 0,[(11,.w (Bo false)),(3,.w (W l.length)),(0,.w (.c (.jb (ZoM l))))],[]) else some (.ret,[(2,.w (Bo false))],[])
 |[],i,hd,hi=>by
  obtain rfl:=ZoS hd hi;rw[ZfM ZoC.eq_1];simp
 |x::r,i,hd,hi=>by
  obtain⟨hi1,hx,hd'⟩:=ZoY hd;have hw:=zB (i:=i) (by omega);have ih:=Zpv l hl r (i+1) hd' (by omega);have hci:(i:Int)<l.length:=by omega
  rw[qz];rw[ZfM ZoC.eq_1];unfold ZpQ;by_cases c1:x.kc.length<=10
  ·have d1:¬(10:Int)<x.kc.length:=by omega
   by_cases c2:x.jS.length<=10
   ·have d2:¬(10:Int)<x.jS.length:=by omega
    by_cases c3:x.ki.length<=10
    ·have d3:¬(10:Int)<x.ki.length:=by omega
     have h1:=Zpw l i hi1 (by rw[hx];exact c1) x.kc 0 (by rw[hx];rfl) (jp _);simp only[jg]at h1;simp only[c1,c2,c3,decide_true,uA];by_cases c4:x.kc.all Zpi=true
     ·rw[if_pos c4]at h1;rw[c4,uA];unfold ZpQ at ih;rw[<-ih];simp[hi1,hx,hci,hw,d1,d2,d3,ZlG,zb,h1]
     ·rw[if_neg c4]at h1;simp only[vz]at c4;rw[c4,yW,if_neg (by simp)];simp[hi1,hx,hci,hw,d1,d2,d3,ZlG,zb,h1]
    ·have d3:(10:Int)<x.ki.length:=by omega
     simp[c3,hi1,hx,hci,hw,d1,d2,d3,ZlG,zb]
   ·have d2:(10:Int)<x.jS.length:=by omega
    simp[c2,hi1,hx,hci,hw,d1,d2,ZlG,zb]
  ·have d1:(10:Int)<x.kc.length:=by omega
   simp[c1,hi1,hx,hci,hw,d1,ZlG,zb]
theorem Zqn(l:List Zjo):R L Cs ZoI [.c (.jb (ZoM l))] []=some (.w (Bo (smB l)),[]):=by
 rw[zUa ZoV rfl];unfold smB;by_cases h:l.length<=8
 ·have h2:=Zpv l h l 0 rfl (jp _);simp only[jg]at h2;have d:¬(8:Int)<l.length:=by omega
  rw[decide_eq_true h,uA];by_cases c:l.all ZpQ=true
  ·rw[if_pos c]at h2;rw[c];simp[ZoB,d,h2]
  ·rw[if_neg c]at h2;simp only[vz]at c;rw[c];simp[ZoB,d,h2]
 ·have d:(8:Int)<l.length:=by omega
  rw[decide_eq_false h,yW];simp[ZoB,d]
def w64(n:Int):Int:=IntKind.i64.wrap n
def ZoR(t:Int)(x:Mrk):Mrk:=⟨w64 (x.st+t),x.lo,x.hi⟩
def Zo8(t:Int)(x:zZP):zZP:=⟨w64 (x.qo+t),x.seen,x.pts⟩
def shI(t:Int)(x:Zjo):Zjo:=⟨w64 (x.tick+t),x.kc.map (Zo8 t),x.jS.map (ZoR t),x.ki.map (ZoR t)⟩
abbrev z4:List Cl:=[I 0,.jc,.jc,.jc]
abbrev shM(x:Zjo)(t:Int)(s1 s2 s3:Cl)(v:Nat)(G:Mem):Mem:=bx 4 (inC x)::bx 4 z4::bxv v 4 [I t,s1,s2,s3]::G
inductive LsN (n:Nat) (G:Mem):List (List Cl)->Cl->Prop
 |nil:LsN n G [] .jc
 |own (j:Nat) (hj:n<=j) (rows:List (List Cl)) (h0:rows≠[]) (h:G[j]?=some (some (own 3 rows))):LsN n G rows (.slice (j+3) rows.length 3 0 rows.length none)
theorem LsN.uV{n m:Nat}{G G':Mem}{rows:List (List Cl)}{s:Cl}(h:LsN n G rows s)(hk:∀k,k<G.length->G'[k]?=G[k]?)(hn:m<=n):LsN m G' rows s:=by
 cases h with
 |nil=>exact .nil
 |own j hj _ h0 h=>grind [own,List.getElem?_eq_some_iff]
theorem ZoX{x:Zjo}{t:Int}{s1 s2 s3:Cl}{v n:Nat}{G:Mem}{E:Env}(hn:3<=n)(h:Eng.below n s1=false\/Eng.below n s2=false\/Eng.below n s3=false):kD n E (shM x t s1 s2 s3 v G)=shM x t s1 s2 s3 v G:=by
 unfold kD;split
 ·rfl
 ·rw[if_neg];intro hb;simp only[jl]at hb;obtain⟨m,rfl⟩:∃m,n=m+3:=⟨n-3,by omega⟩
  simp_all
abbrev Zp3(i:Nat)(t:Int):Env:=[(7,.w (W i)),(4,.w (Pt 1)),(1,.w (W t)),(2,.w (Pt 0)),(5,.w (Pt 2))]
theorem Zpb(x:Zjo)(t t':Int)(s1 s3:Cl)(hs:x.jS.length<=100)(G0:Mem):∀(r:List Mrk) (i v:Nat) (s2:Cl) (G:Mem),x.jS.drop i=r->i<=x.jS.length->LsN G0.length G (zb ((x.jS.take i).map (ZoR t))) s2->G0.length<=G.length->(∀k,k<G0.length->G[k]?=G0[k]?) ->
  ∃v' S' G',Y L Cs Zox (some [7,4,1,2,5]) (G0.length+3) (Zp3 i t) (shM x t' s1 s2 s3 v G)=some (.exit 2,(55,.w (Bo false))::Zp3 x.jS.length t,(shM x t' s1 S' s3 v' G'))/\LsN G0.length G' (zb (x.jS.map (ZoR t))) S'/\G0.length<=G'.length/\(∀k,k<G0.length->G'[k]?=G0[k]?)
 |[],i,v,s2,G,hd,hi,hL,hg,hk=>by
  obtain rfl:=ZoS hd hi;refine⟨v,s2,G,?_,by rw[kH]at hL;exact hL,hg,hk⟩;rw[ZfM Zox.eq_1];simp[inC,zb,ZjO]
 |y::r,i,v,s2,G,hd,hi,hL,hg,hk=>by
  obtain⟨hi1,hy,hd'⟩:=ZoY hd;have hw:=zB (i:=i) (by omega);have hci:(i:Int)<x.jS.length:=by omega
  have htk:zb ((x.jS.take (i+1)).map (ZoR t))=zb ((x.jS.take i).map (ZoR t))++[[I (w64 (y.st+t)),I y.lo,I y.hi]]:=by
   rw[qJ hi1,hy];simp[zb,ZoR,ZjO]
  have hln:(zb ((x.jS.take i).map (ZoR t))).length=i:=by simp[zb];omega
  generalize zb ((x.jS.take i).map (ZoR t))=rows at hL htk hln;cases hL with
  |nil =>
   obtain rfl:i=0:=by simpa using hln.symm
   have hdr:kD (G0.length+3) (Zp3 1 t) (shM x t' s1 (.slice ((G.length+1)+3) 1 3 0 1 none) s3 (v+1) (G++[some (own 3 [[I (w64 (y.st+t)),I y.lo,I y.hi]]),some (own 3 [[I (w64 (y.st+t)),I y.lo,I y.hi]])]))=(shM x t' s1 (.slice ((G.length+1)+3) 1 3 0 1 none) s3 (v+1) (G++[some (own 3 [[I (w64 (y.st+t)),I y.lo,I y.hi]]),some (own 3 [[I (w64 (y.st+t)),I y.lo,I y.hi]])])):=ZoX (by omega) (.inr (.inl (by simp[Eng.below,yq];omega)));obtain⟨v',S',G',ih,h1,h2,h3⟩:=Zpb x t t' s1 s3 hs G0 r 1 (v+1) (.slice ((G.length+1)+3) 1 3 0 1 none) (G++[some (own 3 [[I (w64 (y.st+t)),I y.lo,I y.hi]]),some (own 3 [[I (w64 (y.st+t)),I y.lo,I y.hi]])]) hd' (by omega) (by
    rw[htk];exact .own (G.length+1) (by omega) _ (by simp) (by simp[own])) (by simp;omega) (fun k hk'=>by rw[jq (by omega)];exact hk k hk')
   refine⟨v',S',G',?_,h1,h2,h3⟩;rw[<-ih,<-hdr];rw[ZfM Zox.eq_1];simp[-kD,inC,zb,ZjO,hi1,hy,wk1,own,w64]<;>rfl
  |own j hj _ h0 hG =>
   have hjl:=(jK.1 hG).1;have hi0:i≠0:=fun e=>h0 (jM (hln.trans e))
   have hj2:∀N:Mem,(G++N)[j]?=some (some (own 3 rows)):=fun N=>by rw[jq hjl];exact hG
   have hr:(i+1)*24<=140737488355328:=by omega
   have htr:List.take i rows=rows:=by rw[<-hln];exact kH
   rw[hln];have hdr:kD (G0.length+3) (Zp3 (i+1) t) (shM x t' s1 (.slice (j+3) (i+1) 3 0 (i+1) none) s3 (v+1) ((G++[some (own 3 [[I (w64 (y.st+t)),I y.lo,I y.hi]])]).set j (some (own 3 (rows++[[I (w64 (y.st+t)),I y.lo,I y.hi]])))))=(shM x t' s1 (.slice (j+3) (i+1) 3 0 (i+1) none) s3 (v+1) ((G++[some (own 3 [[I (w64 (y.st+t)),I y.lo,I y.hi]])]).set j (some (own 3 (rows++[[I (w64 (y.st+t)),I y.lo,I y.hi]]))))):=ZoX (by omega) (.inr (.inl (by simp[Eng.below,yq];omega)));obtain⟨v',S',G',ih,h1,h2,h3⟩:=Zpb x t t' s1 s3 hs G0 r (i+1) (v+1) (.slice (j+3) (i+1) 3 0 (i+1) none) ((G++[some (own 3 [[I (w64 (y.st+t)),I y.lo,I y.hi]])]).set j (some (own 3 (rows++[[I (w64 (y.st+t)),I y.lo,I y.hi]])))) hd' (by omega) (by
    rw[htk];have:=LsN.own (n:=G0.length) (G:=(G++[some (own 3 [[I (w64 (y.st+t)),I y.lo,I y.hi]])]).set j (some (own 3 (rows++[[I (w64 (y.st+t)),I y.lo,I y.hi]])))) j hj (rows++[[I (w64 (y.st+t)),I y.lo,I y.hi]]) (by simp) (jY (by simp;omega));simpa [hln]using this) (by simp;omega) (fun k hk'=>by rw[jD (by omega),jq (by omega)];exact hk k hk')
   refine⟨v',S',G',?_,h1,h2,h3⟩;rw[<-ih,<-hdr];rw[ZfM Zox.eq_1];simp[-kD,inC,zb,ZjO,hi1,hci,hy,hw,own,w64,hj2,hln,hr,htr]<;>rfl
abbrev Zp2(i:Nat)(t:Int):Env:=[(8,.w (W i)),(4,.w (Pt 1)),(1,.w (W t)),(2,.w (Pt 0)),(5,.w (Pt 2))]
theorem Zpa(x:Zjo)(t t':Int)(s1 s2:Cl)(hs:x.ki.length<=100)(G0:Mem):∀(r:List Mrk) (i v:Nat) (s3:Cl) (G:Mem),x.ki.drop i=r->i<=x.ki.length->LsN G0.length G (zb ((x.ki.take i).map (ZoR t))) s3->G0.length<=G.length->(∀k,k<G0.length->G[k]?=G0[k]?) ->
  ∃v' S' G',Y L Cs Zow (some [8,4,1,2,5]) (G0.length+3) (Zp2 i t) (shM x t' s1 s2 s3 v G)=some (.exit 4,(88,.w (Bo false))::Zp2 x.ki.length t,(shM x t' s1 s2 S' v' G'))/\LsN G0.length G' (zb (x.ki.map (ZoR t))) S'/\G0.length<=G'.length/\(∀k,k<G0.length->G'[k]?=G0[k]?)
 |[],i,v,s3,G,hd,hi,hL,hg,hk=>by
  obtain rfl:=ZoS hd hi;refine⟨v,s3,G,?_,by rw[kH]at hL;exact hL,hg,hk⟩;rw[ZfM Zow.eq_1];simp[inC,zb,ZjO]
 |y::r,i,v,s3,G,hd,hi,hL,hg,hk=>by
  obtain⟨hi1,hy,hd'⟩:=ZoY hd;have hw:=zB (i:=i) (by omega);have hci:(i:Int)<x.ki.length:=by omega
  have htk:zb ((x.ki.take (i+1)).map (ZoR t))=zb ((x.ki.take i).map (ZoR t))++[[I (w64 (y.st+t)),I y.lo,I y.hi]]:=by
   rw[qJ hi1,hy];simp[zb,ZoR,ZjO]
  have hln:(zb ((x.ki.take i).map (ZoR t))).length=i:=by simp[zb];omega
  generalize zb ((x.ki.take i).map (ZoR t))=rows at hL htk hln;cases hL with
  |nil =>
   obtain rfl:i=0:=by simpa using hln.symm
   have hdr:kD (G0.length+3) (Zp2 1 t) (shM x t' s1 s2 (.slice ((G.length+1)+3) 1 3 0 1 none) (v+1) (G++[some (own 3 [[I (w64 (y.st+t)),I y.lo,I y.hi]]),some (own 3 [[I (w64 (y.st+t)),I y.lo,I y.hi]])]))=(shM x t' s1 s2 (.slice ((G.length+1)+3) 1 3 0 1 none) (v+1) (G++[some (own 3 [[I (w64 (y.st+t)),I y.lo,I y.hi]]),some (own 3 [[I (w64 (y.st+t)),I y.lo,I y.hi]])])):=ZoX (by omega) (.inr (.inr (by simp[Eng.below,yq];omega)));obtain⟨v',S',G',ih,h1,h2,h3⟩:=Zpa x t t' s1 s2 hs G0 r 1 (v+1) (.slice ((G.length+1)+3) 1 3 0 1 none) (G++[some (own 3 [[I (w64 (y.st+t)),I y.lo,I y.hi]]),some (own 3 [[I (w64 (y.st+t)),I y.lo,I y.hi]])]) hd' (by omega) (by
    rw[htk];exact .own (G.length+1) (by omega) _ (by simp) (by simp[own])) (by simp;omega) (fun k hk'=>by rw[jq (by omega)];exact hk k hk')
   refine⟨v',S',G',?_,h1,h2,h3⟩;rw[<-ih,<-hdr];rw[ZfM Zow.eq_1];simp[-kD,inC,zb,ZjO,hi1,hy,wk1,own,w64]<;>rfl
  |own j hj _ h0 hG =>
   have hjl:=(jK.1 hG).1;have hi0:i≠0:=fun e=>h0 (jM (hln.trans e))
   have hj2:∀N:Mem,(G++N)[j]?=some (some (own 3 rows)):=fun N=>by rw[jq hjl];exact hG
   have hr:(i+1)*24<=140737488355328:=by omega
   have htr:List.take i rows=rows:=by rw[<-hln];exact kH
   rw[hln];have hdr:kD (G0.length+3) (Zp2 (i+1) t) (shM x t' s1 s2 (.slice (j+3) (i+1) 3 0 (i+1) none) (v+1) ((G++[some (own 3 [[I (w64 (y.st+t)),I y.lo,I y.hi]])]).set j (some (own 3 (rows++[[I (w64 (y.st+t)),I y.lo,I y.hi]])))))=(shM x t' s1 s2 (.slice (j+3) (i+1) 3 0 (i+1) none) (v+1) ((G++[some (own 3 [[I (w64 (y.st+t)),I y.lo,I y.hi]])]).set j (some (own 3 (rows++[[I (w64 (y.st+t)),I y.lo,I y.hi]]))))):=ZoX (by omega) (.inr (.inr (by simp[Eng.below,yq];omega)));obtain⟨v',S',G',ih,h1,h2,h3⟩:=Zpa x t t' s1 s2 hs G0 r (i+1) (v+1) (.slice (j+3) (i+1) 3 0 (i+1) none) ((G++[some (own 3 [[I (w64 (y.st+t)),I y.lo,I y.hi]])]).set j (some (own 3 (rows++[[I (w64 (y.st+t)),I y.lo,I y.hi]])))) hd' (by omega) (by
    rw[htk];have:=LsN.own (n:=G0.length) (G:=(G++[some (own 3 [[I (w64 (y.st+t)),I y.lo,I y.hi]])]).set j (some (own 3 (rows++[[I (w64 (y.st+t)),I y.lo,I y.hi]])))) j hj (rows++[[I (w64 (y.st+t)),I y.lo,I y.hi]]) (by simp) (jY (by simp;omega));simpa [hln]using this) (by simp;omega) (fun k hk'=>by rw[jD (by omega),jq (by omega)];exact hk k hk')
   refine⟨v',S',G',?_,h1,h2,h3⟩;rw[<-ih,<-hdr];rw[ZfM Zow.eq_1];simp[-kD,inC,zb,ZjO,hi1,hci,hy,hw,own,w64,hj2,hln,hr,htr]<;>rfl
abbrev Zp4(i:Nat)(t:Int):Env:=[(6,.w (W i)),(4,.w (Pt 1)),(1,.w (W t)),(2,.w (Pt 0)),(5,.w (Pt 2))]
theorem Zpc(x:Zjo)(t t':Int)(s2 s3:Cl)(hs:x.kc.length<=100)(G0:Mem)(hsz:∀y∈x.kc,y.seen.length<=5000/\y.pts.length<=1000):∀(r:List zZP) (i v:Nat) (s1:Cl) (G:Mem),x.kc.drop i=r->i<=x.kc.length->LsN G0.length G (ZlG ((x.kc.take i).map (Zo8 t))) s1->G0.length<=G.length->(∀k,k<G0.length->G[k]?=G0[k]?) ->
  ∃v' S' G',Y L Cs Zoy (some [6,4,1,2,5]) (G0.length+3) (Zp4 i t) (shM x t' s1 s2 s3 v G)=some (.exit 0,(18,.w (Bo false))::Zp4 x.kc.length t,(shM x t' S' s2 s3 v' G'))/\LsN G0.length G' (ZlG (x.kc.map (Zo8 t))) S'/\G0.length<=G'.length/\(∀k,k<G0.length->G'[k]?=G0[k]?)
 |[],i,v,s1,G,hd,hi,hL,hg,hk=>by
  obtain rfl:=ZoS hd hi;refine⟨v,s1,G,?_,by rw[kH]at hL;exact hL,hg,hk⟩;rw[ZfM Zoy.eq_1];simp[inC,ZlG,zX6,zWx,zWs,zX]
 |y::r,i,v,s1,G,hd,hi,hL,hg,hk=>by
  obtain⟨hi1,hy,hd'⟩:=ZoY hd;have hw:=zB (i:=i) (by omega);have hci:(i:Int)<x.kc.length:=by omega
  have htk:ZlG ((x.kc.take (i+1)).map (Zo8 t))=ZlG ((x.kc.take i).map (Zo8 t))++[[I (w64 (y.qo+t)),.jb (zWx y.seen),.jb (zWs y.pts)]]:=by
   rw[qJ hi1,hy];simp[ZlG,Zo8,zX6]
  have hln:(ZlG ((x.kc.take i).map (Zo8 t))).length=i:=by simp[ZlG];omega
  have hy2:=hsz y (by rw[<-hy];exact jf hi1);have q1:y.seen.length*24<=140737488355328:=by omega
  have q2:y.pts.length*24<=140737488355328:=by omega
  have q3:List.take y.seen.length (List.map zWX y.seen)=List.map zWX y.seen:=jx (by simp);have q4:List.take y.pts.length (List.map zYi y.pts)=List.map zYi y.pts:=jx (by simp);generalize ZlG ((x.kc.take i).map (Zo8 t))=rows at hL htk hln;cases hL with
  |nil =>
   obtain rfl:i=0:=by simpa using hln.symm
   have hdr:kD (G0.length+3) (Zp4 1 t) (shM x t' (.slice ((G.length+3)+3) 1 3 0 1 none) s2 s3 (v+1) (G++[some { box:=false,esz:=3,rows:=zWx y.seen,gen:=y.seen.length,fz:=true,ver:=y.seen.length+1 },some { box:=false,esz:=3,rows:=zWs y.pts,gen:=y.pts.length,fz:=true,ver:=y.pts.length+1 },some (own 3 [[I (w64 (y.qo+t)),.jb (zWx y.seen),.jb (zWs y.pts)]]),some (own 3 [[I (w64 (y.qo+t)),.jb (zWx y.seen),.jb (zWs y.pts)]])]))=(shM x t' (.slice ((G.length+3)+3) 1 3 0 1 none) s2 s3 (v+1) (G++[some { box:=false,esz:=3,rows:=zWx y.seen,gen:=y.seen.length,fz:=true,ver:=y.seen.length+1 },some { box:=false,esz:=3,rows:=zWs y.pts,gen:=y.pts.length,fz:=true,ver:=y.pts.length+1 },some (own 3 [[I (w64 (y.qo+t)),.jb (zWx y.seen),.jb (zWs y.pts)]]),some (own 3 [[I (w64 (y.qo+t)),.jb (zWx y.seen),.jb (zWs y.pts)]])])):=ZoX (by omega) (.inl (by simp[Eng.below,yq];omega));obtain⟨v',S',G',ih,h1,h2,h3⟩:=Zpc x t t' s2 s3 hs G0 hsz r 1 (v+1) (.slice ((G.length+3)+3) 1 3 0 1 none) (G++[some { box:=false,esz:=3,rows:=zWx y.seen,gen:=y.seen.length,fz:=true,ver:=y.seen.length+1 },some { box:=false,esz:=3,rows:=zWs y.pts,gen:=y.pts.length,fz:=true,ver:=y.pts.length+1 },some (own 3 [[I (w64 (y.qo+t)),.jb (zWx y.seen),.jb (zWs y.pts)]]),some (own 3 [[I (w64 (y.qo+t)),.jb (zWx y.seen),.jb (zWs y.pts)]])]) hd' (by omega) (by
    rw[htk];exact .own (G.length+3) (by omega) _ (by simp) (by simp[own])) (by simp;omega) (fun k hk'=>by rw[jq (by omega)];exact hk k hk')
   refine⟨v',S',G',?_,h1,h2,h3⟩;rw[<-ih,<-hdr];rw[ZfM Zoy.eq_1];by_cases c1:y.seen=[]<;>by_cases c2:y.pts=[]<;>simp[-kD,inC,ZlG,zX6,zWx,zWs,zX,hi1,hy,wk1,own,w64,q1,q2,q3,q4,c1,c2]<;>rfl
  |own j hj _ h0 hG =>
   have hjl:=(jK.1 hG).1;have hi0:i≠0:=fun e=>h0 (jM (hln.trans e))
   have hj2:∀N:Mem,(G++N)[j]?=some (some (own 3 rows)):=fun N=>by rw[jq hjl];exact hG
   have hr:(i+1)*56<=140737488355328:=by omega
   have htr:List.take i rows=rows:=by rw[<-hln];exact kH
   rw[hln];have hdr:kD (G0.length+3) (Zp4 (i+1) t) (shM x t' (.slice (j+3) (i+1) 3 0 (i+1) none) s2 s3 (v+1) ((G++[some { box:=false,esz:=3,rows:=zWx y.seen,gen:=y.seen.length,fz:=true,ver:=y.seen.length+1 },some { box:=false,esz:=3,rows:=zWs y.pts,gen:=y.pts.length,fz:=true,ver:=y.pts.length+1 },some (own 3 [[I (w64 (y.qo+t)),.jb (zWx y.seen),.jb (zWs y.pts)]])]).set j (some (own 3 (rows++[[I (w64 (y.qo+t)),.jb (zWx y.seen),.jb (zWs y.pts)]])))))=(shM x t' (.slice (j+3) (i+1) 3 0 (i+1) none) s2 s3 (v+1) ((G++[some { box:=false,esz:=3,rows:=zWx y.seen,gen:=y.seen.length,fz:=true,ver:=y.seen.length+1 },some { box:=false,esz:=3,rows:=zWs y.pts,gen:=y.pts.length,fz:=true,ver:=y.pts.length+1 },some (own 3 [[I (w64 (y.qo+t)),.jb (zWx y.seen),.jb (zWs y.pts)]])]).set j (some (own 3 (rows++[[I (w64 (y.qo+t)),.jb (zWx y.seen),.jb (zWs y.pts)]]))))):=ZoX (by omega) (.inl (by simp[Eng.below,yq];omega));obtain⟨v',S',G',ih,h1,h2,h3⟩:=Zpc x t t' s2 s3 hs G0 hsz r (i+1) (v+1) (.slice (j+3) (i+1) 3 0 (i+1) none) ((G++[some { box:=false,esz:=3,rows:=zWx y.seen,gen:=y.seen.length,fz:=true,ver:=y.seen.length+1 },some { box:=false,esz:=3,rows:=zWs y.pts,gen:=y.pts.length,fz:=true,ver:=y.pts.length+1 },some (own 3 [[I (w64 (y.qo+t)),.jb (zWx y.seen),.jb (zWs y.pts)]])]).set j (some (own 3 (rows++[[I (w64 (y.qo+t)),.jb (zWx y.seen),.jb (zWs y.pts)]])))) hd' (by omega) (by
    rw[htk];have:=LsN.own (n:=G0.length) (G:=(G++[some { box:=false,esz:=3,rows:=zWx y.seen,gen:=y.seen.length,fz:=true,ver:=y.seen.length+1 },some { box:=false,esz:=3,rows:=zWs y.pts,gen:=y.pts.length,fz:=true,ver:=y.pts.length+1 },some (own 3 [[I (w64 (y.qo+t)),.jb (zWx y.seen),.jb (zWs y.pts)]])]).set j (some (own 3 (rows++[[I (w64 (y.qo+t)),.jb (zWx y.seen),.jb (zWs y.pts)]])))) j hj (rows++[[I (w64 (y.qo+t)),.jb (zWx y.seen),.jb (zWs y.pts)]]) (by simp) (jY (by simp;omega));simpa [hln]using this) (by simp;omega) (fun k hk'=>by rw[jD (by omega),jq (by omega)];exact hk k hk')
   refine⟨v',S',G',?_,h1,h2,h3⟩;rw[<-ih,<-hdr];rw[ZfM Zoy.eq_1];by_cases c1:y.seen=[]<;>by_cases c2:y.pts=[]<;>simp[-kD,inC,ZlG,zX6,zWx,zWs,zX,hi1,hci,hy,hw,own,w64,hj2,hln,hr,htr,q1,q2,q3,q4,c1,c2]<;>rfl
theorem LsN.frz{n:Nat}{G:Mem}{rows:List (List Cl)}{s:Cl}(h:LsN n G rows s)(a b c:Option Blk):zdR (a::b::c::G) s=some (.jb rows):=by
 cases h with
 |nil=>rfl
 |own j hj _ h0 h=>simp[zdR,Eng.look,h,own]
theorem Zp9:∀(l:List Nat) (M:Mem),(List.foldl zX M l).length=M.length
 |[],M=>rfl
 |id::l,M=>by
  show(List.foldl zX (zX M id) l).length=_;rw[Zp9 l];unfold zX;split
  ·split<;>simp
  ·rfl
theorem Zqx(l:List Nat)(M:Mem):(List.foldl zX M l=[])=(M=[]):=by
 rw[<-kh,<-kh,Zp9]
theorem Zqm(M:Mem)(k:IntKind)(n:Int):zdR M (.int k n)=some (.int k n):=rfl
theorem ZpV(x:Zjo)(t:Int)(hx:Zlc x) :
  R L Cs ZoG [.a (inC x),W t] []=some (.w (.a (inC (shI t x))),[]):=by
 obtain⟨v1,S1,G1,y1,l1,g1,k1⟩:=Zpc x t (w64 (x.tick+t)) .jc .jc hx.n1 [] hx.sc x.kc 0 1 .jc [] rfl (jp _) .nil (jm _) (fun k hk=>by cases hk);obtain⟨v2,S2,G2,y2,l2,g2,k2⟩:=Zpb x t (w64 (x.tick+t)) S1 .jc hx.n2 G1 x.jS 0 v1 .jc G1 rfl (jp _) .nil (jm _) (fun k hk=>rfl);obtain⟨v3,S3,G3,y3,l3,g3,k3⟩:=Zpa x t (w64 (x.tick+t)) S1 S2 hx.n3 G2 x.ki 0 v2 .jc G2 rfl (jp _) .nil (jm _) (fun k hk=>rfl);have a1:=((l1.uV k2 (jp _)).uV (fun k hk=>k3 k hk) (jp _));have a2:=l2.uV k3 (jp _);have f1:=a1.frz;have f2:=a2.frz;have f3:=l3.frz;clear l1 l2 l3 a1 a2 k1 k2 k3;show _=some (AV.w (WV.a [I (w64 (x.tick+t)),.jb (ZlG (x.kc.map (Zo8 t))),.jb (zb (x.jS.map (ZoR t))),.jb (zb (x.ki.map (ZoR t)))]),([]:Mem));generalize ZlG (x.kc.map (Zo8 t))=z1 at *;generalize zb (x.jS.map (ZoR t))=z2 at *;generalize zb (x.ki.map (ZoR t))=z3 at *;simp only[shM,Zp4,Zp3,Zp2,jg,jo,jF]at y1 y2 y3;rw[zUa ZoQ rfl];simp only[inC,w64]at y1 y2 y3 ⊢;simp[-zdR,ZoF,y1,y2,y3,f1,f2,f3,Zqm,Zqx]
open Go Go.Eng Go.PlanLaw
theorem Zk9(n:Nat):EsN n []:=fun e he=>by cases he
def Zoc(S:StV)(zs:List Zon)(ss:List Sgn)(y:zZP):NdV:=ZjL (goN S zs ss { nd0 S with last:=0 } (znE S (some ⟨[],[],[y]⟩) (rg0 S).jV).1)
theorem Zre{S:StV}{zs:List Zon}{ss:List Sgn}(hL:ZkT S zs ss)(ht:S.t0=0)(y:zZP)(hst:y.qo=0)(hp:y.pts=[])(hse:y.seen.length<=5000) :
  ∃v' w' u',(4<v'/\0<w'/\u'≠0)/\(ZhJ (rg0 S) (Pl.vj (goN S zs ss { nd0 S with last:=0 } (znE S (some ⟨[],[],[y]⟩) (rg0 S).jV).1).qi 0)).ini=false/\R L Cs Zh5 [Pt 0,.a (inC ⟨0,[y],[],[]⟩)] (ndM S (nd0 S) (rg0 S) 0 [] 4 0 0)=some (.t [W (Zlu S (Zoc S zs ss y)),W 0],ndM S (Zoc S zs ss y) (ZhJ (rg0 S) (Pl.vj (goN S zs ss { nd0 S with last:=0 } (znE S (some ⟨[],[],[y]⟩) (rg0 S).jV).1).qi 0)) 1 (Zju ⟨[],[],[y]⟩) v' w' u'):=by
 unfold Zoc;have hk:=KB.zero hL.ok hL.be;have hr0:ZjQ (rg0 S):=⟨jp _,fun _=>rfl⟩;have hnd:Zk7 S (nd0 S) (rg0 S) [] 1:=by
  refine⟨hr0,fun a ha=>?_,hk,?_,?_,Zk9 1,?_,?_⟩
  ·cases ha
  ·show S.t0=S.t0+0;omega
  ·show S.t0<=90000;omega
  ·show 0<=S.t0/\S.t0<=1099511627776;omega
  ·show 1<=900;decide
 have hq:Zlb ⟨[],[],[y]⟩:=⟨rfl,rfl,fun s hs=>by rw[jG.1 hs];exact hp⟩;have e2:hrN S zs ss (nd0 S) (rg0 S) 0 [] [] ⟨0,[y],[],[]⟩=({ nd0 S with last:=0 },(1,Zju ⟨[],[],[y]⟩)):=by
  show(heD (nd0 S) y,he3 (nd0 S) (0,[]) y)=_;have hc:Zjv (nd0 S) y.qo=true:=by
   unfold Zjv nd0;simp only[hst,ht];decide
  unfold heD he3;rw[if_pos hc,if_pos hc,hst];have e:max (nd0 S).last 0=0:=by show max S.t0 0=0;omega
  rw[e];rfl
 have eK:Zkz S zs ss (Zhl S zs ss [] (rg0 S)) (Zju ⟨[],[],[y]⟩)=((znE S (some ⟨[],[],[y]⟩) (rg0 S).jV).1,true):=by
  have e:Zkz S zs ss (Zhl S zs ss [] (rg0 S)) (Zju ⟨[],[],[y]⟩)=znE S (znB S.t0 (Zju ⟨[],[],[y]⟩)) (rg0 S).jV:=rfl;rw[e,ht];show znE S (some ⟨[],[],[y]⟩) (rg0 S).jV=_;rw[<-Zkg (S:=S) hq (rg0 S).jV]
 obtain⟨v',w',u',hvw,hes2,hR⟩:=Zlp hL.ok hnd (by decide) 0 4 0 0 [] (ZkF 0) (by decide) (x:=⟨0,[y],[],[]⟩) ⟨by simp,by simp,by simp,fun z hz=>by rw[jG.1 hz,hp];exact⟨hse,by simp⟩⟩ ⟨by simp,by simp,by simp⟩ ht.symm e2 eK;have r0:Zhl S zs ss [] (rg0 S)=rg0 S:=rfl;rw[r0]at hR;exact⟨v',w',u',⟨hvw.1,hvw.2.1,fun q=>by cases (hvw.2.2.2 q).1⟩,(ZjF (g:=rg0 S) (jp _) _).2.2.2.2,hR⟩
abbrev lit5(x0 q:Int):Option Blk:=some { box:=false,esz:=3,rows:=[[I x0,I 0,I q]],gen:=1,fz:=true,ver:=2 }
abbrev lit6(x0 q:Int)(z:Bool)(v:Nat):Option Blk:=some { box:=false,esz:=3,rows:=[[I 0,.jb [[I x0,I 0,I q]],.jb []]],gen:=1,fz:=z,ver:=v }
variable{S:StV}{zs:List Zon}{ss:List Sgn}
theorem Zrc.zero(hL:ZkT S zs ss)(ht:S.t0=0):Zrc S (nd0 S) (rg0 S) 0 [] 0:=by
 have hk:=KB.zero hL.ok hL.be;refine⟨⟨⟨jp _,fun _=>rfl⟩,(fun a ha=>by cases ha),hk,?_,?_,EsN.nil _,?_,by show 1<=900;decide⟩,Zoz.nil 0,hk,⟨fun a ha=>?_,by show 1<=125;decide⟩,⟨fun a ha=>?_,by show 1<=125;decide⟩⟩
 ·show S.t0=S.t0+0;omega
 ·show S.t0<=90000;omega
 ·show 0<=S.t0/\S.t0<=1099511627776;omega
 ·obtain rfl:a=0:=jG.1 ha;unfold zk0;omega
 ·obtain rfl:a=0:=jG.1 ha;unfold zk0;omega
theorem Zp1{l:List Zjo}(h:smB l=true):l.length<=8/\∀x∈l,∀t,Zlc (shI t x):=by
 unfold smB at h;simp only[jl,decide_eq_true_eq,jz]at h;refine⟨h.1,fun x hx t=>?_⟩;have h2:=h.2 x hx;unfold ZpQ at h2;simp only[jl,decide_eq_true_eq,jz]at h2;obtain⟨a,b,c,d⟩:=h2;refine⟨by simp[shI];omega,by simp[shI];omega,by simp[shI];omega,fun y hy=>?_⟩;simp only[shI,jZ]at hy;obtain⟨z,hz,rfl⟩:=hy;have:=d z hz;unfold Zpi at this;simp only[jl,decide_eq_true_eq]at this;simp only[Zo8];omega
theorem Zqy{l:List Zjo}(h:smB l=true){x:Zjo}(hx:x∈l):Zlc x:=by
 have h2:=(Zp1 h).2 x hx 0;refine⟨by simpa [shI]using h2.n1,by simpa [shI]using h2.n2,by simpa [shI]using h2.n3,fun y hy=>?_⟩;exact h2.sc (Zo8 0 y) (by simp only[shI];exact qL hy)
abbrev stA(n r dl bu si s sp ln ac br ra:Int)(sg:Bool):List Cl:=[I n,I r,I dl,I bu,I si,I s,I sp,I ln,I ac,I br,I ra,.bool sg]
end Go.TrRun
namespace Go.TrRun
open Go Go.Eng Go.PlanLaw
variable{k:Nat}{S:StV}{zs:List Zon}{ss:List Sgn}{d:NdV}{g:RgV}{c:Int}{es:List Zou}{v w u p q:Nat}{M:Mem}
theorem LM.app(h:LM k S d g c es v w u p q M)(X:Mem):LM k S d g c es v w u p q (M++X):=by
 obtain⟨l1,l2,l3⟩:=h.len;exact⟨by rw[jq l1];exact h.nd,by rw[jq l2];exact h.rg,by rw[jq l3];exact h.mp,h.kp,h.kq,h.pq⟩
end Go.TrRun
namespace Go.TrRun
open Go Go.Eng Go.PlanLaw
variable{k:Nat}{S:StV}{zs:List Zon}{ss:List Sgn}{d e:NdV}{g f:RgV}{c c2:Int}{es fs:List Zou}{v w u p q v2 w2 u2 p2 q2:Nat}{M M':Mem}
theorem LM.fr{k1 p1 q1 p1' q1':Nat}(h:LM k S d g c es v w u p q M)(F:Fr k1 p1 q1 p1' q1' M M')(n1:k≠k1/\k≠p1/\k≠q1)(n2:p≠k1/\p≠p1/\p≠q1)(n3:q≠k1/\q≠p1/\q≠q1):LM k S d g c es v w u p q M':=by
 obtain⟨l1,l2,l3⟩:=h.len;exact⟨by rw[(F k l1 n1.1 n1.2.1 n1.2.2).1];exact h.nd,by rw[(F p l2 n2.1 n2.2.1 n2.2.2).1];exact h.rg,by rw[(F q l3 n3.1 n3.2.1 n3.2.2).1];exact h.mp,h.kp,h.kq,h.pq⟩
end Go.TrRun
namespace Go.TrRun
open Go Go.Eng Go.PlanLaw
variable{k:Nat}{S:StV}{zs:List Zon}{ss:List Sgn}{d e:NdV}{g f:RgV}{c c2:Int}{es fs:List Zou}{v w u p q v2 w2 u2 p2 q2:Nat}{M M':Mem}
theorem LM.same2(h:LM k S d g c es v w u p q M){f:Nat}{r:AV}(hr:∀ρ,znn ρ r=some r)
  (hR:R L Cs f [Pt 0] (ndM S d g c es v w u)=some (r,ndM S d g c es v w u)) :
  zx (R L Cs) ⟨true⟩ (.c (.fn f [] [])) [Pt k] M=some (r,M,.no):=by
 refine(h.on (.inl rfl) hR).trans ?_;obtain⟨h1,h2,h3,n1,n2,n3⟩:=h;obtain⟨ρ,hρ⟩:∃ρ:Nat->Option Nat,∀j,ρ j=match ([k,p,q]:List Nat)[j]? with|some id=>some id|none=>some (M.length+(j-3)):=⟨_,fun _=>rfl⟩
 have hb:Eng.back ρ [k,p,q] (ndM S d g c es v w u) M=some (M,[]):=by simp[Eng.back,h1,h2,h3]
 have hl:=Zo2 hρ hb (new:=[]) rfl (hr ρ)
 rwa [kT]at hl
theorem LM.copy(h:LM k S d g c es v w u p q M)(hn:g.na<=5)(hi:g.ini=true->g.na=0)(hk:g.jV.jR.length<=100000000000) :
  ∃M',zx (R L Cs) ⟨true⟩ (.c (.fn Zr1 [] [])) [Pt k] M=some (.w (Pt M.length),M++M',.no)/\LM M.length S d (Zr6 g) c es 3 1 0 (M.length+1) (M.length+2) (M++M'):=by
 have hR:=ZsH S d g c es v w u hn hi hk;have ho:=h.on (.inl rfl) hR;obtain⟨h1,h2,h3,n1,n2,n3⟩:=h;obtain⟨ρ,hρ⟩:∃ρ:Nat->Option Nat,∀j,ρ j=match ([k,p,q]:List Nat)[j]? with|some id=>some id|none=>some (M.length+(j-3)):=⟨_,fun _=>rfl⟩
 have r3:ρ 3=some M.length:=hρ 3;have r4:ρ 4=some (M.length+1):=hρ 4;have r5:ρ 5=some (M.length+2):=hρ 5;have hb:Eng.back ρ [k,p,q] (ndM S d g c es v w u++[bxv 3 46 (ndX S d 4 5),bxv 1 12 (rgC 4 (Zr6 g)),mpB c es 0]) M=some (M,[]):=by
  simp[Eng.back,h1,h2,h3]
 have Bn:zgx ρ ((ndM S d g c es v w u++[bxv 3 46 (ndX S d 4 5),bxv 1 12 (rgC 4 (Zr6 g)),mpB c es 0]).drop 3)=some [bxv 3 46 (ndX S d (M.length+1) (M.length+2)),bxv 1 12 (rgC (M.length+1) (Zr6 g)),mpB c es 0]:=by
  simp[zgx,zhj,Zr6,r4,r5,Zly]
 have hl:=Zo2 hρ hb Bn (r:=.w (Pt 3)) (r':=.w (Pt M.length)) (by simp[r3]);exact⟨_,ho.trans hl,⟨by simp,by rw[jX (by omega)];simp,by rw[jX (by omega)];simp,by omega,by omega,by omega⟩⟩
structure Zr5(k p q k2 p2 q2:Nat):Prop where
 n1:k≠k2/\k≠p2/\k≠q2
 n2:p≠k2/\p≠p2/\p≠q2
 n3:q≠k2/\q≠p2/\q≠q2
abbrev Zr4(S:StV)(d e:NdV)(g f:RgV)(c c2:Int)(es fs:List Zou)(v w u v2 w2 u2:Nat):Mem:=[bxv v 46 (ndX S d 1 2),bxv w 12 (rgC 1 g),mpB c es u,bxv v2 46 (ndX S e 4 5),bxv w2 12 (rgC 4 f),mpB c2 fs u2]
theorem LM.two{k2:Nat}(h:LM k S d g c es v w u p q M)(h2:LM k2 S e f c2 fs v2 w2 u2 p2 q2 M)(hA:Zr5 k p q k2 p2 q2){fn:Nat}{r:AV}(hr:∀ρ,znn ρ r=some r)
  (hR:R L Cs fn [Pt 0,Pt 3] (Zr4 S d e g f c c2 es fs v w u v2 w2 u2)=some (r,Zr4 S d e g f c c2 es fs v w u v2 w2 u2)) :
  zx (R L Cs) ⟨true⟩ (.c (.fn fn [] [])) [Pt k,Pt k2] M=some (r,M,.no):=by
 obtain⟨a1,a2,a3,n1,n2,n3⟩:=h;obtain⟨b1,b2,b3,m1,m2,m3⟩:=h2;obtain⟨⟨e1,e2,e3⟩,⟨e4,e5,e6⟩,⟨e7,e8,e9⟩⟩:=hA;have hc:collect M zfj [k,k2] []=[k,p,q,k2,p2,q2]:=by
  cases hi:g.ini<;>cases hj:f.ini<;>simp[collect,zpw,a1,a2,a3,b1,b2,b3,Blk.ids,Ck,hi,hj,n1,n2,n3,m1,m2,m3,e1,e2,e3,e4,e5,e6,e7,e8,e9,n1.symm,n2.symm,n3.symm,m1.symm,m2.symm,m3.symm,e1.symm,e2.symm,e3.symm,e4.symm,e5.symm,e6.symm,e7.symm,e8.symm,e9.symm]
 have ht:zck M (zd3 [k,p,q,k2,p2,q2]) [k,p,q,k2,p2,q2]=some (Zr4 S d e g f c c2 es fs v w u v2 w2 u2):=by
  cases hi:g.ini<;>cases hj:f.ini<;>simp[zck,a1,a2,a3,b1,b2,b3,zhj,zd3,hi,hj,Zly,n1,n2,n3,m1,m2,m3,e1,e2,e3,e4,e5,e6,e7,e8,e9,e4.symm,e7.symm]
 have hnd:zku [k,p,q,k2,p2,q2]=true:=by simp[zku,n1,n2,n3,m1,m2,m3,e1,e2,e3,e4,e5,e6,e7,e8,e9,e4.symm,e7.symm]
 obtain⟨ρ,hρ⟩:∃ρ:Nat->Option Nat,ρ=(fun j=>match ([k,p,q,k2,p2,q2]:List Nat)[j]? with|some id=>some id|none=>some (M.length+(j-6))):=⟨_,rfl⟩;have hb:Eng.back ρ [k,p,q,k2,p2,q2] (Zr4 S d e g f c c2 es fs v w u v2 w2 u2) M=some (M,[]):=by
  simp[Eng.back,a1,a2,a3,b1,b2,b3]
 have hl:uG [k,p,q,k2,p2,q2] M r (Zr4 S d e g f c c2 es fs v w u v2 w2 u2)=some (r,M,.no):=by
  have e0:uG [k,p,q,k2,p2,q2] M r (Zr4 S d e g f c c2 es fs v w u v2 w2 u2)=(match Eng.back ρ [k,p,q,k2,p2,q2] (Zr4 S d e g f c c2 es fs v w u v2 w2 u2) M,zgx ρ ((Zr4 S d e g f c c2 es fs v w u v2 w2 u2).drop 6),znn ρ r with
   |some (M',ch),some new,some r=>some (r,M'++new,if ch.isEmpty then .no else .wr (ch.map fun id=>(id,0,whole)))
   |_,_,_=>none):=by rw[hρ];rfl
  rw[e0,hb,hr];simp[zgx]
 have qI:zcG (R L Cs) fn [Pt k,Pt k2] M=some (r,M,.no):=by
  unfold zcG;have q1:([Pt k,Pt k2]:List WV).flatMap WV.ids=[k,k2]:=by simp[WV.ids]
  have q2':ziU (zd3 [k,p,q,k2,p2,q2]) [Pt k,Pt k2]=some [Pt 0,Pt 3]:=by simp[zd3,e1,e4,e7]
  rw[q1,hc];simp only[hnd,if_true,q2',ht,hR];exact hl
 have hfz:zla M [Pt k,Pt k2]=some [Pt k,Pt k2]:=by simp
 have hsl:([Pt k,Pt k2]:List WV).flatMap WV.sls=[]:=by simp
 have hhd:zl2 fn [Pt k,Pt k2]=true:=rfl;unfold zx;simp only[callee,qj,je,kT,if_true,hfz,hsl,hhd,Bool.or_true,List.isEmpty_nil];rw[qI]
end Go.TrRun
namespace Go.TrRun
open Go Go.Eng
theorem ZsW(a:ByteArray):p2F (.str .eql) (.c (.str a)) (.c (.str a))=some (.w (Bo true)):=by simp[p2F,Cf]
theorem ZsT(a:ByteArray):p2F (.str .neq) (.c (.str a)) (.c (.str a))=some (.w (Bo false)):=by simp[p2F,Cf]
section
variable{k:Nat}{S:StV}{d e:NdV}{g f:RgV}{c c2:Int}{es fs:List Zou}{v w u p q v2 w2 u2 p2 q2:Nat}{M M':Mem}
theorem LM.bytes(h:LM k S d g c es v w u p q M)(ht:d.told.length<=1000000000)(hb:d.kr.jR.length<=300000000) :
  zx (R L Cs) ⟨true⟩ (.c (.fn ZrQ [] [])) [Pt k] M=some (.w (.c (ndS d)),M,.no) :=
 h.same2 (fun ρ=>rfl) (ZsC S d g c es v w u ht hb)
theorem LM.none2(h:LM k S d g c es v w u p q M) :
  zx (R L Cs) ⟨true⟩ (.c (.fn Zh3 [] [])) [Pt k] M=some (.w (Bo false),M,.no) :=
 h.same2 (fun ρ=>rfl) (ZkQ S d g c es v w u)
end
theorem ZsG(S:StV)(d:NdV)(g f:RgV)(c c2:Int)(es fs:List Zou)(v w u v2 w2 u2:Nat)(ht:d.told.length<=1000000000)(hb:d.kr.jR.length<=300000000) :
  R L Cs Zr0 [Pt 0,Pt 3] (Zr4 S d d g f c c2 es fs v w u v2 w2 u2)=some (.w (Bo true),Zr4 S d d g f c c2 es fs v w u v2 w2 u2):=by
 have l1:LM 0 S d g c es v w u 1 2 (Zr4 S d d g f c c2 es fs v w u v2 w2 u2):=⟨rfl,rfl,rfl,by omega,by omega,by omega⟩;have l2:LM 3 S d f c2 fs v2 w2 u2 4 5 (Zr4 S d d g f c c2 es fs v w u v2 w2 u2):=⟨rfl,rfl,rfl,by omega,by omega,by omega⟩;have n1:=l1.none2;have n2:=l2.none2;have b1:=l1.bytes ht hb;have b2:=l2.bytes ht hb;have BD:finish 6 (.w (Bo true)) (Zr4 S d d g f c c2 es fs v w u v2 w2 u2)=some (.w (Bo true),Zr4 S d d g f c c2 es fs v w u v2 w2 u2):=by
  cases hi:g.ini<;>cases hj:f.ini<;>simp[finish,hi,hj]
 have hlen:(Zr4 S d d g f c c2 es fs v w u v2 w2 u2).length=6:=rfl;generalize Zr4 S d d g f c c2 es fs v w u v2 w2 u2=M at *;rw[zUa Zr9 rfl];simp[-zx,-finish,ZrT,n1,n2,b1,b2,BD,hlen,ZsW]
set_option maxRecDepth 100000
open Go Go.Eng Go.PlanLaw
def mpA:zD:=⟨0,[⟨1,[(0,0),(100000,0)],1500,1500,[],100000⟩],[],[],[]⟩
def Zn8:StV:=⟨mpA,[0],⟨4000,20,60,30,0⟩,⟨10000,10000,0,0⟩,0,8,5,true⟩
theorem Zod{l:zfn}(h:l∈mpA.jd):l=⟨1,[(0,0),(100000,0)],1500,1500,[],100000⟩:=jG.1 h
theorem Zoh(a:Int):zS mpA a=[]:=by
 by_cases h:mpA.jd.length<=a.toNat
 ·exact zyt h
 ·have e:a.toNat=0:=by
   have:mpA.jd.length=1:=rfl;omega
  unfold zS;rw[e];rfl
theorem Zor:zcp mpA where
 small:=⟨by decide,fun l h=>by rw[Zod h];decide,fun l h=>by rw[Zod h];intro x hx;cases hx⟩
 chk:=zah.2 ⟨200,by kernel_rfl⟩
 rchk:=zah.2 ⟨200,by kernel_rfl⟩
 len:=fun l h=>by rw[Zod h];exact zah.2 ⟨200,by kernel_rfl⟩
 rlen:=fun l h=>by rw[Zod h];exact zah.2 ⟨200,by kernel_rfl⟩
 Cj:=fun l h=>by rw[Zod h];decide
 kind:=fun l h=>by rw[Zod h];exact .inl rfl
 yd:=fun l h=>by rw[Zod h];decide
theorem Zos:zmq mpA [] [] where
 qW:=Zor
 one:=⟨fun l h=>by rw[Zod h];exact⟨0,0,100000,0,rfl,⟨by decide,by decide,zah.2 ⟨400,by kernel_rfl⟩,zah.2 ⟨400,by kernel_rfl⟩,zah.2 ⟨400,by kernel_rfl⟩,zah.2 ⟨400,by kernel_rfl⟩⟩⟩,by decide⟩
 yz:=⟨by decide,fun a=>by rw[Zoh];decide,fun a x h=>(by rw[Zoh]at h;cases h),fun a x h=>(by rw[Zoh]at h;cases h),fun a x h=>(by rw[Zoh]at h;cases h)⟩
 zd:=⟨rfl,rfl,by decide,by decide,fun z h=>(by cases h),fun z h=>(by cases h),fun z h=>(by cases h)⟩
 asc:=fun _ _=>by simp
 nd:=fun z h=>by cases h
 pv:=fun z h=>by cases h
theorem Zok:∀l:List Int,∀a,zKh mpA [] a l=[]
 |[],_=>rfl
 |x::l,a=>by
  unfold zKh;rw[Zok l];rfl
theorem Zol:zKj mpA [] []:=⟨Zos,by decide,by decide,by decide,⟨by kernel_rfl,by kernel_rfl⟩,fun l _=>by rw[Zok];simp[zN1],fun l _=>by rw[Zok];decide⟩
theorem Zoq:ZkT Zn8 [] [] where
 ok:=⟨Zol,by kernel_rfl,by unfold Car.ok Zn8;simp only;omega,by decide,by decide⟩
 be:=⟨⟨rfl,rfl⟩,by decide,by decide,by decide,fun p h=>(by rw[show zKh Zn8.m [] 0 Zn8.r=[] from Zok _ _]at h;cases h),by kernel_rfl,by decide⟩
 con:=fun z h=>by cases h
 wl:=fun w h=>by cases h
abbrev scA:zZP:=⟨0,[⟨0,0,60000⟩],[]⟩
theorem Zoi:R L Cs Zn7 [] []=some (.w (.a (ZlR Zn8)),[]):=zah.2 ⟨200,by kernel_rfl⟩
theorem Zot:Zlu Zn8 (Zoc Zn8 [] [] scA)=20/\(Zoc Zn8 [] [] scA).looked=1/\(Zoc Zn8 [] [] scA).mode=1/\(Zoc Zn8 [] [] scA).now=1:=by
 have h1:decide (Zlu Zn8 (Zoc Zn8 [] [] scA)=20/\(Zoc Zn8 [] [] scA).looked=1/\(Zoc Zn8 [] [] scA).mode=1/\(Zoc Zn8 [] [] scA).now=1)=true:=by kernel_rfl
 exact of_decide_eq_true h1
theorem Zog(S:StV)(d:NdV)(g:RgV)(c:Int)(es:List Zou)(v w u:Nat):R L Cs Zoa [Pt 0] (ndM S d g c es v w u)=some (.w (W d.looked),ndM S d g c es v w u):=by
 have h:=ZkQ S d g c es v w u;obtain⟨s0,s1,s2,s3,s4,n,ini,p⟩:=g;rw[zUa Zob rfl];cases ini<;>simp[ndM,ndC,rgC,mpB,bxv]at h<;>simp[ZiM,h]
abbrev Zom(S:StV)(d:NdV)(g:RgV)(es:List Zou)(v w u:Nat)(x0 q:Int):Mem:=[bxv v 46 (ndX S d 1 2),bxv w 12 (rgC 1 g),mpB 1 es u,lit5 x0 q,lit6 x0 q true 2]
theorem Zoe{S:StV}{d:NdV}{g:RgV}{es:List Zou}{v w u:Nat}{x0 q:Int}(hi:g.ini=false){f:Nat}{n:Int}
  (hR:R L Cs f [Pt 0] (ndM S d g 1 es v w u)=some (.w (W n),ndM S d g 1 es v w u)) :
  zx (R L Cs) ⟨true⟩ (.c (.fn f [] [])) [Pt 0] (Zom S d g es v w u x0 q)=some (.w (W n),Zom S d g es v w u x0 q,.no):=by
 obtain⟨s0,s1,s2,s3,s4,na,ini,p⟩:=g;simp only at hi;subst hi;simp[ndM,ndC,rgC,mpB,bxv]at hR;simp[Zom,ndX,hR,Zly]
theorem Zop{S:StV}{zs:List Zon}{ss:List Sgn}(hL:ZkT S zs ss) :
  ∃fp,zx (R L Cs) ⟨true⟩ (.c (.fn ZlW [] [])) [.a (ZlR S)] []=some (.t [Pt 0,W 0],[bxv 4 46 (ndX S (nd0 S) 1 2),bxv 0 12 (rgC 1 (rg0 S)),mpB 0 [] 0],fp):=by
 have Di:=Znz hL.ok hL.be;refine⟨.no,?_⟩;simp[ndM,ndC,rgC,mpB,bxv,nd0,rg0,ZlR]at Di;simp[Di,ndX,nd0,rg0,ZlR]
theorem Zoo{S:StV}{d':NdV}{g':RgV}{es':List Zou}{v' w' u':Nat}(hi':g'.ini=false)(h:4<v'/\0<w'/\u'≠0)(x0 q x:Int)
  (hR:R L Cs Zh5 [Pt 0,.a (inC ⟨0,[⟨0,[⟨x0,0,q⟩],[]⟩],[],[]⟩)] (ndM S (nd0 S) (rg0 S) 0 [] 4 0 0)=some (.t [W x,W 0],ndM S d' g' 1 es' v' w' u')) :
  ∃fp,zx (R L Cs) ⟨true⟩ (.c (.fn Zh5 [] [])) [Pt 0,.a [I 0,.slice 4 1 3 0 1 none,.jc,.jc]] [bxv 4 46 (ndX S (nd0 S) 1 2),bxv 0 12 (rgC 1 (rg0 S)),mpB 0 [] 0,lit5 x0 q,lit6 x0 q false 1] =
   some (.t [W x,W 0],Zom S d' g' es' v' w' u' x0 q,fp):=by
 obtain⟨r0,r1,r2,r3,r4,ma,jni,p'⟩:=g';simp only at hi';subst hi';have a1:¬v'=4:=by omega
 have a2:¬w'=0:=by omega
 have a3:=h.2.2;refine⟨.wr [(4,0,whole),(0,0,whole),(1,0,whole),(2,0,whole)],?_⟩;simp[ndM,ndC,rgC,mpB,bxv,inC,ZlG,zb,zX6,zWx,zWX,zWs,rg0,nd0]at hR;simp[ndX,hR,Zly,a1,a2,a3,rg0,nd0,lit5,lit6,zX]
theorem Zoj:R L Cs ZlH [] []=some (.w (Bo true),[]):=by
 obtain⟨v1,w1,u1,hv1,hi1,hT1⟩:=Zre Zoq rfl scA rfl rfl (by decide);obtain⟨f1,f2,f3,f4⟩:=Zot;generalize Zoc Zn8 [] [] scA=d1 at *;generalize ZhJ (rg0 Zn8) _=g1 at *;rw[f1]at hT1;have c1:zx (R L Cs) ⟨true⟩ (.c (.fn Zn7 [] [])) [] []=some (.w (.a (ZlR Zn8)),[],.no):=by simp[Zoi]
 obtain⟨fp,hN⟩:=Zop Zoq;obtain⟨fp1,hT⟩:=Zoo hi1 hv1 0 60000 20 hT1;have hL:=Zoe (S:=Zn8) (x0:=0) (q:=60000) hi1 (Zog Zn8 d1 g1 1 (Zju ⟨[],[],[scA]⟩) v1 w1 u1);have hM:=Zoe (S:=Zn8) (x0:=0) (q:=60000) hi1 (Zmn Zn8 d1 g1 1 (Zju ⟨[],[],[scA]⟩) v1 w1 u1);have hW:=Zoe (S:=Zn8) (x0:=0) (q:=60000) hi1 (ZnT Zn8 d1 g1 1 (Zju ⟨[],[],[scA]⟩) v1 w1 u1);rw[f2]at hL;rw[f3]at hM;rw[f4]at hW;rw[zUa Zn9 rfl];simp (maxSteps:=400000) [-zx,Zin,c1,hN,hT,hL,hM,hW,zg,zX,zH]
theorem ZnL.law{m:zD}{zs:List Zon}{ss:List Sgn}(hM:ZnL m zs ss){k:Int}(hk:k=0\/zaK m ((zDT m k).headD 0)=1)(bu si dl s sp ln ac br ra:Int)(sg:Bool):ZkT (Zns m k bu si dl s sp ln ac br ra sg) zs ss:=by
 obtain⟨h1,h2⟩:=ZnR hM hk bu si dl s sp ln ac br ra sg;exact⟨h1,h2,fun z hz=>hM.con _ h1.yc z hz,hM.wl⟩
theorem ZoT{α:Type}{f:α->List Cl}{P:List Cl->Prop}(h:∀r,P r->∃x,r=f x):∀{rows:List (List Cl)},(∀r∈rows,P r)->∃l:List α,rows=l.map f
 |[],_=>⟨[],rfl⟩
 |r::rows,hr=>by
  obtain⟨x,rfl⟩:=h r (hr r (jy ..));obtain⟨l,rfl⟩:=ZoT h (fun q hq=>hr q (jI _ hq));exact⟨x::l,rfl⟩
abbrev ZpZ:Sh:=.st [zmN,zmN,zmN]
abbrev Zqs:Sh:=.st [zmN,.slice (.st [zmN,.slice ZpZ,.slice ZpZ]),.slice ZpZ,.slice ZpZ]
abbrev Zng:Sh:=.st [zmN,zmN,zmN,zmN,zmN,zmN,zmN,zmN,zmN,zmN,zmN,.bool]
theorem Zpm{r:List Cl}(h:zfo ZpZ r):∃a b c,r=[I a,I b,I c]:=by
 simp only[zfo,znD]at h;obtain⟨_,_,rfl,⟨a,rfl,_⟩,_,_,rfl,⟨b,rfl,_⟩,_,_,rfl,⟨c,rfl,_⟩,rfl⟩:=h;exact⟨a,b,c,rfl⟩
theorem Zqj{rows:List (List Cl)}(h:∀r∈rows,zfo Zqs r):∃l,rows=ZoM l:=ZoT (f:=inC) (P:=zfo Zqs) (fun r hr=>by
 unfold zfo at hr;simp only[znD]at hr;obtain⟨_,_,rfl,h1,_,_,rfl,h2,_,_,rfl,h3,_,_,rfl,h4,rfl⟩:=hr;simp only[zfo]at h1;obtain⟨t,rfl,_⟩:=h1;unfold zfo at h2 h3 h4;obtain⟨r2,rfl,_,h2⟩:=h2;obtain⟨r3,rfl,_,h3⟩:=h3;obtain⟨r4,rfl,_,h4⟩:=h4;obtain⟨sc,rfl⟩:=ZoT (f:=zX6) (fun r hr=>by
  unfold zfo at hr;simp only[znD]at hr;obtain⟨_,_,rfl,h1,_,_,rfl,h2,_,_,rfl,h3,rfl⟩:=hr;simp only[zfo]at h1;obtain⟨t,rfl,_⟩:=h1;unfold zfo at h2 h3;obtain⟨r2,rfl,_,h2⟩:=h2;obtain⟨r3,rfl,_,h3⟩:=h3;obtain⟨se,rfl⟩:=ZoT (f:=zWX) (fun r hr=>by obtain⟨a,b,c,rfl⟩:=Zpm hr;exact⟨⟨a,b,c⟩,rfl⟩) h2;obtain⟨pt,rfl⟩:=ZoT (f:=zYi) (fun r hr=>by obtain⟨a,b,c,rfl⟩:=Zpm hr;exact⟨⟨a,b,c⟩,rfl⟩) h3;exact⟨⟨t,se,pt⟩,rfl⟩) h2
 obtain⟨sp,rfl⟩:=ZoT (f:=ZjO) (fun r hr=>by obtain⟨a,b,c,rfl⟩:=Zpm hr;exact⟨⟨a,b,c⟩,rfl⟩) h3;obtain⟨fx,rfl⟩:=ZoT (f:=ZjO) (fun r hr=>by obtain⟨a,b,c,rfl⟩:=Zpm hr;exact⟨⟨a,b,c⟩,rfl⟩) h4;exact⟨⟨t,sc,sp,fx⟩,rfl⟩) h
theorem Zp0{r:List Cl}(h:zfo Zng r):∃n q dl bu si s sp ln ac br ra sg,r=stA n q dl bu si s sp ln ac br ra sg:=by
 simp only[zfo,znD]at h;obtain⟨_,_,rfl,⟨n1,rfl,_⟩,_,_,rfl,⟨n2,rfl,_⟩,_,_,rfl,⟨n3,rfl,_⟩,_,_,rfl,⟨n4,rfl,_⟩,_,_,rfl,⟨n5,rfl,_⟩,_,_,rfl,⟨n6,rfl,_⟩,_,_,rfl,⟨n7,rfl,_⟩,_,_,rfl,⟨n8,rfl,_⟩,_,_,rfl,⟨n9,rfl,_⟩,_,_,rfl,⟨n10,rfl,_⟩,_,_,rfl,⟨n11,rfl,_⟩,_,_,rfl,⟨b,rfl⟩,rfl⟩:=h;exact⟨n1,n2,n3,n4,n5,n6,n7,n8,n9,n10,n11,b,rfl⟩
set_option maxRecDepth 10000
open Go Go.Eng Go.PlanLaw
variable{S:StV}{zs:List Zon}{ss:List Sgn}
abbrev d1E(l l2:List Zjo)(i:Nat):Env:=[(9,.w (W i)),(2,.w (.c (.jb (ZoM l2)))),(1,.w (.c (.jb (ZoM l)))),(7,.w (Pt 1))]
theorem ZsO(hL:ZkT S zs ss)(l l2:List Zjo)(hl:smB l=true)(i:Nat)(hi:i<l.length){d:NdV}{g:RgV}{c:Int}{es:List Zou}{v w u p q:Nat}{M:Mem}
  (h1:Zrc S d g c es (24*i)) (yP:d.now<=i) (hM:LM 1 S d g c es v w u p q M) :
  ∃d' g' c' es' v' w' u' p' q' M',Zrc S d' g' c' es' (24*(i+1))/\d'.now<=((i+1:Nat):Int)/\LM 1 S d' g' c' es' v' w' u' p' q' M' /\
   Y L Cs ZrJ (some [9,2,1,7]) 4 (d1E l l2 i) M=Y L Cs ZrJ (some [9,2,1,7]) 4 (d1E l l2 (i+1)) (kD 4 (d1E l l2 (i+1)) M'):=by
 have hS:=hL.ok;obtain⟨x,hx⟩:∃x,l[i]=x:=⟨_,rfl⟩;have hl8:=(Zp1 hl).1;have vT:x∈l:=by rw[<-hx];exact jf hi
 have hw:=zB (i:=i) (by omega);have hci:(i:Int)<l.length:=by omega
 have hN0:=hM.same (.inl ⟨_,rfl⟩) (ZnT S d g c es v w u);have hSh:=ZpV x d.now (Zqy hl vT);have hSc:∀M,zx (R L Cs) ⟨true⟩ (.c (.fn ZoG [] [])) [.a (inC x),W d.now] M=some (.w (.a (inC (shI d.now x))),M,.no):=fun M=>by
  simp only[inC]at hSh ⊢;simp[hSh]
 have hyo:Zlc (shI d.now x):=(Zp1 hl).2 x vT d.now;obtain⟨rr,e,d',g',c',es',v',w',u',p',q',M',fp,H',hn',hM',hlen,hT,-,hF⟩:=ZpW (zs:=zs) (ss:=ss) hS h1 (by omega) (by omega) hyo hM;refine⟨d',g',c',es',v',w',u',p',q',M',by rw[Av];exact H',by push_cast;omega,hM',?_⟩;rw[ZfM ZrJ.eq_1];simp only[inC]at hSc hT;simp[-zx,-kD,hi,hci,hx,hw,hN0,hSc,hT];rfl
theorem Zsw(hL:ZkT S zs ss)(l l2:List Zjo)(hl:smB l=true):∀(r:List Zjo) (i:Nat) (d:NdV) (g:RgV) (c:Int) (es:List Zou) (v w u p q:Nat) (M:Mem),l.drop i=r->i<=l.length ->
  Zrc S d g c es (24*i)->d.now<=i->LM 1 S d g c es v w u p q M ->
  ∃d' g' c' es' v' w' u' p' q' M',Zrc S d' g' c' es' (24*l.length)/\d'.now<=l.length/\LM 1 S d' g' c' es' v' w' u' p' q' M'/\Y L Cs ZrJ (some [9,2,1,7]) 4 (d1E l l2 i) M=some (.exit 0,(49,.w (Bo false))::d1E l l2 l.length,M')
 |[],i,d,g,c,es,v,w,u,p,q,M,hd,hi,h1,yP,hM=>by
  obtain rfl:=ZoS hd hi;refine⟨d,g,c,es,v,w,u,p,q,M,h1,yP,hM,?_⟩;rw[ZfM ZrJ.eq_1];simp
 |x::r,i,d,g,c,es,v,w,u,p,q,M,hd,hi,h1,yP,hM=>by
  obtain⟨hi1,hx,hd'⟩:=ZoY hd;obtain⟨d',g',c',es',v',w',u',p',q',M',h1',BA,hM',h⟩:=ZsO hL l l2 hl i hi1 h1 yP hM;rw[h];exact Zsw hL l l2 hl r (i+1) d' g' c' es' v' w' u' p' q' _ hd' (by omega) h1' BA (hM'.drop (by decide) _)
end Go.TrRun
namespace Go.TrRun
open Go Go.Eng Go.PlanLaw
variable{S:StV}{zs:List Zon}{ss:List Sgn}{k:Nat}{d e d' e':NdV}{g f g' f':RgV}{c c2 c' c2':Int}{es fs es' fs':List Zou}{v w u p q:Nat}{M:Mem}
theorem Zrc.copy{n:Nat}(H:Zrc S d g c es n):Zrc S d (Zr6 g) c es n :=
 ⟨⟨⟨H.nd.rg.few,fun h=>absurd h (by simp[Zr6])⟩,H.nd.jL,H.nd.jV,H.nd.now,H.nd.few,H.nd.ents,H.nd.last,H.nd.qi⟩,H.ent,H.kb,H.qi,H.told⟩
def ZsY(d:NdV)(x:Zjo):Prop:=x.tick=d.now/\x.kc.length<=8/\x.jS.length<=8/\x.ki.length<=8
def Stp(S:StV)(zs:List Zon)(ss:List Sgn)(d:NdV)(g:RgV)(c:Int)(es:List Zou)(x:Zjo)(d':NdV)(g':RgV)(c':Int)(es':List Zou):Prop :=
 (ZsY d x/\TkD S zs ss d g c es x d' g' c' es')\/(¬ZsY d x/\d'=d/\g'=g/\c'=c/\es'=es)
theorem Cpy.stp(hS:z6u S zs ss){n m:Nat}(H:Cpy d e g f es fs)(h1:Zrc S d g c es n)(h2:Zrc S e f c2 fs m){x:Zjo}
  (T1:Stp S zs ss d g c es x d' g' c' es') (T2:Stp S zs ss e f c2 fs x e' f' c2' fs'):Cpy d' e' g' f' es' fs':=by
 have he:=H.nd;rcases T1 with⟨o1,t1⟩ |⟨o1,rfl,rfl,rfl,rfl⟩<;>rcases T2 with⟨o2,t2⟩ |⟨o2,rfl,rfl,rfl,rfl⟩
 ·exact H.tick hS h1 h2 t1 t2
 ·rw[he]at o2;exact absurd o1 o2
 ·rw[he]at o2;exact absurd o2 o1
 ·exact H
theorem Zsz(hS:z6u S zs ss){n:Nat}(H:Zrc S d g c es n)(hn:n+300<=1000)(hd:d.now<=1000){x:Zjo}(hx:Zlc x)(h:LM k S d g c es v w u p q M) :
  ∃r e d' g' c' es' v' w' u' p' q' M' fp,Zrc S d' g' c' es' (n+24)/\d'.now<=d.now+1/\LM k S d' g' c' es' v' w' u' p' q' M'/\M.length<=M'.length/\zx (R L Cs) ⟨true⟩ (.c (.fn Zh5 [] [])) [Pt k,.a (inC x)] M=some (.t [W r,W e],M',fp) /\
   Stp S zs ss d g c es x d' g' c' es'/\Fr k p q p' q' M M':=by
 by_cases hok:x.tick=d.now/\x.kc.length<=8/\x.jS.length<=8/\x.ki.length<=8
 ·obtain⟨d',g',c',es',v',w',u',p',q',M',fp,H',hM,hl,hC,BA,hP,hD,hF⟩:=Zrr (zs:=zs) (ss:=ss) hS H hn hd hx h hok.1 hok.2;exact⟨_,_,d',g',c',es',v',w',u',p',q',M',fp,H',by omega,hM,hl,hC,.inl ⟨hok,hD⟩,hF⟩
 ·obtain⟨e,M',fp,hM,hl,hC,he,he8,hF⟩:=Zru H h hok;exact⟨_,_,d,g,c,es,v,w,u,p,q,M',fp,H.mono (by omega),by omega,hM,by omega,hC,.inr ⟨hok,rfl,rfl,rfl,rfl⟩,hF⟩
end Go.TrRun
namespace Go.TrRun
open Go Go.Eng Go.PlanLaw
variable{S:StV}{zs:List Zon}{ss:List Sgn}{k k2:Nat}{d e d' e':NdV}{g f g' f':RgV}{c c2 c' c2':Int}{es fs es' fs':List Zou}{v w u p q v2 w2 u2 p2 q2 v' w' u' p' q':Nat}{M M':Mem}
theorem Zr5.symm(h:Zr5 k p q k2 p2 q2):Zr5 k2 p2 q2 k p q:=by
 obtain⟨⟨a1,a2,a3⟩,⟨b1,b2,b3⟩,⟨c1,c2,c3⟩⟩:=h;exact⟨⟨a1.symm,b1.symm,c1.symm⟩,⟨a2.symm,b2.symm,c2.symm⟩,⟨a3.symm,b3.symm,c3.symm⟩⟩
theorem LM.CT(hb:LM k2 S e f c2 fs v2 w2 u2 p2 q2 M)(hA:Zr5 k p q k2 p2 q2)(F:Fr k p q p' q' M M'):LM k2 S e f c2 fs v2 w2 u2 p2 q2 M'/\Zr5 k p' q' k2 p2 q2:=by
 obtain⟨l1,l2,l3⟩:=hb.len;obtain⟨⟨a1,a2,a3⟩,⟨b1,b2,b3⟩,⟨c1,c2,c3⟩⟩:=hA;obtain⟨x1,x2,x3⟩:=F k2 l1 a1.symm b1.symm c1.symm;obtain⟨y1,y2,y3⟩:=F p2 l2 a2.symm b2.symm c2.symm;obtain⟨z1,z2,z3⟩:=F q2 l3 a3.symm b3.symm c3.symm;exact⟨hb.fr F ⟨a1.symm,b1.symm,c1.symm⟩ ⟨a2.symm,b2.symm,c2.symm⟩ ⟨a3.symm,b3.symm,c3.symm⟩,⟨⟨a1,a2,a3⟩,⟨x2.symm,y2.symm,z2.symm⟩,⟨x3.symm,y3.symm,z3.symm⟩⟩⟩
theorem Fr.uV{F:Fr k p q p' q' M M'}{a:Nat}{b:Option Blk}(hb:M[a]?=some b)(h:a≠k/\a≠p/\a≠q):M'[a]?=some b/\a≠p'/\a≠q':=by
 obtain⟨x1,x2,x3⟩:=F a (jK.1 hb).1 h.1 h.2.1 h.2.2;exact⟨x1.trans hb,x2,x3⟩
theorem LM.put2(h:LM k S d g c es v w u p q M){a:Nat}(ha:a≠k/\a≠p/\a≠q)(b:Option Blk):LM k S d g c es v w u p q (M.set a b):=by
 obtain⟨h1,h2,h3,n1,n2,n3⟩:=h;exact⟨by rw[jD ha.1];exact h1,by rw[jD ha.2.1];exact h2,by rw[jD ha.2.2];exact h3,n1,n2,n3⟩
theorem LM.sameC(h:LM k S d g c es v w u p q M)(h2:LM k2 S d f c2 fs v2 w2 u2 p2 q2 M)(hA:Zr5 k p q k2 p2 q2)(ht:d.told.length<=1000000000)(hb:d.kr.jR.length<=300000000) :
  zx (R L Cs) ⟨true⟩ (.c (.fn Zr0 [] [])) [Pt k,Pt k2] M=some (.w (Bo true),M,.no) :=
 h.two h2 hA (fun ρ=>rfl) (ZsG S d g f c c2 es fs v w u v2 w2 u2 ht hb)
end Go.TrRun
namespace Go.TrRun
open Go Go.Eng Go.PlanLaw
variable{S:StV}{zs:List Zon}{ss:List Sgn}
inductive Trc (S:StV) (zs:List Zon) (ss:List Sgn):Nat->NdV->RgV->Int->List Zou->List Zjo->List NdV->NdV->Prop
 |nil {n d g c es}:Trc S zs ss n d g c es [] [] d
 |cons {n d g c es x d' g' c' es' r ds z}:Zrc S d g c es n->Stp S zs ss d g c es (shI d.now x) d' g' c' es'->Trc S zs ss (n+24) d' g' c' es' r ds z->Trc S zs ss n d g c es (x::r) (d'::ds) z
theorem Zsf{n a:Nat}(h:a<n)(E:Env)(M:Mem):(kD n E M)[a]?=M[a]?:=by
 unfold kD;split
 ·rfl
 ·split
  ·rw[kR h]
  ·rfl
abbrev Zr3(ds:List NdV):List (List Cl):=ds.map fun d=>[ndS d]
abbrev d2E(l:List Zjo)(B:ByteArray)(k2 a n i:Nat):Env:=[(12,.w (.c (.slice a n 1 0 n none))),(13,.w (W i)),(7,.w (Pt 1)),(11,.w (.c (.str B))),(2,.w (.c (.jb (ZoM l)))),(10,.w (Pt k2))]
theorem ZsN(hL:ZkT S zs ss)(l:List Zjo)(hl:smB l=true)(B:ByteArray)(n0 m i a k2:Nat)(hk2:k2<n0)(ha:a<n0)(hi:i<l.length){d e:NdV}{g f:RgV}{c c2:Int}{es fs:List Zou}{v w u p q v2 w2 u2 p2 q2:Nat}{M:Mem}(ds:List NdV)(hds:ds.length<=8)
  (h1:Zrc S e f c2 fs (24*m)) (hm:m<20) (yP:e.now<=m) (hN:LM 1 S d g c es v w u p q M) (hM:LM k2 S e f c2 fs v2 w2 u2 p2 q2 M) (hA:Zr5 1 p q k2 p2 q2) (hD:M[a]?=some (some (nbB (Zr3 ds) ds.length))) (ha1:a≠1/\a≠p/\a≠q) (ha2:a≠k2/\a≠p2/\a≠q2) :
  ∃e' f' c2' fs' v2' w2' u2' p2' q2' M',Zrc S e' f' c2' fs' (24*m+24)/\e'.now<=((m+1:Nat):Int)/\Stp S zs ss e f c2 fs (shI e.now l[i]) e' f' c2' fs'/\LM 1 S d g c es v w u p q M'/\LM k2 S e' f' c2' fs' v2' w2' u2' p2' q2' M'/\Zr5 1 p q k2 p2' q2'/\M'[a]?=some (some (nbB (Zr3 (ds++[e'])) (ds.length+1)))/\(a≠k2/\a≠p2'/\a≠q2') /\
   Y L Cs z7 (some [12,13,7,11,2,10]) n0 (d2E l B k2 a ds.length i) M=Y L Cs z7 (some [12,13,7,11,2,10]) n0 (d2E l B k2 a (ds.length+1) (i+1)) (kD n0 (d2E l B k2 a (ds.length+1) (i+1)) M'):=by
 have hS:=hL.ok;obtain⟨x,hx⟩:∃x,l[i]=x:=⟨_,rfl⟩;have hl8:=(Zp1 hl).1;have vT:x∈l:=by rw[<-hx];exact jf hi
 have hw:=zB (i:=i) (by omega);have hci:(i:Int)<l.length:=by omega
 have hN0:=hM.same (.inl ⟨_,rfl⟩) (ZnT S e f c2 fs v2 w2 u2);have hSh:=ZpV x e.now (Zqy hl vT);have hSc:∀M,zx (R L Cs) ⟨true⟩ (.c (.fn ZoG [] [])) [.a (inC x),W e.now] M=some (.w (.a (inC (shI e.now x))),M,.no):=fun M=>by
  simp only[inC]at hSh ⊢;simp[hSh]
 have hyo:Zlc (shI e.now x):=(Zp1 hl).2 x vT e.now;obtain⟨rr,er,e',f',c2',fs',v2',w2',u2',p2',q2',M',fp,H',hn',hM',hlen,hT,hStp,hF⟩:=Zsz (zs:=zs) (ss:=ss) hS h1 (by omega) (by omega) hyo hM;obtain⟨hN',hA'⟩:=hN.CT hA.symm hF;obtain⟨hD',hb1,hb2⟩:=Fr.uV (F:=hF) hD ha2;have hBy:=(hM'.app [none]).bytes (by have:=H'.told.len;omega) (by have:=H'.kb.nd.len hS;omega);have hrm:(ds.length+1)*16<=140737488355328:=by omega
 have haM:a<M'.length:=(jK.1 hD').1;refine⟨e',f',c2',fs',v2',w2',u2',p2',q2',(M'.set a (some (nbB (Zr3 (ds++[e'])) (ds.length+1))))++[some (nbB [[ndS e']] 1)],H',by push_cast;omega,by rw[hx];exact hStp,(hN'.put2 ha1 _).app _,(hM'.put2 ⟨ha2.1,hb1,hb2⟩ _).app _,hA'.symm,?_,⟨ha2.1,hb1,hb2⟩,?_⟩
 ·rw[jq (by simpa using haM),jY haM]
 have hDx:∀X:Mem,(M'++X)[a]?=some (some (nbB (Zr3 ds) ds.length)):=fun X=>by rw[jq haM];exact hD'
 have AD:∀(X:Mem) (b:Option Blk),(M'++X).set a b=M'.set a b++X:=fun X b=>by rw[uy _ _ haM]
 have htk:List.take ds.length (Zr3 ds)=Zr3 ds:=by rw[jx];simp
 have hrow:Zr3 (ds++[e'])=Zr3 ds++[[ndS e']]:=by simp
 have hll:(Zr3 ds).length=ds.length:=by simp
 rw[hrow];clear hrow;rw[ZfM z7.eq_1];simp only[inC]at hSc hT;generalize Zr3 ds=rows at *;simp[-zx,-kD,hi,hci,hx,hw,hN0,hSc,hT,hBy,hDx,AD,htk,hll,hrm,zX,zg];rfl
end Go.TrRun
namespace Go.TrRun
open Go Go.Eng Go.PlanLaw
variable{S:StV}{zs:List Zon}{ss:List Sgn}
theorem Zsv(hL:ZkT S zs ss)(l:List Zjo)(hl:smB l=true)(B:ByteArray)(n0 a k2:Nat)(hn1:1<n0)(hk2:k2<n0)(ha:a<n0){d:NdV}{g:RgV}{c:Int}{es:List Zou}{v w u p q:Nat}(ha1:a≠1/\a≠p/\a≠q):∀(r:List Zjo) (i m:Nat) (e:NdV) (f:RgV) (c2:Int) (fs:List Zou) (v2 w2 u2 p2 q2:Nat) (M:Mem) (ds:List NdV),l.drop i=r->i<=l.length->ds.length=i->m+r.length<=20 ->
  Zrc S e f c2 fs (24*m)->e.now<=m->LM 1 S d g c es v w u p q M->LM k2 S e f c2 fs v2 w2 u2 p2 q2 M->Zr5 1 p q k2 p2 q2->M[a]?=some (some (nbB (Zr3 ds) ds.length))->(a≠k2/\a≠p2/\a≠q2) ->
  ∃dz z f' c2' fs' v2' w2' u2' p2' q2' M',dz.length=r.length/\Trc S zs ss (24*m) e f c2 fs r dz z/\Zrc S z f' c2' fs' (24*(m+r.length))/\LM 1 S d g c es v w u p q M'/\LM k2 S z f' c2' fs' v2' w2' u2' p2' q2' M'/\Zr5 1 p q k2 p2' q2'/\M'[a]?=some (some (nbB (Zr3 (ds++dz)) (ds++dz).length)) /\
   Y L Cs z7 (some [12,13,7,11,2,10]) n0 (d2E l B k2 a ds.length i) M=some (.exit 2,(81,.w (Bo false))::d2E l B k2 a (ds++dz).length l.length,M')
 |[],i,m,e,f,c2,fs,v2,w2,u2,p2,q2,M,ds,hd,hi,hdl,hm,h1,yP,hN,hM,hA,hD,ha2=>by
  obtain rfl:=ZoS hd hi;refine⟨[],e,f,c2,fs,v2,w2,u2,p2,q2,M,rfl,.nil,h1,hN,hM,hA,by simpa using hD,?_⟩;rw[ZfM z7.eq_1];simp
 |x::r,i,m,e,f,c2,fs,v2,w2,u2,p2,q2,M,ds,hd,hi,hdl,hm,h1,yP,hN,hM,hA,hD,ha2=>by
  obtain⟨hi1,hx,hd'⟩:=ZoY hd;have hl8:=(Zp1 hl).1;simp only[jk]at hm;obtain⟨e',f',c2',fs',v2',w2',u2',p2',q2',M',k1,k2',k3,k4,k5,k6,k7,k8,k9⟩:=ZsN hL l hl B n0 m i a k2 hk2 ha hi1 ds (by omega) h1 (by omega) yP hN hM hA hD ha1 ha2;rw[hx]at k3;have hle:(ds++[e']).length=ds.length+1:=by simp
  obtain⟨dz,z,f3,c3,fs3,v3,w3,u3,p3,q3,M3,j0,j1,j2,j3,j4,j5,j6,j7⟩:=Zsv hL l hl B n0 a k2 hn1 hk2 ha ha1 r (i+1) (m+1) e' f' c2' fs' v2' w2' u2' p2' q2' (kD n0 (d2E l B k2 a (ds.length+1) (i+1)) M') (ds++[e']) hd' (by omega) (by omega) (by omega) (by rw[Av];exact k1) k2' (k4.drop hn1 _) (k5.drop hk2 _) k6 (by rw[Zsf ha,hle];exact k7) k8;rw[jJ]at j6 j7;rw[hle]at j7;refine⟨e'::dz,z,f3,c3,fs3,v3,w3,u3,p3,q3,M3,by simp[j0],.cons h1 k3 (by rw[Av]at j1;exact j1),by rw[jk,show m+(r.length+1)=m+1+r.length by omega];exact j2,j3,j4,j5,j6,?_⟩;rw[k9,j7];rfl
end Go.TrRun
namespace Go.TrRun
open Go Go.Eng Go.PlanLaw
variable{S:StV}{zs:List Zon}{ss:List Sgn}
abbrev d3E(l:List Zjo)(k2 a n i:Nat):Env:=[(10,.w (Pt k2)),(2,.w (.c (.jb (ZoM l)))),(7,.w (Pt 1)),(12,.w (.c (.slice a n 1 0 n none))),(14,.w (W i))]
theorem ZsM(hL:ZkT S zs ss)(l:List Zjo)(hl:smB l=true)(n0 m i a k2:Nat)(hi:i<l.length){d z e e':NdV}{g fz f f':RgV}{c cz c2 c2':Int}{es zs' fs fs':List Zou}{v w u p q v2 w2 u2 p2 q2:Nat}{M:Mem}(D:List NdV)(hDl:i<D.length)
  (h1:Zrc S d g c es (24*m)) (hm:m<20) (yP:d.now<=m) (hN:LM 1 S d g c es v w u p q M) (hM:LM k2 S z fz cz zs' v2 w2 u2 p2 q2 M) (hA:Zr5 1 p q k2 p2 q2) (hD:M[a]?=some (some (nbB (Zr3 D) D.length))) (ha1:a≠1/\a≠p/\a≠q)
  (hC:Cpy e d f g fs es) {n:Nat} (h2:Zrc S e f c2 fs n) (T:Stp S zs ss e f c2 fs (shI e.now l[i]) e' f' c2' fs') (hDi:D[i]=e') :
  ∃d' g' c' es' v' w' u' p' q' M',Zrc S d' g' c' es' (24*m+24)/\d'.now<=((m+1:Nat):Int)/\Cpy e' d' f' g' fs' es'/\LM 1 S d' g' c' es' v' w' u' p' q' M'/\LM k2 S z fz cz zs' v2 w2 u2 p2 q2 M'/\Zr5 1 p' q' k2 p2 q2/\M'[a]?=some (some (nbB (Zr3 D) D.length))/\(a≠1/\a≠p'/\a≠q') /\
   Y L Cs z6 (some [10,2,7,12,14]) n0 (d3E l k2 a D.length i) M=Y L Cs z6 (some [10,2,7,12,14]) n0 (d3E l k2 a D.length (i+1)) (kD n0 (d3E l k2 a D.length (i+1)) M'):=by
 have hS:=hL.ok;obtain⟨x,hx⟩:∃x,l[i]=x:=⟨_,rfl⟩;have hl8:=(Zp1 hl).1;have vT:x∈l:=by rw[<-hx];exact jf hi
 have hw:=zB (i:=i) (by omega);have hci:(i:Int)<l.length:=by omega
 have hN0:=hN.same (.inl ⟨_,rfl⟩) (ZnT S d g c es v w u);have hSh:=ZpV x d.now (Zqy hl vT);have hSc:∀M,zx (R L Cs) ⟨true⟩ (.c (.fn ZoG [] [])) [.a (inC x),W d.now] M=some (.w (.a (inC (shI d.now x))),M,.no):=fun M=>by
  simp only[inC]at hSh ⊢;simp[hSh]
 have hyo:Zlc (shI d.now x):=(Zp1 hl).2 x vT d.now;obtain⟨rr,er,d',g',c',es',v',w',u',p',q',M',fp,H',hn',hN',hlen,hT,hStp,hF⟩:=Zsz (zs:=zs) (ss:=ss) hS h1 (by omega) (by omega) hyo hN;obtain⟨hM',hA'⟩:=hM.CT hA hF;obtain⟨hD',hb1,hb2⟩:=Fr.uV (F:=hF) hD ha1;have hed:e.now=d.now:=by rw[hC.nd]
 rw[hx,hed]at T;have hC':=hC.stp hS h2 h1 T hStp;have hd':d'=e':=hC'.nd;have hBy:=hN'.bytes (by have:=H'.told.len;omega) (by have:=H'.kb.nd.len hS;omega);have hrow:∀h:i<(Zr3 D).length,(Zr3 D)[i]'h=[ndS d']:=fun h=>by simp[hDi,hd']
 have hlD:(i:Int)<D.length:=by omega
 refine⟨d',g',c',es',v',w',u',p',q',M',H',by push_cast;omega,hC',hN',hM',hA',hD',⟨ha1.1,hb1,hb2⟩,?_⟩;have hll:(Zr3 D).length=D.length:=by simp
 rw[ZfM z6.eq_1];simp only[inC]at hSc hT;generalize Zr3 D=rows at *;simp[-zx,-kD,hi,hci,hx,hw,hN0,hSc,hT,hBy,hD',hrow,hll,hlD,hDl,ZsT];rfl
end Go.TrRun
namespace Go.TrRun
open Go Go.Eng Go.PlanLaw
variable{S:StV}{zs:List Zon}{ss:List Sgn}
abbrev d3X(l:List Zjo)(k2 a n:Nat):Env:=[(105,.w (Bo false)),(12,.w (.c (.slice a n 1 0 n none))),(7,.w (Pt 1)),(2,.w (.c (.jb (ZoM l)))),(10,.w (Pt k2)),(14,.w (W l.length))]
theorem Zsu(hL:ZkT S zs ss)(l:List Zjo)(hl:smB l=true)(n0 a k2:Nat)(hn1:1<n0)(hk2:k2<n0)(ha:a<n0){z:NdV}{fz:RgV}{cz:Int}{zs':List Zou}{v2 w2 u2 p2 q2:Nat}(D:List NdV):∀(r:List Zjo) (dz:List NdV) (i m n:Nat) (d e:NdV) (g f:RgV) (c c2:Int) (es fs:List Zou) (v w u p q:Nat) (M:Mem),Trc S zs ss n e f c2 fs r dz z->l.drop i=r->D.drop i=dz->i<=l.length->m+r.length<=20 ->
  Zrc S d g c es (24*m)->d.now<=m->Cpy e d f g fs es->LM 1 S d g c es v w u p q M->LM k2 S z fz cz zs' v2 w2 u2 p2 q2 M->Zr5 1 p q k2 p2 q2->M[a]?=some (some (nbB (Zr3 D) D.length))->(a≠1/\a≠p/\a≠q) ->
  ∃g' c' es' v' w' u' p' q' M',Zrc S z g' c' es' (24*(m+r.length))/\LM 1 S z g' c' es' v' w' u' p' q' M'/\LM k2 S z fz cz zs' v2 w2 u2 p2 q2 M'/\Zr5 1 p' q' k2 p2 q2 /\
   Y L Cs z6 (some [10,2,7,12,14]) n0 (d3E l k2 a D.length i) M=some (.exit 4,d3X l k2 a D.length,M')
 |[],dz,i,m,n,d,e,g,f,c,c2,es,fs,v,w,u,p,q,M,hT,hd,hdz,hi,hm,h1,yP,hC,hN,hM,hA,hD,ha1=>by
  obtain rfl:=ZoS hd hi;cases hT;obtain rfl:=hC.nd;refine⟨g,c,es,v,w,u,p,q,M,h1,hN,hM,hA,?_⟩;rw[ZfM z6.eq_1];simp
 |x::r,dz,i,m,n,d,e,g,f,c,c2,es,fs,v,w,u,p,q,M,hT,hd,hdz,hi,hm,h1,yP,hC,hN,hM,hA,hD,ha1=>by
  obtain⟨hi1,hx,hd'⟩:=ZoY hd;have hl8:=(Zp1 hl).1;simp only[jk]at hm;cases hT with
  |@cons _ _ _ _ _ _ e' f' c2' fs' _ ds _ t1 t2 t3 =>
  obtain⟨hDl,hDi,hD'⟩:=ZoY hdz;rw[<-hx]at t2;obtain⟨d',g',c',es',v',w',u',p',q',M',k1,k2',k3,k4,k5,k6,k7,k8,k9⟩:=ZsM hL l hl n0 m i a k2 hi1 D hDl h1 (by omega) yP hN hM hA hD ha1 hC t1 t2 hDi;obtain⟨g3,c3,es3,v3,w3,u3,p3,q3,M3,j1,j2,j3,j4,j5⟩:=Zsu hL l hl n0 a k2 hn1 hk2 ha D r ds (i+1) (m+1) _ d' e' g' f' c' c2' es' fs' v' w' u' p' q' (kD n0 (d3E l k2 a D.length (i+1)) M') t3 hd' hD' (by omega) (by omega) (by rw[Av];exact k1) k2' k3 (k4.drop hn1 _) (k5.drop hk2 _) k6 (by rw[Zsf ha];exact k7) k8;refine⟨g3,c3,es3,v3,w3,u3,p3,q3,M3,by rw[jk,show m+(r.length+1)=m+1+r.length by omega];exact j1,j2,j3,j4,?_⟩;rw[k9,j5]
end Go.TrRun
