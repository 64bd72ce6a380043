/- This text proves what functions of this seat's program answer, run by the evaluator; no condition. -/
import Derived.Test.YtdndkdliiojpiaaGreatPTx3
set_option maxHeartbeats 8000000
set_option linter.unusedVariables false
set_option linter.unusedSimpArgs false
set_option linter.unusedSectionVars false
set_option maxRecDepth 10000
namespace Go.TrRun
open Go Go.Eng
def znB(n:Int):List Zou->Option Hrd
 |[]=>none
 |e::r=>if n=e.key then some e.hrd else znB n r
def ZiR(n:Int):List Zou->Nat->Option (Nat×Hrd)
 |[],_=>none
 |e::r,i=>if n=e.key then some (i,e.hrd) else ZiR n r (i+1)
theorem Zkr(n:Int):∀(es:List Zou) (i:Nat),(ZiR n es i).map Prod.snd=znB n es
 |[],_=>rfl
 |e::r,i=>by
  unfold ZiR znB;split
  ·rfl
  ·exact Zkr n r (i+1)
theorem ZiE(n:Int):∀(es:List Zou) (i:Nat),zta .i64 n (List.map Zly es) i=some ((ZiR n es i).map fun q=>(q.1,Zli q.2))
 |[],_=>rfl
 |e::r,i=>by
  rw[kC];show zta .i64 n ([I e.born,I e.key,_,_,_]::_) i=_;unfold zta ZiR;by_cases h:n=e.key
  ·simp[h]
  ·simp only[↓reduceIte,h];exact ZiE n r (i+1)
theorem Zia{M:Mem}{c:Int}{es:List Zou}{u:Nat}{id:Nat}(h:M[id]?=some (mpB c es u)):zi4 M id=some ({ box:=true,esz:=1,rows:=[I c]::es.map Zly,gen:=0,fz:=false,ver:=u },c,es.map Zly):=by
 unfold zi4 Eng.look;rw[h];simp
theorem Zih{M:Mem}{c:Int}{es:List Zou}{u:Nat}{id:Nat}(h:M[id]?=some (mpB c es u))(n:Int)(z:WV):znp M false true z [.c (.map id true),.c (.int .i64 n)]=some (.w (match znB n es with |some h=>.a (Zli h) |none=>z),M,.no):=by
 unfold znp;simp only[↓reduceIte,Zia h,ZiE,<-Zkr n es 0];cases ZiR n es 0 with
 |none=>rfl
 |some q=>rfl
def znE(S:StV)(h:Option Hrd)(k:zci):zci×Bool:=match h with
 |none=>(Zhv S k,true)
 |some h=>ZiH S h.kg (Zhv S (Zis h.ki (ZhZ h.jR (k,true))).1,(Zis h.ki (ZhZ h.jR (k,true))).2)
theorem KNd.Ax{S:StV}{k:zci}(h:KNd S.m k)(q:Option Hrd):KNd S.m (znE S q k).1/\(znE S q k).1.tick=k.tick:=by
 cases q with
 |none=>exact⟨h.own,rfl⟩
 |some y =>
  obtain⟨a1,a2⟩:=h.spds y.jR true;obtain⟨b1,b2⟩:=a1.fixs y.ki (ZhZ y.jR (k,true)).2;obtain⟨c1,c2⟩:=KNd.scns (S:=S) y.kg (Zis y.ki (ZhZ y.jR (k,true))).2 b1.own;exact⟨c1,c2.trans (b2.trans a2)⟩
theorem Zk2(ok:Bool)(M:Mem):Y L Cs Zhh (some [6,28,27,7,4,0,26,3]) 6 [(6,.w (Bo ok)),(28,.w (W 0)),(27,.w (W 0)),(7,.w (Pt 5)),(4,.w (Pt 4)),(0,.w (Pt 0)),(26,.w (.c .jc)),(3,.w (Pt 3))] M=some (.exit 0,[(29,.w (Bo false)),(6,.w (Bo ok)),(28,.w (W 0)),(27,.w (W 0)),(7,.w (Pt 5)),(4,.w (Pt 4)),(0,.w (Pt 0)),(26,.w (.c .jc)),(3,.w (Pt 3))],M):=by
 rw[ZfM Zhh.eq_1];simp
theorem Zk1(ok:Bool)(M:Mem):Y L Cs Zhg (some [6,47,46,0,4,7,45,3]) 6 [(6,.w (Bo ok)),(47,.w (W 0)),(46,.w (W 0)),(0,.w (Pt 0)),(4,.w (Pt 4)),(7,.w (Pt 5)),(45,.w (.c .jc)),(3,.w (Pt 3))] M=some (.exit 2,[(48,.w (Bo false)),(6,.w (Bo ok)),(47,.w (W 0)),(46,.w (W 0)),(0,.w (Pt 0)),(4,.w (Pt 4)),(7,.w (Pt 5)),(45,.w (.c .jc)),(3,.w (Pt 3))],M):=by
 rw[ZfM Zhg.eq_1];simp
theorem Zk0(ok:Bool)(M:Mem):Y L Cs Zhf (some [6,69,68,4,67,0,3]) 6 [(6,.w (Bo ok)),(69,.w (W 0)),(68,.w (W 0)),(4,.w (Pt 4)),(67,.w (.c .jc)),(0,.w (Pt 0)),(3,.w (Pt 3))] M=some (.exit 4,[(70,.w (Bo false)),(6,.w (Bo ok)),(69,.w (W 0)),(68,.w (W 0)),(4,.w (Pt 4)),(67,.w (.c .jc)),(0,.w (Pt 0)),(3,.w (Pt 3))],M):=by
 rw[ZfM Zhf.eq_1];simp
theorem ZjM{S:StV}{zs:List Zon}{ss:List Sgn}(hS:z6u S zs ss)(d:NdV)(g:RgV)(c:Int)(es:List Zou)(v w u:Nat){k:zci}(hk:KNd S.m k)(hh:∀h,znB k.tick es=some h->Zld h k.tick) :
  R L Cs Zi4 [Pt 0,.a (zG k)] (ndM S d g c es v w u)=some (.t [.a (zG (znE S (znB k.tick es) k).1),Bo (znE S (znB k.tick es) k).2],ndM S d g c es v w u):=by
 have hG:∀(M:Mem),M[2]?=some (mpB c es u)->znp M false true (.a [.jc,.jc,.jc]) [.c (.map 2 true),.c (.int .i64 k.tick)]=_:=fun M h=>Zih h k.tick _
 cases hf:znB k.tick es with
 |none =>
  rw[hf]at hG;have hO:=ZjW hS d g c es v w u (k:=k) (by have:=hk.len hS;omega) hk.j.ego;unfold znE;simp only;generalize Zhv S k=k2 at *;obtain⟨s0,s1,s2,s3,s4,n,ini,p⟩:=g;simp only[zG]at hO;rw[zUa Zh6 rfl];cases ini<;>simp[ndM,ndC,rgC,mpB,bxv]at hO<;>simp[Zhx,hG,hO,Zk2,Zk1,Zk0,zG,Zly]
 |some y =>
  rw[hf]at hG;obtain⟨n1,n2,n3,st,se,pt⟩:=hh y hf;obtain⟨a1,a2⟩:=hk.spds y.jR true;obtain⟨b1,b2⟩:=a1.fixs y.ki (ZhZ y.jR (k,true)).2;obtain⟨v1,h1⟩:=Zj8 S d g c es v w u y.jR n1 y y.jR 0 k true 0 rfl (jp _) (by have:=hk.len hS;omega);obtain⟨v2,h2⟩:=Zj7 S d g c es v w u y.ki n2 y y.ki 0 (ZhZ y.jR (k,true)).1 (ZhZ y.jR (k,true)).2 v1 rfl (jp _) (jP (a1.len hS) (by decide));have hO:=ZjW hS d g c es v w u (k:=(Zis y.ki (ZhZ y.jR (k,true))).1) (jP (b1.len hS) (by decide)) b1.j.ego;obtain⟨v3,h3⟩:=Zj6 hS d g c es v w u y.kg k.tick n3 st se pt y y.kg 0 (Zhv S (Zis y.ki (ZhZ y.jR (k,true))).1) (Zis y.ki (ZhZ y.jR (k,true))).2 (v2+1) rfl (jp _) b1.own (b2.trans a2);unfold znE;simp only;generalize ZhZ y.jR (k,true)=q1 at *;obtain⟨k1,o1⟩:=q1;simp only at *;generalize Zis y.ki (k1,o1)=q2 at *;obtain⟨k2,o2⟩:=q2;simp only at *;generalize Zhv S k2=k3 at *;generalize ZiH S y.kg (k3,o2)=q4 at *;obtain⟨k4,o4⟩:=q4;obtain⟨s0,s1,s2,s3,s4,n,ini,p⟩:=g;simp only[zG,jg]at hO h1 h2 h3;simp only[Zlm,Zll,Zlk,fuM,ndM,ji,je,zG,jg]at h1 h2 h3;rw[zUa Zh6 rfl];cases ini<;>simp[ndM,ndC,rgC,mpB,bxv]at hO<;>simp[Zhx,hG,hO,h1,h2,h3,zG,Zly]
def Zjv(d:NdV)(st:Int):Bool:=decide (st<=d.now)&&decide (max d.first (d.now-4)<=st)
theorem ZiY(S:StV)(d:NdV)(g:RgV)(c:Int)(es:List Zou)(v w u:Nat)(hn:0<=d.now/\d.now<=1099511627776)(st:Int):R L Cs ZiJ [Pt 0,W st] (ndM S d g c es v w u)=some (.w (Bo (Zjv d st)),ndM S d g c es v w u):=by
 have hw:IntKind.i64.wrap (d.now-4)=d.now-4:=zTd _ (by omega) (by omega);obtain⟨s0,s1,s2,s3,s4,n,ini,p⟩:=g;rw[zUa ZiN rfl];unfold Zjv;by_cases h1:st<=d.now
 ·by_cases h2:max d.first (d.now-4)<=st
  ·cases ini<;>simp[Zhm,h1,h2,hw]
  ·cases ini<;>simp[Zhm,h1,h2,hw]
 ·cases ini<;>simp[Zhm,h1]
theorem Zij(l:List Mrk)(hl:l.length<=100000):R L Cs ZhV [.c (.jb (zb l))] []=some (.w (.c (sl 0 3 (zb l))),[some (own 3 (zb l))]):=by
 have hr:l.length*24<=140737488355328:=by omega
 have h3:∀x,x∈zb l->x.length=3:=by
  intro x hx;obtain⟨y,_,rfl⟩:=jX.1 hx;rfl
 have hL:Cs.lookup ZhV=some (3,24,false):=by kernel_rfl
 rw[zrP rfl];simp[uw,hL,zuh,hr];exact h3
theorem ZjJ(l:List zZP)(hl:l.length<=100000):R L Cs ZhU [.c (.jb (ZlG l))] []=some (.w (.c (sl 0 3 (ZlG l))),[some (own 3 (ZlG l))]):=by
 have hr:l.length*56<=140737488355328:=by omega
 have h3:∀x,x∈ZlG l->x.length=3:=by
  intro x hx;obtain⟨y,_,rfl⟩:=jX.1 hx;rfl
 have hL:Cs.lookup ZhU=some (3,56,false):=by kernel_rfl
 rw[zrP rfl];simp[uw,hL,zuh,hr];exact h3
theorem Zkh(l:List Spn)(hl:l.length<=100000):R L Cs ZhT [.c (.jb (zWx l))] []=some (.w (.c (.jb (zWx l))),[]):=by
 have hr:l.length*24<=140737488355328:=by omega
 have h3:∀x,x∈zWx l->x.length=3:=by
  intro x hx;obtain⟨y,_,rfl⟩:=jX.1 hx;rfl
 have hL:Cs.lookup ZhT=some (3,24,true):=by kernel_rfl
 rw[zrP rfl];simp[uw,hL,zuh,hr];exact h3
theorem Zkb(l:List Pnt)(hl:l.length<=100000):R L Cs ZhQ [.c (.jb (zWs l))] []=some (.w (.c (.jb (zWs l))),[]):=by
 have hr:l.length*24<=140737488355328:=by omega
 have h3:∀x,x∈zWs l->x.length=3:=by
  intro x hx;obtain⟨y,_,rfl⟩:=jX.1 hx;rfl
 have hlen:(zWs l).length=l.length:=by simp[zWs]
 have hL:Cs.lookup ZhQ=some (3,24,true):=by kernel_rfl
 rw[zrP rfl];simp[uw,hL,zuh,hr,hlen];exact h3
def Ziq(es:List Zou)(n:Int):Hrd:=(znB n es).getD ⟨[],[],[]⟩
def ZiZ(n:Int)(h:Hrd)(q:Int×List Zou):Int×List Zou:=match ZiR n q.2 0 with
 |some (i,_)=>(q.1,q.2.modify i fun e=>⟨e.born,n,h⟩)
 |none=>(q.1+1,q.2++[⟨q.1,n,h⟩])
theorem ZhM{M:Mem}{c:Int}{es:List Zou}{u:Nat}{id:Nat}(h:M[id]?=some (mpB c es u))(n:Int)(H:Hrd):zoJ M true [.c (.map id true),.c (.int .i64 n),.a [.jb (zb H.jR),.jb (zb H.ki),.jb (ZlG H.kg)]]=some (.u,M.set id (mpB (ZiZ n H (c,es)).1 (ZiZ n H (c,es)).2 (u+1)),.wr [(id,0,whole)]):=by
 unfold zoJ ZiZ;simp only[↓reduceIte,Zia h,ZiE,okW,zlW];cases ZiR n es 0 with
 |none=>simp[Zly,mpB]
 |some q =>
  have e:(List.map Zly es).modify q.1 (fun row=>row.take 1++.int .i64 n::[.jb (zb H.jR),.jb (zb H.ki),.jb (ZlG H.kg)])=List.map Zly (es.modify q.1 fun e=>⟨e.born,n,H⟩):=by
   apply ua;intro i;simp only[List.getElem?_modify,kG];by_cases hi:q.1=i
   ·simp only[hi,if_true];cases es[i]?<;>simp[Zly]
   ·simp only[hi,if_false];cases es[i]?<;>simp[Zly]
  simp[WV.cells,mpB,e]
@[simp] theorem ZiP(a b:List Mrk):zb (a++b)=zb a++zb b:=by simp[zb]
@[simp] theorem ZjN(a b:List zZP):ZlG (a++b)=ZlG a++ZlG b:=by simp[ZlG]
abbrev Zkx(t:Int)(sc:List zZP)(sp fx:List Mrk):List Cl:=[I t,.jb (ZlG sc),.jb (zb sp),.jb (zb fx)]
abbrev heM(S:StV)(d:NdV)(g:RgV)(q:Int×List Zou)(v w u:Nat)(X:List Cl):Mem:=ndM S d g q.1 q.2 v w u++[bx 4 X]
def he1(d:NdV)(q:Int×List Zou)(y:Mrk):Int×List Zou:=if Zjv d y.st then ZiZ y.st { Ziq q.2 y.st with jR:=(Ziq q.2 y.st).jR++[y] } q else q
def he2(d:NdV)(q:Int×List Zou)(y:Mrk):Int×List Zou:=if Zjv d y.st then ZiZ y.st { Ziq q.2 y.st with ki:=(Ziq q.2 y.st).ki++[y] } q else q
def he3(d:NdV)(q:Int×List Zou)(y:zZP):Int×List Zou:=if Zjv d y.qt then ZiZ y.qt { Ziq q.2 y.qt with kg:=(Ziq q.2 y.qt).kg++[y] } q else q
def Zlq(n:Nat)(es:List Zou):Prop:=∀t,(Ziq es t).jR.length<=n/\(Ziq es t).ki.length<=n/\(Ziq es t).kg.length<=n
theorem ZpS(n t:Int)(h:Hrd)(q:Int×List Zou):znB t (ZiZ n h q).2=if t=n then some h else znB t q.2:=by
 obtain⟨c,es⟩:=q;unfold ZiZ;have key:∀(es:List Zou) (k:Nat),match ZiR n es k with
   |some (i,_)=>k<=i/\znB t (es.modify (i-k) fun e=>⟨e.born,n,h⟩)=if t=n then some h else znB t es
   |none=>znB t (es++[⟨c,n,h⟩])=if t=n then some h else znB t es:=by
  intro es;induction es with
  |nil =>
   intro k;simp[ZiR,znB]
  |cons e r ih =>
   intro k;unfold ZiR;by_cases hk:n=e.key
   ·simp only[hk,if_true];refine⟨jm _,?_⟩;simp only[yK,List.modify_cons,if_true];by_cases ht:t=e.key<;>simp[znB,ht]
   ·simp only[hk,if_false];have h1:=ih (k+1);cases hf:ZiR n r (k+1)with
    |none =>
     rw[hf]at h1;simp only[ji];simp only[znB];rw[h1];by_cases ht:t=e.key
     ·have:t≠n:=fun q=>hk (q.symm.trans ht)
      simp[ht,this];intro q;exact absurd q.symm hk
     ·simp[ht]
    |some i =>
     rw[hf]at h1;obtain⟨h2,h3⟩:=h1;refine⟨by omega,?_⟩;have e1:i.1-k=(i.1-(k+1))+1:=by omega
     rw[e1];simp only[List.modify_cons,Nat.add_eq_zero_iff,jQ,and_false,if_false,vT,znB];rw[h3];by_cases ht:t=e.key
     ·simp[ht];intro q;exact absurd q.symm hk
     ·simp[ht]
 have:=key es 0;simp only;cases hf:ZiR n es 0 with
 |none=>rw[hf]at this;exact this
 |some i=>rw[hf]at this;simpa using this.2
theorem Zo3(n t:Int)(h:Hrd)(q:Int×List Zou):Ziq (ZiZ n h q).2 t=if t=n then h else Ziq q.2 t:=by
 unfold Ziq;rw[ZpS];by_cases ht:t=n<;>simp[ht]
theorem Zie(x:Mrk):zb [x]=[[I x.st,I x.lo,I x.hi]]:=rfl
theorem ZjD(x:zZP):ZlG [x]=[[I x.qt,.jb (zWx x.seen),.jb (zWs x.pts)]]:=rfl
theorem ZiU:zb []=[]:=rfl
theorem ZiT:ZlG []=[]:=rfl
theorem Zix(l:List Mrk):(zb l).take l.length=zb l:=jB (by simp)
theorem Zid(l:List Mrk)(r:List Cl):(zb l++[r]).take (l.length+1)=zb l++[r]:=jB (by simp)
theorem Ziw(l:List zZP):(ZlG l).take l.length=ZlG l:=jB (by simp)
theorem Zic(l:List zZP)(r:List Cl):(ZlG l++[r]).take (l.length+1)=ZlG l++[r]:=jB (by simp)
abbrev ZkL(l:List Mrk)(i:Nat):Env:=[(16,.w (W i)),(15,.w (W l.length)),(3,.w (Pt 3)),(14,.w (.c (.jb (zb l)))),(0,.w (Pt 0))]
theorem ZkK{S:StV}(d:NdV)(g:RgV)(q:Int×List Zou)(v w u:Nat)(hn:0<=d.now/\d.now<=1099511627776)(X:Int×List zZP×List Mrk×List Mrk)(l:List Mrk)(hl:l.length<=1000)(i:Nat)(h1:i<l.length)(ho:Zlq 1000 q.2) :
  ∃u',(u<=u'/\(u'=u->he1 d q l[i]=q))/\Y L Cs zn2 (some [16,15,3,14,0]) 4 (ZkL l i) (heM S d g q v w u (Zkx X.1 X.2.1 X.2.2.1 X.2.2.2))=Y L Cs zn2 (some [16,15,3,14,0]) 4 (ZkL l (i+1)) (heM S d g (he1 d q l[i]) v w u' (Zkx X.1 X.2.1 X.2.2.1 X.2.2.2)):=by
 have hw:=zB (i:=i) (by omega);have hci:(i:Int)<l.length:=by omega
 have kY:(zb l)[i]?=some (ZjO l[i]):=Zif h1;generalize l[i]=x at *;obtain⟨c,es⟩:=q;have hC:=ZiY S d g c es v w u hn x.st;have hG:∀(M:Mem),M[2]?=some (mpB c es u)->znp M false true (.a [.jc,.jc,.jc]) [.c (.map 2 true),.c (.int .i64 x.st)]=_:=fun M h=>Zih h x.st _
 have hq:=ho x.st;simp only[ZjO]at kY;unfold he1;cases hb:Zjv d x.st with
 |false =>
  rw[hb]at hC;refine⟨u,⟨jm _,fun _=>by simp⟩,?_⟩;simp only[jG,if_false];obtain⟨s0,s1,s2,s3,s4,n,ini,p⟩:=g;rw[ZfM zn2.eq_1];cases hf:znB x.st es with
  |none =>
   rw[hf]at hG;cases ini<;>simp[ndM,ndC,rgC,mpB,bxv]at hC<;>simp[hci,hw,kY,hC,hG,Zly,-Int.natCast_add]
  |some y =>
   rw[hf]at hG;cases ini<;>simp[ndM,ndC,rgC,mpB,bxv]at hC<;>simp[hci,hw,kY,hC,hG,Zly,-Int.natCast_add]
 |true =>
  rw[hb]at hC;refine⟨u+1,⟨kO u,fun h=>absurd h (by omega)⟩,?_⟩;simp only[if_true];obtain⟨s0,s1,s2,s3,s4,n,ini,p⟩:=g;rw[ZfM zn2.eq_1];unfold Ziq at hq ⊢;cases hf:znB x.st es with
  |none =>
   rw[hf]at hG;have hK:=Zij [] (by decide);have hP:∀(M:Mem),M[2]?=some (mpB c es u)->zoJ M true [.c (.map 2 true),.c (.int .i64 x.st),.a [.jb (zb [x]),.jb (zb []),.jb (ZlG [])]]=_:=fun M h=>ZhM h x.st ⟨[x],[],[]⟩
   simp only[Zie,ZiU,ZiT]at hP hK;simp only[Ah,je];generalize ZiZ x.st ⟨[x],[],[]⟩ (c,es)=z at *;obtain⟨c',es'⟩:=z;cases ini<;>simp[ndM,ndC,rgC,mpB,bxv]at hC<;>simp[hci,hw,kY,hC,hG,hK,hP,Zig,zX,Zly,-Int.natCast_add]
  |some y =>
   rw[hf]at hG hq;simp only[uj]at hq ⊢;have hK:=Zij y.jR (by omega);have hr:(y.jR.length+1)*24<=140737488355328:=by omega
   have hP:∀(M:Mem),M[2]?=some (mpB c es u)->zoJ M true [.c (.map 2 true),.c (.int .i64 x.st),.a [.jb (zb (y.jR++[x])),.jb (zb y.ki),.jb (ZlG y.kg)]]=_:=fun M h=>ZhM h x.st ⟨y.jR++[x],y.ki,y.kg⟩
   simp only[ZiP,Zie]at hP;generalize ZiZ x.st ⟨y.jR++[x],y.ki,y.kg⟩ (c,es)=z at *;obtain⟨c',es'⟩:=z;cases ini<;>simp[ndM,ndC,rgC,mpB,bxv]at hC<;>simp[hci,hw,kY,hC,hG,hK,hP,hr,Zig,zX,Zly,Zix,Zid,Ziw,Zic,-Int.natCast_add]
abbrev ZkJ(l:List Mrk)(i:Nat):Env:=[(49,.w (W i)),(48,.w (W l.length)),(3,.w (Pt 3)),(47,.w (.c (.jb (zb l)))),(0,.w (Pt 0))]
theorem ZkI{S:StV}(d:NdV)(g:RgV)(q:Int×List Zou)(v w u:Nat)(hn:0<=d.now/\d.now<=1099511627776)(X:Int×List zZP×List Mrk×List Mrk)(l:List Mrk)(hl:l.length<=1000)(i:Nat)(h1:i<l.length)(ho:Zlq 1000 q.2) :
  ∃u',(u<=u'/\(u'=u->he2 d q l[i]=q))/\Y L Cs znM (some [49,48,3,47,0]) 4 (ZkJ l i) (heM S d g q v w u (Zkx X.1 X.2.1 X.2.2.1 X.2.2.2))=Y L Cs znM (some [49,48,3,47,0]) 4 (ZkJ l (i+1)) (heM S d g (he2 d q l[i]) v w u' (Zkx X.1 X.2.1 X.2.2.1 X.2.2.2)):=by
 have hw:=zB (i:=i) (by omega);have hci:(i:Int)<l.length:=by omega
 have kY:(zb l)[i]?=some (ZjO l[i]):=Zif h1;generalize l[i]=x at *;obtain⟨c,es⟩:=q;have hC:=ZiY S d g c es v w u hn x.st;have hG:∀(M:Mem),M[2]?=some (mpB c es u)->znp M false true (.a [.jc,.jc,.jc]) [.c (.map 2 true),.c (.int .i64 x.st)]=_:=fun M h=>Zih h x.st _
 have hq:=ho x.st;simp only[ZjO]at kY;unfold he2;cases hb:Zjv d x.st with
 |false =>
  rw[hb]at hC;refine⟨u,⟨jm _,fun _=>by simp⟩,?_⟩;simp only[jG,if_false];obtain⟨s0,s1,s2,s3,s4,n,ini,p⟩:=g;rw[ZfM znM.eq_1];cases hf:znB x.st es with
  |none =>
   rw[hf]at hG;cases ini<;>simp[ndM,ndC,rgC,mpB,bxv]at hC<;>simp[hci,hw,kY,hC,hG,Zly,-Int.natCast_add]
  |some y =>
   rw[hf]at hG;cases ini<;>simp[ndM,ndC,rgC,mpB,bxv]at hC<;>simp[hci,hw,kY,hC,hG,Zly,-Int.natCast_add]
 |true =>
  rw[hb]at hC;refine⟨u+1,⟨kO u,fun h=>absurd h (by omega)⟩,?_⟩;simp only[if_true];obtain⟨s0,s1,s2,s3,s4,n,ini,p⟩:=g;rw[ZfM znM.eq_1];unfold Ziq at hq ⊢;cases hf:znB x.st es with
  |none =>
   rw[hf]at hG;have hK:=Zij [] (by decide);have hP:∀(M:Mem),M[2]?=some (mpB c es u)->zoJ M true [.c (.map 2 true),.c (.int .i64 x.st),.a [.jb (zb []),.jb (zb [x]),.jb (ZlG [])]]=_:=fun M h=>ZhM h x.st ⟨[],[x],[]⟩
   simp only[Zie,ZiU,ZiT]at hP hK;simp only[Ah,je];generalize ZiZ x.st ⟨[],[x],[]⟩ (c,es)=z at *;obtain⟨c',es'⟩:=z;cases ini<;>simp[ndM,ndC,rgC,mpB,bxv]at hC<;>simp[hci,hw,kY,hC,hG,hK,hP,Zig,zX,Zly,-Int.natCast_add]
  |some y =>
   rw[hf]at hG hq;simp only[uj]at hq ⊢;have hK:=Zij y.ki (by omega);have hr:(y.ki.length+1)*24<=140737488355328:=by omega
   have hP:∀(M:Mem),M[2]?=some (mpB c es u)->zoJ M true [.c (.map 2 true),.c (.int .i64 x.st),.a [.jb (zb y.jR),.jb (zb (y.ki++[x])),.jb (ZlG y.kg)]]=_:=fun M h=>ZhM h x.st ⟨y.jR,y.ki++[x],y.kg⟩
   simp only[ZiP,Zie]at hP;generalize ZiZ x.st ⟨y.jR,y.ki++[x],y.kg⟩ (c,es)=z at *;obtain⟨c',es'⟩:=z;cases ini<;>simp[ndM,ndC,rgC,mpB,bxv]at hC<;>simp[hci,hw,kY,hC,hG,hK,hP,hr,Zig,zX,Zly,Zix,Zid,Ziw,Zic,-Int.natCast_add]
def heD(d:NdV)(y:zZP):NdV:=if Zjv d y.qt then { d with last:=max d.last y.qt } else d
abbrev ZkH(l:List zZP)(i:Nat):Env:=[(82,.w (W i)),(81,.w (W l.length)),(80,.w (.c (.jb (ZlG l)))),(0,.w (Pt 0))]
theorem ZkG{S:StV}(d:NdV)(g:RgV)(q:Int×List Zou)(v w u:Nat)(hn:0<=d.now/\d.now<=1099511627776)(X:Int×List zZP×List Mrk×List Mrk)(l:List zZP)(hl:l.length<=1000)(hse:∀x∈l,x.seen.length<=5000)(hpt:∀x∈l,x.pts.length<=1000)(i:Nat)(h1:i<l.length)(ho:Zlq 1000 q.2) :
  ∃u' v',((u<=u'/\(u'=u->he3 d q l[i]=q))/\(v<=v'/\(v'=v->heD d l[i]=d)))/\Y L Cs znK (some [82,81,80,0]) 4 (ZkH l i) (heM S d g q v w u (Zkx X.1 X.2.1 X.2.2.1 X.2.2.2))=Y L Cs znK (some [82,81,80,0]) 4 (ZkH l (i+1)) (heM S (heD d l[i]) g (he3 d q l[i]) v' w u' (Zkx X.1 X.2.1 X.2.2.1 X.2.2.2)):=by
 have hw:=zB (i:=i) (by omega);have hci:(i:Int)<l.length:=by omega
 have kY:(ZlG l)[i]?=some (zX6 l[i]):=ZjE h1;have q1:=hse _ (jf h1);have q2:=hpt _ (jf h1);generalize l[i]=x at *;obtain⟨c,es⟩:=q;have hC:=ZiY S d g c es v w u hn x.qt;have hG:∀(M:Mem),M[2]?=some (mpB c es u)->znp M false true (.a [.jc,.jc,.jc]) [.c (.map 2 true),.c (.int .i64 x.qt)]=_:=fun M h=>Zih h x.qt _
 have hS1:=Zkh x.seen (by omega);have hS2:=Zkb x.pts (by omega);have hq:=ho x.qt;simp only[zX6]at kY;unfold he3 heD;cases hb:Zjv d x.qt with
 |false =>
  rw[hb]at hC;refine⟨u,v,⟨⟨jm _,fun _=>by simp⟩,⟨jm _,fun _=>by simp⟩⟩,?_⟩;simp only[jG,if_false];obtain⟨s0,s1,s2,s3,s4,n,ini,p⟩:=g;rw[ZfM znK.eq_1];cases hf:znB x.qt es with
  |none =>
   rw[hf]at hG;cases ini<;>simp[ndM,ndC,rgC,mpB,bxv]at hC<;>simp[hci,hw,kY,hC,hG,Zly,-Int.natCast_add]
  |some y =>
   rw[hf]at hG;cases ini<;>simp[ndM,ndC,rgC,mpB,bxv]at hC<;>simp[hci,hw,kY,hC,hG,Zly,-Int.natCast_add]
 |true =>
  rw[hb]at hC;refine⟨u+1,v+1,⟨⟨kO u,fun h=>absurd h (by omega)⟩,⟨kO v,fun h=>absurd h (by omega)⟩⟩,?_⟩;simp only[if_true];obtain⟨s0,s1,s2,s3,s4,n,ini,p⟩:=g;rw[ZfM znK.eq_1];unfold Ziq at hq ⊢;cases hf:znB x.qt es with
  |none =>
   rw[hf]at hG;have hK:=ZjJ [] (by decide);have hP:∀(M:Mem),M[2]?=some (mpB c es u)->zoJ M true [.c (.map 2 true),.c (.int .i64 x.qt),.a [.jb (zb []),.jb (zb []),.jb (ZlG [x])]]=_:=fun M h=>ZhM h x.qt ⟨[],[],[x]⟩
   simp only[ZjD,ZiU,ZiT]at hP hK;simp only[Ah,je];generalize ZiZ x.qt ⟨[],[],[x]⟩ (c,es)=z at *;obtain⟨c',es'⟩:=z;cases ini<;>simp[ndM,ndC,rgC,mpB,bxv]at hC<;>simp[hci,hw,kY,hC,hG,hK,hP,hS1,hS2,Zig,zX,Zly,-Int.natCast_add]
  |some y =>
   rw[hf]at hG hq;simp only[uj]at hq ⊢;have hK:=ZjJ y.kg (by omega);have hr:(y.kg.length+1)*56<=140737488355328:=by omega
   have hP:∀(M:Mem),M[2]?=some (mpB c es u)->zoJ M true [.c (.map 2 true),.c (.int .i64 x.qt),.a [.jb (zb y.jR),.jb (zb y.ki),.jb (ZlG (y.kg++[x]))]]=_:=fun M h=>ZhM h x.qt ⟨y.jR,y.ki,y.kg++[x]⟩
   simp only[ZjN,ZjD]at hP;generalize ZiZ x.qt ⟨y.jR,y.ki,y.kg++[x]⟩ (c,es)=z at *;obtain⟨c',es'⟩:=z;cases ini<;>simp[ndM,ndC,rgC,mpB,bxv]at hC<;>simp[hci,hw,kY,hC,hG,hK,hP,hS1,hS2,hr,Zig,zX,Zly,Zix,Zid,Ziw,Zic,-Int.natCast_add]
def ZjL(d:NdV):NdV:={ d with told:=d.kU,qN:=Pl.uD d.kU 0,kU:=Pl.vD d.kU,now:=d.now+1 }
theorem Zkl(S:StV)(d:NdV){g:RgV}(hg:ZjQ g)(h4:g.na<=4)(c:Int)(es:List Zou)(v w u:Nat)(hn:0<=d.now/\d.now<=1099511627776)(hp:d.kU.length<=1000) :
  R L Cs Zhq [Pt 0] (ndM S d g c es v w u)=some (.w (.c .qV),ndM S (ZjL d) (ZhJ g (Pl.uD d.kU 0)) c es (v+4) (w+2) u):=by
 have hA:=Pl.C6 d.kU hp 0;have hT:=Pl.R_Tail d.kU hp;have hR:=ZkC hg h4 (Pl.uD d.kU 0) w;have hi:=(ZjF h4 (Pl.uD d.kU 0)).2.2.2.2;have hw:IntKind.i64.wrap (d.now+1)=d.now+1:=zTd _ (by omega) (by omega);unfold ZjL;generalize Pl.uD d.kU 0=a at *;generalize Pl.vD d.kU=t at *;generalize ZhJ g a=g' at *;obtain⟨s0,s1,s2,s3,s4,n,ini,p⟩:=g;obtain⟨r0,r1,r2,r3,r4,n',ini',p'⟩:=g';simp only at hi;subst hi;rw[zUa ZiO rfl];cases ini<;>simp[ndM,ndC,rgC,mpB,bxv]at hR<;>simp[ZhA,hA,hT,hR,hw,zX,Zly]
def ZiF(S:StV)(d:NdV):NdV:={ d with mode:=if S.v7<d.now-d.last then 2 else d.mode,looked:=0 }
theorem ZjV(S:StV)(d:NdV)(g:RgV)(c:Int)(es:List Zou)(v w u:Nat)(hn:0<=d.now/\d.now<=1099511627776)(hl:0<=d.last/\d.last<=1099511627776) :
  ∃v',v<v'/\R L Cs ZhK [Pt 0] (ndM S d g c es v w u)=some (.w (.c (.fn (if(ZiF S d).mode=1 then ZhB else Zhq) [.ptr 0 0 0 0] [])),ndM S (ZiF S d) g c es v' w u):=by
 have hw:IntKind.i64.wrap (d.now-d.last)=d.now-d.last:=zTd _ (by omega) (by omega);unfold ZiF;obtain⟨s0,s1,s2,s3,s4,n,ini,p⟩:=g;rw[zUa Ziv rfl];by_cases h1:S.v7<d.now-d.last
 ·refine⟨v+2,by omega,?_⟩;simp only[h1,if_true];cases ini<;>simp[Zhk,hw,h1,Zly]
 ·refine⟨v+1,by omega,?_⟩;simp only[h1,if_false];by_cases h2:d.mode=1
  ·cases ini<;>simp[Zhk,hw,h1,h2,Zly]
  ·cases ini<;>simp[Zhk,hw,h1,h2,Zly]
open Go Go.Eng Go.PlanLaw
theorem zLx{c:zK8}{w:Int}:∀{n:Nat} {s:Drv},0<=s.v/\s.v<=2000->0<=(Drv.uJ c w n s).v/\(Drv.uJ c w n s).v<=2000
 |0,s,h=>h
 |n+1,s,h=>zLx (n:=n) (zG1 s.v _)
theorem zMg:∀{q:List Int} {s:Drv},0<=s.v/\s.v<=2000->0<=(Drv.queue q s).v/\(Drv.queue q s).v<=2000
 |[],s,h=>h
 |x::q,s,h=>zMg (q:=q) (zG1 s.v _)
theorem zOt{c:zK8}(hc:c.ok)(q:List Int)(last v:Int)(up hold:Nat)(hv:0<=v/\v<=2000):(zJ2 c q last v up hold).length<=115+up+hold:=by
 unfold zJ2;have h1:=zMg (q:=q.take 5) (s:=Drv.mk last v []) hv;have h2:=zLx (c:=c) (w:=c.qQ) (n:=up) h1;have h3:=zLx (c:=c) (w:=0) (n:=hold) h2;have hl1:(Drv.queue (q.take 5) (Drv.mk last v [])).l.length=(q.take 5).length:=by rw[Drv.Bc];simp
 have hl2:=Drv.Ad (c:=c) (w:=c.qQ) (n:=up) (s:=Drv.queue (q.take 5) (Drv.mk last v []));have hl3:=Drv.Ad (c:=c) (w:=0) (n:=hold) (s:=Drv.uJ c c.qQ up (Drv.queue (q.take 5) (Drv.mk last v [])));generalize Drv.uJ c 0 hold (Drv.uJ c c.qQ up (Drv.queue (q.take 5) (Drv.mk last v [])))=s at *;have h4:=(zMs hc s.last s.v h3.1 h3.2).2.2;have h5:(q.take 5).length<=5:=by simp;omega
 simp only[jz];omega
theorem zNC{c:zK8}{l:List Int}(h:qE c l=0):(∀a∈l,zk0 a)/\l.length<=200/\l≠[]:=by
 obtain⟨hc,hne,hl⟩:=zVR h;refine⟨?_,hl,hne⟩;unfold qE at h;rw[if_neg (by simp[hc]),if_neg (by simpa using hne),if_neg (by omega)]at h;split at h
 ·cases h
 split at h
 ·cases h
 rename_i hb;have hb:l.any (zLD c)=false:=by simpa using hb
 intro a ha;have h1:=uY.1 hb a ha;obtain⟨q1,q2,q3,q4,q5,q6,q7,q8,q9,q10⟩:=hc;simp[zLD]at h1;constructor<;>omega
theorem zNa{c:zK8}(hc:c.ok)(q:List Int)(last v:Int)(hv:0<=v/\v<=2000):∀p∈Pl.yu c q last v,p.length<=200:=by
 intro p hp;have h:=fun up hold=>zOt hc q last v up hold hv
 simp only[Pl.yu,jK,qe,or_false]at hp;rcases hp with rfl|rfl|rfl|rfl|rfl|rfl|rfl|rfl
 ·have:=h 6 4;omega
 ·have:=h 6 0;omega
 ·have:=h 3 4;omega
 ·have:=h 3 0;omega
 ·have:=h 1 4;omega
 ·have:=h 1 0;omega
 ·have:=h 0 4;omega
 ·have:=h 0 0;omega
def zK5(kQ:Int)(ok:List Int->Bool):List (List Int)->Nat->Int×Int
 |[],i=>(-1,i)
 |p::t,i=>if kQ<=i then(-1,i) else if ok p=true then(i,(i+1:Nat)) else zK5 kQ ok t (i+1)
def okC(m:zD)(zs:List Zon)(ss:List Sgn)(r:List Int)(c:zK8)(k:zci)(signals able:Bool)(p:List Int):Bool:=able&&decide (qE c p=0)&&(zNw m zs ss r c.len k p signals).1
abbrev zLh(m:zD)(c:zK8)(k:zci):Mem:=[bx 5 (zf m),bx 5 (Pl.kR c),bx 6 (zG k),bx 1 [.jc]]
abbrev seE(J:WV)(l:List (List Int))(kQ:Int)(signals able:Bool)(i:Nat):Env:=[(51,.w (W i)),(50,.w (W l.length)),(49,.w (.c (.jb (Pl.uB l)))),(6,.w (W kQ)),(7,.w (Bo signals)),(11,.w (Pt 2)),(23,.w J),(10,.w (Pt 1)),(22,.w (Bo able)),(21,.w (W (-1))),(19,.w (.c (.jb (Pl.uB l)))),(20,.w (W i)),(16,.w (Pt 3))]
def SeX(E:Env)(T:Mem)(l:List (List Int))(x:Int×Int):Prop:=(T=[]\/∃p,T=[bxv 1 1 [.jb (zu p)]])/\E.get 21=some (.w (W x.1))/\E.get 20=some (.w (W x.2))/\E.get 19=some (.w (.c (.jb (Pl.uB l))))/\E.get 16=some (.w (Pt 3))
theorem zOp(m:zD)(zs:List Zon)(ss:List Sgn)(r:List Int)(c:zK8)(k:zci)(signals:Bool)(kQ:Int)(l:List (List Int))(hll:l.length<=100):∀(t:List (List Int)) (i:Nat),l.drop i=t->i<=l.length ->
  ∃E T,SeX E T l (zK5 kQ (okC m zs ss r c k signals false) t i)/\Y L Cs zIx (some [51,50,49,6,7,11,23,10,22,21,19,20,16]) 4 (seE (.c .kX) l kQ signals false i) (zLh m c k)=some (.exit 0,E,zLh m c k++T):=by
 intro t;induction t with
 |nil =>
  intro i hd hi;obtain rfl:=zUb hd hi;refine⟨(52,.w (Bo false))::seE (.c .kX) l kQ signals false l.length,[],⟨.inl rfl,rfl,rfl,rfl,rfl⟩,?_⟩;rw[ZfM zIx.eq_1];simp
 |cons p t ih =>
  intro i hd hi;obtain⟨hil,hx,hd'⟩:=zL hd;have hw:=zB (i:=i) (by omega);unfold zK5;by_cases c1:kQ<=(i:Int)
  ·rw[if_pos c1];refine⟨[(58,.w (Bo true)),(24,.w (W i)),(51,.w (W i)),(50,.w (W l.length)),(49,.w (.c (.jb (Pl.uB l)))),(6,.w (W kQ)),(7,.w (Bo signals)),(11,.w (Pt 2)),(23,.w (.c .kX)),(10,.w (Pt 1)),(22,.w (Bo false)),(25,.w (Pt 4)),(21,.w (W (-1))),(19,.w (.c (.jb (Pl.uB l)))),(20,.w (W i)),(16,.w (Pt 3))],[bxv 1 1 [.jb (zu p)]],⟨.inr ⟨p,rfl⟩,rfl,rfl,rfl,rfl⟩,?_⟩;rw[ZfM zIx.eq_1];simp (maxSteps:=1000000) [seE,zLh,jC,zox,zh,zi,zf,zG,own,zJY,zJ4,Pl.kR,Pl.uB,hil,hx,hw,c1,zg,zH]
  ·rw[if_neg c1,if_neg (by simp[okC])];obtain⟨E,T,h1,h2⟩:=ih (i+1) hd' hil;refine⟨E,T,h1,?_⟩;rw[<-h2,ZfM zIx.eq_1];clear h2 ih;simp (maxSteps:=1000000) [seE,zLh,jC,zox,zh,zi,zf,zG,own,zJY,zJ4,Pl.kR,Pl.uB,hil,hx,hw,c1,zg,zH]
abbrev zNM(m:zD)(r:List Int)(len:Int)(ps:List Pss)(vs:List Vis)(u:Nat)(was NW:List Cl)(SW:Cl):Mem:=[bxv u 26 (jC m r len ps (.slice 5 vs.length 10 0 vs.length none) was NW SW),some (Go.Eng.own 10 (zKt vs))]
abbrev zNL(m:zD)(r:List Int)(len:Int)(ps:List Pss)(vs:List Vis)(u:Nat)(was NW:List Cl)(SW:Cl):Mem:=[bxv u 26 (jC m r len ps .jc was NW SW)]
abbrev zV0(qq:Nat)(m:zD)(r:List Int)(len:Int)(ps:List Pss)(vs:List Vis)(u:Nat)(was NW:List Cl)(SW:Cl):Mem:=if qq=0 then zNL m r len ps vs u was NW SW else zNM m r len ps vs u was NW SW
theorem zV1{m:zD}{zs:List Zon}{ss:List Sgn}(hF:zKj m zs ss){r:List Int}(hr:zdA m r=0)(c:zK8)(hc:c.ok)(k:zci)(hk:KJ m k)(ht:0<=k.tick/\k.tick<=1099511627776)(signals:Bool)(kQ:Int)(vs:List Vis)(hvs:vs=pvV m zs r)(qq:Nat)(hq0:qq=0/\vs=[]\/qq=1/\vs≠[])(l:List (List Int))(hll:l.length<=100)(hl:∀p∈l,p.length<=1000):∀(t:List (List Int)) (i u:Nat) (WAS NW:List Cl) (SW:Cl),zMo WAS->zKq NW SW->l.drop i=t->i<=l.length ->
  ∃E T u' CE NW' SW',zMo CE/\zKq NW' SW'/\SeX E T l (zK5 kQ (okC m zs ss r c k signals true) t i)/\Y L Cs zIx (some [51,50,49,6,7,11,23,10,22,21,19,20,16]) (qq+5) (seE (.c (.ptr 4 0 0 0)) l kQ signals true i) (zLh m c k++zV0 qq m r c.len (zKh m zs 0 r) vs u WAS NW SW)=some (.exit 0,E,zLh m c k++zV0 qq m r c.len (zKh m zs 0 r) vs u' CE NW' SW'++T):=by
 intro t;induction t with
 |nil =>
  intro i u WAS NW SW oW oS hd hi;obtain rfl:=zUb hd hi;refine⟨(52,.w (Bo false))::seE (.c (.ptr 4 0 0 0)) l kQ signals true l.length,[],u,WAS,NW,SW,oW,oS,⟨.inl rfl,rfl,rfl,rfl,rfl⟩,?_⟩;rw[ZfM zIx.eq_1];simp
 |cons p t ih =>
  intro i u WAS NW SW oW oS hd hi;obtain⟨hil,hx,hd'⟩:=zL hd;have hpl:p∈l:=by rw[<-hx];exact jf hil
  have hw:=zB (i:=i) (by omega);have hC:=Pl.Bk c p (hl p hpl);have hcl:0<=c.len/\c.len<=20000:=by have:=hc.1;have:=hc.2.1;omega
  simp only[Pl.kR]at hC;unfold zK5;by_cases c1:kQ<=(i:Int)
  ·rw[if_pos c1];clear ih;refine⟨[(58,.w (Bo true)),(24,.w (W i)),(51,.w (W i)),(50,.w (W l.length)),(49,.w (.c (.jb (Pl.uB l)))),(6,.w (W kQ)),(7,.w (Bo signals)),(11,.w (Pt 2)),(23,.w (.c (.ptr 4 0 0 0))),(10,.w (Pt 1)),(22,.w (Bo true)),(25,.w (Pt (qq+5))),(21,.w (W (-1))),(19,.w (.c (.jb (Pl.uB l)))),(20,.w (W i)),(16,.w (Pt 3))],[bxv 1 1 [.jb (zu p)]],u,WAS,NW,SW,oW,oS,⟨.inr ⟨p,rfl⟩,rfl,rfl,rfl,rfl⟩,?_⟩;rw[ZfM zIx.eq_1];rcases hq0 with⟨rfl,-⟩ |⟨rfl,-⟩<;>rcases oW with rfl |⟨kw,rfl⟩<;>rcases oS with⟨rfl,rfl⟩ |⟨k0,x,rfl,rfl⟩<;>simp (maxSteps:=1000000) [seE,zLh,zV0,zNM,zNL,jC,zox,zh,zi,zf,zG,own,zJY,zJ4,Pl.kR,Pl.uB,hil,hx,hw,c1,zg,zH]
  ·rw[if_neg c1];by_cases c2:qE c p=0
   ·obtain⟨hin,hp2,hne⟩:=zNC c2;rw[c2]at hC;obtain⟨u',W',N',S',oW',oS',hu,h4⟩:=zL8 hF hr c.len hcl signals p hin (by omega) u k WAS NW SW hk ht oW oS hne;have hok:okC m zs ss r c k signals true p=(zNw m zs ss r c.len k p signals).1:=by simp[okC,c2]
    rw[hok];rw[<-hvs]at h4;generalize zNw m zs ss r c.len k p signals=y at *;obtain⟨y1,y2,y3⟩:=y;simp only[zJ3,zVW hq0]at h4;cases y1 with
    |true =>
     clear ih;rw[if_pos rfl];refine⟨[(21,.w (W i)),(19,.w (.c (.jb (Pl.uB l)))),(20,.w (W (i+1:Nat))),(16,.w (Pt 3))],[bxv 1 1 [.jb (zu p)]],u',W',N',S',oW',oS',⟨.inr ⟨p,rfl⟩,rfl,rfl,rfl,rfl⟩,?_⟩;rw[ZfM zIx.eq_1];rcases hq0 with⟨rfl,-⟩ |⟨rfl,-⟩<;>rcases oW with rfl |⟨kw,rfl⟩<;>rcases oS with⟨rfl,rfl⟩ |⟨k0,x,rfl,rfl⟩<;>rcases oW' with rfl |⟨kw',rfl⟩<;>rcases oS' with⟨rfl,rfl⟩ |⟨k0',x',rfl,rfl⟩<;>simp only[jQ,↓reduceIte,jF,Nat.reduceAdd,jC,zox,zh,zi,zf,zG,own,zJY,zJ4,Pl.kR,Pl.uB,zJZ,ji,je]at h4<;>simp (maxSteps:=1000000) [seE,zLh,zV0,zNM,zNL,jC,zox,zh,zi,zf,zG,own,zJY,zJ4,Pl.kR,Pl.uB,hil,hx,hw,c1,hC,h4,hu,zg,zH]
    |false =>
     rw[if_neg (by simp)];obtain⟨E,T,u2,W2,N2,S2,oW2,oS2,h1,h2⟩:=ih (i+1) u' W' N' S' oW' oS' hd' hil;refine⟨E,T,u2,W2,N2,S2,oW2,oS2,h1,?_⟩;rw[<-h2,ZfM zIx.eq_1];clear h1 h2 ih;rcases hq0 with⟨rfl,-⟩ |⟨rfl,-⟩<;>rcases oW with rfl |⟨kw,rfl⟩<;>rcases oS with⟨rfl,rfl⟩ |⟨k0,x,rfl,rfl⟩<;>rcases oW' with rfl |⟨kw',rfl⟩<;>rcases oS' with⟨rfl,rfl⟩ |⟨k0',x',rfl,rfl⟩<;>simp only[jQ,↓reduceIte,jF,Nat.reduceAdd,jC,zox,zh,zi,zf,zG,own,zJY,zJ4,Pl.kR,Pl.uB,zJZ,ji,je]at h4<;>simp (maxSteps:=1000000) [seE,zLh,zV0,zNM,zNL,jC,zox,zh,zi,zf,zG,own,zJY,zJ4,Pl.kR,Pl.uB,hil,hx,hw,c1,hC,h4,hu,zg,zH]
   ·have hb:(qE c p==0)=false:=by simpa using c2
    have hok:okC m zs ss r c k signals true p=false:=by simp[okC,c2]
    rw[hok,if_neg (by simp)];obtain⟨E,T,u2,W2,N2,S2,oW2,oS2,h1,h2⟩:=ih (i+1) u WAS NW SW oW oS hd' hil;refine⟨E,T,u2,W2,N2,S2,oW2,oS2,h1,?_⟩;rw[<-h2,ZfM zIx.eq_1];clear h1 h2 ih;generalize qE c p=e at *;rcases hq0 with⟨rfl,-⟩ |⟨rfl,-⟩<;>rcases oW with rfl |⟨kw,rfl⟩<;>rcases oS with⟨rfl,rfl⟩ |⟨k0,x,rfl,rfl⟩<;>simp (maxSteps:=1000000) [seE,zLh,zV0,zNM,zNL,jC,zox,zh,zi,zf,zG,own,zJY,zJ4,Pl.kR,Pl.uB,hil,hx,hw,c1,hC,hb,zg,zH]
theorem zOd(kQ:Int)(ok:List Int->Bool):∀(t:List (List Int)) (i:Nat),(zK5 kQ ok t i).1=-1\/((i:Int)<=(zK5 kQ ok t i).1/\(zK5 kQ ok t i).1<i+t.length)
 |[],i=>.inl rfl
 |p::t,i=>by
  unfold zK5;split
  ·exact .inl rfl
  ·split
   ·refine .inr ⟨by simp,by simp;omega⟩
   ·rcases zOd kQ ok t (i+1)with h|h
    ·exact .inl h
    ·refine .inr ⟨by omega,by simp only[jl];omega⟩
abbrev zLj(c:zK8)(q:List Int)(last:Int)(k:zci):List (List Int):=Pl.yu c q last (max 0 (min k.ego.vhi 2000))
def zMT(l:List (List Int))(f:Int):List Int:=if f<0 then [] else l.getD f.toNat []
def zOU(m:zD)(zs:List Zon)(ss:List Sgn)(r:List Int)(c:zK8)(k:zci)(q:List Int)(last kQ:Int)(signals:Bool):Int×Int :=
 zK5 kQ (okC m zs ss r c k signals (zKW m r c k)) (zLj c q last k) 0
theorem zPl{m:zD}{zs:List Zon}{ss:List Sgn}(hF:zKj m zs ss)(r:List Int)(hl:r.length<=1000)(c:zK8)(hc:c.ok)(k:zci)(hk:k.jZ.length<=100000000000)(q:List Int)(hq:q.length<=5)(last kQ:Int)(signals:Bool) :
  R L Cs zMZ [.a (zf m),.c (.jb (zu r)),.a (Pl.kR c),.a (zG k),.c (.jb (zu q)),W last,W kQ,Bo signals] [] =
    some (.t [.a [.jb (zu (zMT (zLj c q last k) (zOU m zs ss r c k q last kQ signals).1))],W (zOU m zs ss r c k q last kQ signals).2,Bo (decide (0<=(zOU m zs ss r c k q last kQ signals).1))],[]):=by
 have h1:=zPi hF r hl c k hk;have h2:=Pl.Ci hc q hq last k.ego.vhi;have hin:=zOd kQ (okC m zs ss r c k signals (zKW m r c k)) (zLj c q last k) 0;have hlen:(zLj c q last k).length=8:=rfl;have hlenI:((zLj c q last k).length:Int)=8:=rfl;have hpl:=zNa hc q last (max 0 (min k.ego.vhi 2000)) (by omega);unfold zOU;by_cases d1:zKW m r c k=true
 ·obtain⟨hr,_,_,hck⟩:=zNz d1;have hke:=zte hck;have hkj:=zPP hF.full.qD hck;obtain⟨u,h3⟩:=zMM hF hr c.len;rw[show zKE (zKh m zs 0 r) 0 zs.length=pvV m zs r from rfl]at h3;rw[d1]at h1 hin ⊢;obtain⟨qq,hq0⟩:∃qq,qq=0/\pvV m zs r=[]\/qq=1/\pvV m zs r≠[]:=by
   by_cases h0:pvV m zs r=[]
   ·exact⟨0,.inl ⟨rfl,h0⟩⟩
   ·exact⟨1,.inr ⟨rfl,h0⟩⟩
  obtain⟨E,T,u',W',N',S',oW,oS,⟨hT,g1,g2,g3,g4⟩,hL⟩:=zV1 hF hr c hc k hkj (by omega) signals kQ (pvV m zs r) rfl qq hq0 (zLj c q last k) (by omega) (fun p hp=>by have:=hpl p hp;omega) (zLj c q last k) 0 u zox zox .jc (.inl rfl) (.inl ⟨rfl,rfl⟩) rfl (jp _);simp only[zJ3,zVW hq0]at h3;simp only[zLj]at *;generalize pvV m zs r=vs at *;generalize zKh m zs 0 r=ps at *;generalize zK5 kQ (okC m zs ss r c k signals true) (Pl.yu c q last (max 0 (min k.ego.vhi 2000))) 0=y at *;generalize Pl.yu c q last (max 0 (min k.ego.vhi 2000))=ws at *;obtain⟨f,n⟩:=y;simp only at g1 g2 g3 g4 hin ⊢;rcases hq0 with⟨rfl,-⟩ |⟨rfl,-⟩
  all_goals
   simp only[jQ,↓reduceIte,jF,Nat.reduceAdd,zf,zG,Pl.kR,Pl.uB,jC,zox,zh,zi,own,zJZ,ji,je,seE,zLh,zV0,zNM,zNL,hlenI,jg]at h1 h2 h3 hL g3;rw[zUa zLc rfl];rcases hin with rfl |⟨i1,i2⟩
   ·rcases hT with rfl |⟨p,rfl⟩<;>simp (maxSteps:=1000000) [zIS,zMT,zf,zG,Pl.kR,h1,h2,h3,hL,g1,g2,g3,g4,hlen,zg,zH]
   ·obtain⟨j,rfl⟩:∃j:Nat,f=j:=⟨f.toNat,by omega⟩;have j1:¬(j:Int)<0:=by omega
    have j2:(0:Int)<=j:=by omega
    have j3:j<ws.length:=by omega
    have j4:j<8:=by omega
    have j5:(j:Int)<8:=by omega
    rcases hT with rfl |⟨p,rfl⟩<;>simp (maxSteps:=1000000) [zIS,zMT,zf,zG,Pl.kR,h1,h2,h3,hL,g1,g2,g3,g4,hlen,j1,j2,j3,j4,j5,zg,zH]
 ·have d1:zKW m r c k=false:=by simpa using d1
  rw[d1]at h1 hin ⊢;obtain⟨E,T,⟨hT,g1,g2,g3,g4⟩,hL⟩:=zOp m zs ss r c k signals kQ (zLj c q last k) (by omega) (zLj c q last k) 0 rfl (jp _);simp only[zLj]at *;generalize zK5 kQ (okC m zs ss r c k signals false) (Pl.yu c q last (max 0 (min k.ego.vhi 2000))) 0=y at *;generalize Pl.yu c q last (max 0 (min k.ego.vhi 2000))=ws at *;obtain⟨f,n⟩:=y;simp only at g1 g2 g3 g4 hin ⊢;simp only[zf,zG,Pl.kR,Pl.uB,ji,je,seE,zLh,hlenI,jg]at h1 h2 hL g3;rw[zUa zLc rfl];rcases hin with rfl |⟨i1,i2⟩
  ·rcases hT with rfl |⟨p,rfl⟩<;>simp (maxSteps:=1000000) [zIS,zMT,zf,zG,Pl.kR,h1,h2,hL,g1,g2,g3,g4,hlen,zg,zH]
  ·obtain⟨j,rfl⟩:∃j:Nat,f=j:=⟨f.toNat,by omega⟩;have j1:¬(j:Int)<0:=by omega
   have j2:(0:Int)<=j:=by omega
   have j3:j<ws.length:=by omega
   have j4:j<8:=by omega
   have j5:(j:Int)<8:=by omega
   rcases hT with rfl |⟨p,rfl⟩<;>simp (maxSteps:=1000000) [zIS,zMT,zf,zG,Pl.kR,h1,h2,hL,g1,g2,g3,g4,hlen,j1,j2,j3,j4,j5,zg,zH]
def Zh2(d:NdV)(n:Nat):List Int:=(List.range n).map fun(i:Nat)=>Pl.uD d.kU (i:Int)
theorem Zkw(d:NdV)(n:Nat):Zh2 d (n+1)=Zh2 d n++[Pl.uD d.kU n]:=by simp[Zh2,List.range_succ]
theorem ZjG(d:NdV)(n:Nat):(Zh2 d n).length=n:=by simp[Zh2]
theorem Zkm(S:StV)(d:NdV)(g:RgV)(c:Int)(es:List Zou)(v w u:Nat)(hp:d.kU.length<=1000)(D:Nat)(hD:D<=5):∀(f i:Nat),i+f=D ->
  Y L Cs Zhj (some [3,14,13,0]) 4 [(3,.w (.c (sl 3 1 (zu (Zh2 d i))))),(14,.w (W i)),(13,.w (W D)),(0,.w (Pt 0))] (ndM S d g c es v w u++[some (own 1 (zu (Zh2 d i)))]) =
    some (.exit 0,[(15,.w (Bo false)),(3,.w (.c (sl 3 1 (zu (Zh2 d D))))),(14,.w (W D)),(13,.w (W D)),(0,.w (Pt 0))],ndM S d g c es v w u++[some (own 1 (zu (Zh2 d D)))])
 |0,i,h=>by
  obtain rfl:i=D:=by omega
  obtain⟨s0,s1,s2,s3,s4,n,ini,p⟩:=g;rw[ZfM Zhj.eq_1];cases ini<;>simp[Zly]
 |f+1,i,h=>by
  have ih:=Zkm S d g c es v w u hp D hD f (i+1) (by omega);have hw:=zB (i:=i) (by omega);have hci:(i:Int)<D:=by omega
  have hA:=Pl.C6 d.kU hp i;have hq:=ZjG d i;have hr:((Zh2 d i).length+1)*8<=140737488355328:=by omega
  rw[<-ih,Zkw];generalize Pl.uD d.kU (i:Int)=a at *;generalize Zh2 d i=q at *;obtain⟨s0,s1,s2,s3,s4,n,ini,p⟩:=g;rw[ZfM Zhj.eq_1];cases ini<;>simp[hci,hw,hA,hr,zX,Zly,-Int.natCast_add]
def Zkd(S:StV)(zs:List Zon)(ss:List Sgn)(d:NdV):Int×Int:=zOU S.m zs ss S.r S.car d.k9 (Zh2 d S.car.um.toNat) d.qN S.kQ S.sig
def ZiG(S:StV)(zs:List Zon)(ss:List Sgn)(d:NdV):NdV:={ d with looked:=(Zkd S zs ss d).2,kU:=if 0<=(Zkd S zs ss d).1 then zMT (zLj S.car (Zh2 d S.car.um.toNat) d.qN d.k9) (Zkd S zs ss d).1 else d.kU }
theorem ZjR{S:StV}{zs:List Zon}{ss:List Sgn}(hS:z6u S zs ss)(d:NdV)(g:RgV)(c:Int)(es:List Zou)(v w u:Nat)(hp:d.kU.length<=1000)(hk:d.k9.jZ.length<=100000000000) :
  ∃v',v<v'/\R L Cs ZhB [Pt 0] (ndM S d g c es v w u)=some (.w (.c (.fn Zhq [.ptr 0 0 0 0] [])),ndM S (ZiG S zs ss d) g c es v' w u):=by
 obtain⟨q1,q2,q3,q4,q5,q6,q7,q8,q9,q10⟩:=hS.car;obtain⟨D,hD⟩:=jD q9;have hr2:=zlP hS.full.full.yl hS.vE;have hL:=Zkm S d g c es v w u hp D (by omega) D 0 (by omega);have hS2:=zPl hS.full S.r (by omega) S.car hS.car d.k9 hk (Zh2 d D) (by rw[ZjG];omega) d.qN S.kQ S.sig;have hql:=ZjG d D;have htk:(zu (Zh2 d D)).take D=zu (Zh2 d D):=jB (by simp[hql]);unfold ZiG Zkd;have eD:S.car.um.toNat=D:=by rw[hD];rfl
 rw[eD];have q0:Zh2 d 0=[]:=rfl;generalize zOU S.m zs ss S.r S.car d.k9 (Zh2 d D) d.qN S.kQ S.sig=y at *;generalize zLj S.car (Zh2 d D) d.qN d.k9=z at *;obtain⟨f,n⟩:=y;simp only at hS2 ⊢;simp only[q0,ndM,ji,je,jg,zay,sl,own,jo,zfq,hql]at hL;simp only[zf,Pl.kR,zG,hD]at hS2;obtain⟨s0,s1,s2,s3,s4,na,ini,p⟩:=g;by_cases hf:0<=f
 ·refine⟨v+2,by omega,?_⟩;simp only[hf,if_true,decide_true]at hS2 ⊢;rw[zUa ZhH rfl];cases ini<;>simp[Zho,hL,hS2,hD,htk,hql,zX,Zly,zr]
 ·refine⟨v+1,by omega,?_⟩;simp only[hf,if_false,decide_false]at hS2 ⊢;rw[zUa ZhH rfl];cases ini<;>simp[Zho,hL,hS2,hD,htk,hql,zX,Zly,zr]
structure KB(m:zD)(k:zci):Prop where
 nd:KNd m k
 far:k.ego.shi<=1000000000+2000*k.tick
 few:k.tick<=100000
theorem KB.step{S:StV}{zs:List Zon}{ss:List Sgn}(hS:z6u S zs ss){k:zci}(h:KB S.m k)(ht:k.tick<100000)(a:Int):KB S.m (ZhP S zs ss k a)/\(ZhP S zs ss k a).tick=k.tick+1:=by
 have hd:=zLs hS.full.full.qD hS.vE h.nd.j.ego a;have hf:=h.far;have h0:=h.nd.t;have e:(ZhP S zs ss k a).ego=zaN S.m S.r k.ego a:=rfl;have et:(ZhP S zs ss k a).tick=k.tick+1:=rfl;have hj:=zNm hS.full.full hS.vE S.car.len S.sig h.nd.j a (show(zaN S.m S.r k.ego a).shi<=1099511627776 by omega);exact⟨⟨⟨hj,by rw[et];omega⟩,by rw[e,et];omega,by rw[et];omega⟩,et⟩
theorem ZjY:∀(l:List Mrk) (k:zci) (b:Bool),(ZhZ l (k,b)).1.ego.shi=k.ego.shi
 |[],k,b=>rfl
 |x::l,k,b=>by
  show(ZhZ l ((z9f k x.st x.lo x.hi).1,b&&(z9f k x.st x.lo x.hi).2)).1.ego.shi=_;rw[ZjY l];exact(ZhO k x.st x.lo x.hi).2.2.2
theorem Zka:∀(l:List Mrk) (k:zci) (b:Bool),(Zis l (k,b)).1.ego.shi<=k.ego.shi
 |[],k,b=>jS _
 |x::l,k,b=>by
  show(Zis l ((Zag k x.st x.lo x.hi).1,b&&(Zag k x.st x.lo x.hi).2)).1.ego.shi<=_;refine Int.le_trans (Zka l _ _) ?_;unfold Zag
  (repeat' split)<;>simp only<;>omega
theorem ZjZ(S:StV):∀(l:List zZP) (k:zci) (b:Bool),(ZiH S l (k,b)).1.ego=k.ego
 |[],k,b=>rfl
 |x::l,k,b=>by
  show(ZiH S l (Zhv S (Zib S.m k x),b&&ZiS S.m (Zhv S (Zib S.m k x)) x.pts)).1.ego=_;rw[ZjZ S l];rfl
theorem ZkN(S:StV)(q:Option Hrd)(k:zci):(znE S q k).1.ego.shi<=k.ego.shi:=by
 cases q with
 |none=>exact jS _
 |some y =>
  have e:(znE S (some y) k).1.ego=(Zis y.ki (ZhZ y.jR (k,true))).1.ego:=ZjZ S y.kg _ _;rw[e];refine Int.le_trans (Zka y.ki _ _) ?_;exact Int.le_of_eq (ZjY y.jR k true)
theorem KB.Ax{S:StV}{k:zci}(h:KB S.m k)(q:Option Hrd):KB S.m (znE S q k).1/\(znE S q k).1.tick=k.tick:=by
 obtain⟨h1,h2⟩:=h.nd.Ax q;have:=ZkN S q k;have:=h.far;have:=h.few;exact⟨⟨h1,by rw[h2];omega,by rw[h2];omega⟩,h2⟩
def chN(S:StV)(zs:List Zon)(ss:List Sgn)(es:List Zou)(l:List Int)(x:zci×Bool):zci×Bool :=
 l.foldl (fun q a=>((znE S (znB (q.1.tick+1) es) (ZhP S zs ss q.1 a)).1,q.2&&(znE S (znB (q.1.tick+1) es) (ZhP S zs ss q.1 a)).2)) x
def Zir(g:RgV):Nat->Int
 |0=>g.s0
 |1=>g.s1
 |2=>g.s2
 |3=>g.s3
 |_=>g.s4
theorem ZkB{g:RgV}(h:g.na<=5){i:Nat}(hi:i<g.na):g.jL.drop i=Zir g i::g.jL.drop (i+1):=by
 obtain⟨s0,s1,s2,s3,s4,n,ini,p⟩:=g;simp only at h hi;unfold RgV.jL Zir;rcases n with _|_|_|_|_|_|n
 ·omega
 all_goals first |(exfalso;omega) |(rcases i with _ |_ |_ |_ |_ |i<;>first |rfl |(exfalso;omega))
def Zk8(es:List Zou):Prop:=∀t h,znB t es=some h->Zld h t
theorem ZkP{S:StV}{zs:List Zon}{ss:List Sgn}(hS:z6u S zs ss)(es:List Zou):∀(l:List Int) (k:zci) (b:Bool),KB S.m k->k.tick+l.length<=100000->KB S.m (chN S zs ss es l (k,b)).1/\(chN S zs ss es l (k,b)).1.tick=k.tick+l.length
 |[],k,b,h,ht=>⟨h,by simp[chN]⟩
 |a::l,k,b,h,ht=>by
  simp only[jl]at ht;obtain⟨h1,h2⟩:=h.step hS (by omega) a;obtain⟨h3,h4⟩:=h1.Ax (znB (k.tick+1) es);obtain⟨h5,h6⟩:=ZkP hS es l _ (b&&(znE S (znB (k.tick+1) es) (ZhP S zs ss k a)).2) h3 (by rw[h4,h2];omega);refine⟨h5,h6.trans ?_⟩;rw[h4,h2,jl];omega
abbrev fgE(i na:Nat)(A:Cl)(ok:Bool):Env:=[(4,.w (Bo ok)),(29,.w (W i)),(28,.w (W na)),(27,.w (.c A)),(0,.w (Pt 0)),(3,.w (Pt 3))]
theorem Zks{S:StV}{zs:List Zon}{ss:List Sgn}(hS:z6u S zs ss)(d:NdV){g:RgV}(hg:g.na<=5)(hi0:g.ini=false)(ha:∀a∈g.jL,zk0 a)(c:Int)(es:List Zou)(he:Zk8 es)(v w u:Nat):∀(f i:Nat) (k:zci) (ok:Bool) (vk:Nat),i+f=g.na->KB S.m k->k.tick+f<=100000 ->
  ∃vk',Y L Cs Zhc (some [4,29,28,27,0,3]) 4 (fgE i g.na (.bsl 1 0 0 0 1 g.na 5) ok) (ndM S d g c es v w u++[bxv vk 6 (zG k)]) =
   some (.exit 0,(30,.w (Bo false))::fgE g.na g.na (.bsl 1 0 0 0 1 g.na 5) (chN S zs ss es (g.jL.drop i) (k,ok)).2,ndM S d g c es v w u++[bxv vk' 6 (zG (chN S zs ss es (g.jL.drop i) (k,ok)).1)])
 |0,i,k,ok,vk,hf,hk,ht=>by
  obtain rfl:i=g.na:=by omega
  have e:g.jL.drop g.na=[]:=qI (by simp[RgV.jL];omega);rw[e];refine⟨vk,?_⟩;obtain⟨s0,s1,s2,s3,s4,n,ini,p⟩:=g;simp only at hi0;subst hi0;rw[ZfM Zhc.eq_1];simp[chN,Zly]
 |f+1,i,k,ok,vk,hf,hk,ht=>by
  have hin:i<g.na:=by omega
  have e:=ZkB hg hin;have ha0:zk0 (Zir g i):=ha _ (qm (by rw[e];exact jq));obtain⟨k1,k2⟩:=hk.step hS (by omega) (Zir g i);obtain⟨k3,k4⟩:=k1.Ax (znB (k.tick+1) es);have h1:=Zkc hS d g c es v w u hk.nd (Zir g i) ha0;have h2:=ZjM hS d g c es v w u k1.nd (fun h hh=>he _ h hh);rw[k2]at h2;obtain⟨vk',ih⟩:=Zks hS d hg hi0 ha c es he v w u f (i+1) (znE S (znB (k.tick+1) es) (ZhP S zs ss k (Zir g i))).1 (ok&&(znE S (znB (k.tick+1) es) (ZhP S zs ss k (Zir g i))).2) (vk+1) (by omega) k3 (by rw[k4,k2];omega);refine⟨vk',?_⟩;have ec:chN S zs ss es (g.jL.drop i) (k,ok)=chN S zs ss es (g.jL.drop (i+1)) ((znE S (znB (k.tick+1) es) (ZhP S zs ss k (Zir g i))).1,ok&&(znE S (znB (k.tick+1) es) (ZhP S zs ss k (Zir g i))).2):=by rw[e];rfl
  rw[ec,<-ih];have hw:=zB (i:=i) (by omega);have hci:(i:Int)<g.na:=by omega
  clear ih ec k1 k2 k3 k4;generalize znE S (znB (k.tick+1) es) (ZhP S zs ss k (Zir g i))=y at *;obtain⟨ky,oy⟩:=y;generalize ZhP S zs ss k (Zir g i)=ks at *;obtain⟨s0,s1,s2,s3,s4,n,ini,p⟩:=g;simp only at hi0 hg hin hci;subst hi0;simp only[zG]at h1 h2;rw[ZfM Zhc.eq_1];simp[ndM,ndC,rgC,mpB,bxv]at h1 h2;have e1:(1:Int)<n<->1<n:=by omega
  have e2:(2:Int)<n<->2<n:=by omega
  have e3:(3:Int)<n<->3<n:=by omega
  have e4:(4:Int)<n<->4<n:=by omega
  rcases i with _|_|_|_|_|i
  case succ.succ.succ.succ.succ=>omega
  all_goals simp only[Zir]at h1
  all_goals have hin':=hin
  all_goals simp (config:={ failIfUnchanged:=false }) only[jF,Nat.reduceAdd]at hin'
  all_goals cases ok<;>simp[fgE,hin',e1,e2,e3,e4,h1,h2,wk1,wk2,wk3,wk4,wk5,zG,Zly,-Int.natCast_add]
def Zkz(S:StV)(zs:List Zon)(ss:List Sgn)(g:RgV)(es:List Zou):zci×Bool:=chN S zs ss es g.jL (znE S (znB g.jO.tick es) g.jO)
theorem Zlo(ok:Bool)(M:Mem):Y L Cs Zhc (some [4,29,28,27,0,3]) 4 [(4,.w (Bo ok)),(29,.w (W 0)),(28,.w (W 0)),(27,.w (.c .jc)),(0,.w (Pt 0)),(3,.w (Pt 3))] M=some (.exit 0,[(30,.w (Bo false)),(4,.w (Bo ok)),(29,.w (W 0)),(28,.w (W 0)),(27,.w (.c .jc)),(0,.w (Pt 0)),(3,.w (Pt 3))],M):=by
 rw[ZfM Zhc.eq_1];simp
theorem Zkj{S:StV}{zs:List Zon}{ss:List Sgn}(hS:z6u S zs ss)(d:NdV){g:RgV}(hg:ZjQ g)(ha:∀a∈g.jL,zk0 a)(hk:KB S.m g.jO)(ht:g.jO.tick+g.na<=100000)(c:Int)(es:List Zou)(he:Zk8 es)(v w u:Nat) :
  R L Cs ZhW [Pt 0] (ndM S d g c es v w u)=some (.w (.c (.fn (if(Zkz S zs ss g es).2 then ZhK else ZiI) [.ptr 0 0 0 0] [])),ndM S { d with k9:=(Zkz S zs ss g es).1 } g c es (v+1) w u):=by
 obtain⟨k1,k2⟩:=hk.Ax (znB g.jO.tick es);have h1:=ZjM hS d g c es v w u hk.nd (fun h hh=>he _ h hh);unfold Zkz;cases hi:g.ini with
 |true =>
  have h0:=hg.ini hi;have e:g.jL=[]:=by simp[RgV.jL,h0]
  rw[e];simp only[chN,List.foldl_nil];generalize znE S (znB g.jO.tick es) g.jO=y at *;obtain⟨ky,oy⟩:=y;obtain⟨s0,s1,s2,s3,s4,n,ini,p⟩:=g;simp only at hi h0;subst hi;subst h0;simp only[zG]at h1;rw[zUa ZhX rfl];simp[ndM,ndC,rgC,mpB,bxv]at h1;cases oy<;>simp[Zhr,h1,Zlo,zG,Zly,zr]
 |false =>
  obtain⟨vk',hL⟩:=Zks hS d hg.few hi ha c es he v w u g.na 0 (znE S (znB g.jO.tick es) g.jO).1 (znE S (znB g.jO.tick es) g.jO).2 1 (by omega) k1 (by rw[k2];exact ht);simp only[yf]at hL;generalize znE S (znB g.jO.tick es) g.jO=y at *;obtain⟨ky,oy⟩:=y;simp only at hL;generalize chN S zs ss es g.jL (ky,oy)=z at *;obtain⟨kz,oz⟩:=z;obtain⟨s0,s1,s2,s3,s4,n,ini,p⟩:=g;simp only at hi;subst hi;simp only[zG,fgE,ndM,ji,je,jg]at h1 hL;rw[zUa ZhX rfl];simp[ndC,rgC,mpB,bxv]at h1;cases oz<;>simp[Zhr,h1,hL,zG,Zly,zr]
def ZjP(n:Int)(es:List Zou):List Zou:=match ZiR n es 0 with
 |some (i,_)=>es.eraseIdx i
 |none=>es
theorem Zi0{α β:Type}{f:α->β}:∀(l:List α) (i:Nat),(l.map f).eraseIdx i=(l.eraseIdx i).map f
 |[],_=>rfl
 |_::_,0=>rfl
 |a::l,i+1=>by simp[Zi0 l i]
theorem Zkf{M:Mem}{c:Int}{es:List Zou}{u:Nat}{id:Nat}(h:M[id]?=some (mpB c es u))(n:Int):∃u' fp,(u<=u'/\(u'=u->ZjP n es=es))/\zoK M [.c (.map id true),.c (.int .i64 n)]=some (.t [],M.set id (mpB c (ZjP n es) u'),fp):=by
 unfold zoK ZjP;simp only[Zia h,ZiE,zlW];cases ZiR n es 0 with
 |none =>
  refine⟨u,.no,⟨jm _,fun _=>rfl⟩,?_⟩;simp only[Option.map_none]
  congr 3
  apply ua;intro k;by_cases hk:id=k
  ·subst hk;rw[j9 (jV.1 h).1,h]
  ·rw[jI hk]
 |some q =>
  refine⟨u+1,.wr [(id,0,whole)],⟨kO u,fun h=>absurd h (by omega)⟩,?_⟩;simp[mpB,Zi0]
def Zh0(t:Int)(ks:List Int)(es:List Zou):List Zou:=ks.foldl (fun es k=>if k<t then ZjP k es else es) es
theorem Zgm(S:StV)(d:NdV)(g:RgV)(c:Int)(v w:Nat)(ks:List Int)(hks:ks.length<=1000):∀(r:List Int) (i:Nat) (es:List Zou) (u:Nat),ks.drop i=r->i<=ks.length ->
  ∃u',(u<=u'/\(u'=u->Zh0 g.jO.tick r es=es))/\Y L Cs Zlz (some [62,61,60,0]) 4 [(62,.w (W i)),(61,.w (W ks.length)),(60,.w (.c (.jb (zu ks)))),(0,.w (Pt 0))] (ndM S d g c es v w u++[bx 1 [.map 2 true]]) =
   some (.exit 2,[(63,.w (Bo false)),(62,.w (W ks.length)),(61,.w (W ks.length)),(60,.w (.c (.jb (zu ks)))),(0,.w (Pt 0))],ndM S d g c (Zh0 g.jO.tick r es) v w u'++[bx 1 [.map 2 true]])
 |[],i,es,u,hd,hi=>by
  have e:i=ks.length:=by
   have:=congrArg List.length hd;simp at this;omega
  subst e;refine⟨u,⟨jm _,fun _=>rfl⟩,?_⟩;obtain⟨s0,s1,s2,s3,s4,n,ini,p⟩:=g;rw[ZfM Zlz.eq_1];cases ini<;>simp[Zh0,Zly]
 |x::r,i,es,u,hd,hi=>by
  have h1:i<ks.length:=by
   have:=congrArg List.length hd;simp at this;omega
  have h2:ks[i]=x:=by rw[Go.jx h1]at hd;exact(j6 hd).1
  have h3:ks.drop (i+1)=r:=by rw[Go.jx h1]at hd;exact(j6 hd).2
  have hw:=zB (i:=i) (by omega);have hci:(i:Int)<ks.length:=by omega
  have kY:(zu ks)[i]?=some [I x]:=by simp[zu,h1,h2]
  by_cases hc:x<g.jO.tick
  ·have hM:(ndM S d g c es v w u++[bx 1 [.map 2 true]])[2]?=some (mpB c es u):=rfl;obtain⟨u1,fp,hfp,hD⟩:=Zkf hM x;obtain⟨u',hu,ih⟩:=Zgm S d g c v w ks hks r (i+1) (ZjP x es) u1 h3 (by omega);have e:Zh0 g.jO.tick (x::r) es=Zh0 g.jO.tick r (ZjP x es):=by simp[Zh0,hc]
   refine⟨u',⟨jP hfp.1 hu.1,fun q=>?_⟩,?_⟩
   ·have h5:=hfp.1;have h6:=hu.1;rw[e,hu.2 (by omega)];exact hfp.2 (by omega)
   rw[e,<-ih];clear hfp hu;generalize ZjP x es=es' at *;obtain⟨s0,s1,s2,s3,s4,n,ini,p⟩:=g;simp only[ndM,ji,je,own,zfq]at hD;simp only at hc;rw[ZfM Zlz.eq_1];cases ini<;>simp[hci,h1,h2,hw,hc,hD,Zly,-Int.natCast_add]
  ·obtain⟨u',hu,ih⟩:=Zgm S d g c v w ks hks r (i+1) es u h3 (by omega);have e:Zh0 g.jO.tick (x::r) es=Zh0 g.jO.tick r es:=by simp[Zh0,hc]
   refine⟨u',⟨hu.1,fun q=>by rw[e];exact hu.2 q⟩,?_⟩;rw[e,<-ih];clear hu;obtain⟨s0,s1,s2,s3,s4,n,ini,p⟩:=g;simp only at hc;rw[ZfM Zlz.eq_1];cases ini<;>simp[hci,h1,h2,hw,hc,Zly,-Int.natCast_add]
theorem Zj9(S:StV)(d:NdV)(g:RgV)(c:Int)(es:List Zou)(v w u:Nat)(hn:0<=d.now/\d.now<=1099511627776)(h:¬g.jO.tick<d.now-4):Y L Cs ZlA (some [0]) 3 [(0,.w (Pt 0))] (ndM S d g c es v w u)=some (.exit 0,[(19,.w (Bo false)),(0,.w (Pt 0))],ndM S d g c es v w u):=by
 have hw:IntKind.i64.wrap (d.now-4)=d.now-4:=zTd _ (by omega) (by omega);obtain⟨s0,s1,s2,s3,s4,n,ini,p⟩:=g;simp only at h;rw[ZfM ZlA.eq_1];cases ini<;>simp[hw,h,Zly]
def Zh9(S:StV)(zs:List Zon)(ss:List Sgn)(es:List Zou)(g:RgV):RgV:=ZhL { g with jO:=ZhP S zs ss (znE S (znB g.jO.tick es) g.jO).1 g.s0 }
theorem ZgL{S:StV}{zs:List Zon}{ss:List Sgn}(hS:z6u S zs ss)(d:NdV){g:RgV}(hg:g.na<=5)(h0:0<g.na)(hi:g.ini=false)(ha:zk0 g.s0)(hk:KB S.m g.jO)(ht:g.jO.tick<100000)(c:Int)(es:List Zou)(he:Zk8 es)(v w u:Nat)(hn:0<=d.now/\d.now<=1099511627776)(h:g.jO.tick<d.now-4) :
  Y L Cs ZlA (some [0]) 3 [(0,.w (Pt 0))] (ndM S d g c es v w u)=Y L Cs ZlA (some [0]) 3 [(0,.w (Pt 0))] (ndM S d (Zh9 S zs ss es g) c es v (w+3) u):=by
 have hw:IntKind.i64.wrap (d.now-4)=d.now-4:=zTd _ (by omega) (by omega);obtain⟨k1,k2⟩:=hk.Ax (znB g.jO.tick es);have h1:=ZjM hS d g c es v w u hk.nd (fun h hh=>he _ h hh);have h2:=Zkc hS d g c es v w u k1.nd g.s0 ha;have h3:=Zki (g:={ g with jO:=ZhP S zs ss (znE S (znB g.jO.tick es) g.jO).1 g.s0 }) hg h0 hi (w+1);have h4:=(Zjr (g:={ g with jO:=ZhP S zs ss (znE S (znB g.jO.tick es) g.jO).1 g.s0 }) hg h0 hi).2.2.2.2;unfold Zh9;generalize ZhL { g with jO:=ZhP S zs ss (znE S (znB g.jO.tick es) g.jO).1 g.s0 }=g' at *;generalize znE S (znB g.jO.tick es) g.jO=y at *;obtain⟨ky,oy⟩:=y;simp only at h1 h2 h3;generalize ZhP S zs ss ky g.s0=ks at *;obtain⟨s0,s1,s2,s3,s4,n,ini,p⟩:=g;obtain⟨r0,r1,r2,r3,r4,n',ini',p'⟩:=g';simp only at h4 hi h h0 hg;subst h4;subst hi;have hn1:0<n:=h0;simp only[zG]at h1 h2;rw[ZfM ZlA.eq_1];simp[ndM,ndC,rgC,mpB,bxv]at h1 h2 h3;simp[hw,h,h1,h2,h3,hn1,zG,Zly];rfl
theorem ZkS(c:Int)(es:List Zou)(u:Nat):R L Cs Zi1 [.c (.map 0 true)] [mpB c es u]=some (.w (.c (.fn Zhd [] [.ptr 1 0 0 0])),[mpB c es u,bx 1 [.map 0 true]]):=by
 rw[zUa Zjd rfl];simp[ZhC,zr,Zly]
def ZjC(c:Int)(es:List Zou)(ks:List Int):Prop:=∀u,R L Cs Zit [.c (.fn Zhd [] [.ptr 0 0 0 0])] [bx 1 [.map 1 true],mpB c es u]=some (.w (.c (.jb (zu ks))),[bx 1 [.map 1 true],mpB c es u])
theorem Zjs{S:StV}(d:NdV)(g:RgV)(c:Int)(es:List Zou)(v w u:Nat)(g':RgV)(w1:Nat)(h1:Y L Cs ZlA (some [0]) 3 [(0,.w (Pt 0))] (ndM S d g c es v w u)=some (.exit 0,[(19,.w (Bo false)),(0,.w (Pt 0))],ndM S d g' c es v w1 u))(ks:List Int)(hK:ZjC c es ks)(hks:ks.length<=1000) :
  ∃u',(u<=u'/\(u'=u->Zh0 g'.jO.tick ks es=es))/\R L Cs Zhz [Pt 0] (ndM S d g c es v w u)=some (.t [],ndM S d g' c (Zh0 g'.jO.tick ks es) v w1 u'):=by
 have hk1:=ZkS c es u;have hk2:=hK u;obtain⟨u',hu,hL⟩:=Zgm S d g' c v w1 ks hks ks 0 es u rfl (jp _);refine⟨u',hu,?_⟩;clear hu;generalize Zh0 g'.jO.tick ks es=es' at *;obtain⟨r0,r1,r2,r3,r4,n',ini',p'⟩:=g';simp only[ndM,ji,je,jg,zfq]at hL hk2;rw[zUa ZhY rfl];cases ini'<;>simp[Zhs,h1,hk1,hk2,hL,zr,Zly]
def Zhl(S:StV)(zs:List Zon)(ss:List Sgn)(es:List Zou)(g:RgV):RgV:=if g.na=5 then Zh9 S zs ss es g else g
theorem Zj0{S:StV}{zs:List Zon}{ss:List Sgn}(hS:z6u S zs ss){g:RgV}(hg:g.na<=5)(h0:0<g.na)(hi:g.ini=false)(hk:KB S.m g.jO)(ht:g.jO.tick<100000)(es:List Zou) :
  ZjQ (Zh9 S zs ss es g)/\(Zh9 S zs ss es g).na+1=g.na/\(Zh9 S zs ss es g).jL=g.jL.tail/\(Zh9 S zs ss es g).jO=ZhP S zs ss (znE S (znB g.jO.tick es) g.jO).1 g.s0/\KB S.m (Zh9 S zs ss es g).jO/\(Zh9 S zs ss es g).jO.tick=g.jO.tick+1:=by
 obtain⟨k1,k2⟩:=hk.Ax (znB g.jO.tick es);obtain⟨k3,k4⟩:=k1.step (zs:=zs) (ss:=ss) hS (by rw[k2];exact ht) g.s0;obtain⟨a1,a2,a3,a4,a5⟩:=Zjr (g:={ g with jO:=ZhP S zs ss (znE S (znB g.jO.tick es) g.jO).1 g.s0 }) hg h0 hi;refine⟨a4,a2,a1,a3,?_,?_⟩
 ·unfold Zh9;rw[a3];exact k3
 ·unfold Zh9;rw[a3];simp only;rw[k4,k2]
theorem Zkk{S:StV}{zs:List Zon}{ss:List Sgn}(hS:z6u S zs ss)(d:NdV){g:RgV}(hg:ZjQ g)(ha:∀a∈g.jL,zk0 a)(hk:KB S.m g.jO)(hn:d.now=g.jO.tick+g.na)(ht:d.now<=100000)(c:Int)(es:List Zou)(he:Zk8 es)(v w u:Nat)(ks:List Int)(hK:ZjC c es ks)(hks:ks.length<=1000) :
  ∃w' u',(w<=w'/\(w'=w->Zhl S zs ss es g=g))/\(u<=u'/\(u'=u->Zh0 (Zhl S zs ss es g).jO.tick ks es=es))/\R L Cs Zhz [Pt 0] (ndM S d g c es v w u)=some (.t [],ndM S d (Zhl S zs ss es g) c (Zh0 (Zhl S zs ss es g).jO.tick ks es) v w' u'):=by
 have hf:=hg.few;have h0:=hk.nd.t;unfold Zhl;by_cases h5:g.na=5
 ·rw[if_pos h5];have hi:g.ini=false:=by
   cases hi:g.ini with
   |false=>rfl
   |true=>have:=hg.ini hi;omega
  have hs0:g.s0∈g.jL:=by simp[RgV.jL,h5]
  obtain⟨b1,b2,b3,b4,b5,b6⟩:=Zj0 (zs:=zs) (ss:=ss) hS hf (by omega) hi hk (by omega) es;have e1:=ZgL (zs:=zs) (ss:=ss) hS d hf (by omega) hi (ha _ hs0) hk (by omega) c es he v w u (by omega) (by omega);have e2:=Zj9 S d (Zh9 S zs ss es g) c es v (w+3) u (by omega) (by rw[b6];omega);obtain⟨u',hu,h⟩:=Zjs d g c es v w u (Zh9 S zs ss es g) (w+3) (e1.trans e2) ks hK hks;exact⟨_,u',⟨by omega,fun q=>absurd q (by omega)⟩,hu,h⟩
 ·rw[if_neg h5];have e2:=Zj9 S d g c es v w u (by omega) (by omega);obtain⟨u',hu,h⟩:=Zjs d g c es v w u g w e2 ks hK hks;exact⟨_,u',⟨jm _,fun _=>rfl⟩,hu,h⟩
structure Zlw(n:Nat)(h:Hrd)(t:Int):Prop where
 n1:h.jR.length<=n
 n2:h.ki.length<=n
 n3:h.kg.length<=n
 s1:∀x∈h.jR,x.st=t
 s2:∀x∈h.ki,x.st=t
 s3:∀x∈h.kg,x.qt=t/\x.seen.length<=5000/\x.pts.length<=1000
def EsN(n:Nat)(es:List Zou):Prop:=∀e∈es,Zlw n e.hrd e.key
theorem ZlB{n:Int}{h:Hrd}:∀{es:List Zou},znB n es=some h->∃e∈es,e.key=n/\e.hrd=h
 |[],hf=>nomatch hf
 |e::r,hf=>by
  unfold znB at hf;split at hf
  ·grind
  ·obtain⟨e',h1,h2⟩:=ZlB hf
   grind
theorem EsN.nil(n:Nat):EsN n []:=fun e h=>nomatch h
theorem EsN.at{n:Nat}{es:List Zou}(h:EsN n es)(t:Int):Zlw n (Ziq es t) t:=by
 unfold Ziq;cases hf:znB t es with
 |none=>exact⟨jp _,jp _,jp _,fun x hx=>absurd hx (by simp),fun x hx=>absurd hx (by simp),fun x hx=>absurd hx (by simp)⟩
 |some y =>
  obtain⟨e,h1,rfl,rfl⟩:=ZlB hf;exact h e h1
theorem EsN.ok{n:Nat}(hn:n<=1000){es:List Zou}(h:EsN n es):Zk8 es:=fun t y hy=>by
 obtain⟨e,h1,rfl,rfl⟩:=ZlB hy;obtain⟨a,b,c,d,e,f⟩:=h e h1;exact⟨jP a hn,jP b hn,jP c hn,fun x hx=>(f x hx).1,fun x hx=>(f x hx).2.1,fun x hx=>(f x hx).2.2⟩
theorem EsN.he{n:Nat}(hn:n<=1000){es:List Zou}(h:EsN n es):Zlq 1000 es:=fun t=>by
 obtain⟨a,b,c,_⟩:=h.at t;omega
theorem EsN.mono{n k:Nat}(hn:n<=k){es:List Zou}(h:EsN n es):EsN k es:=fun t ht=>by
 obtain⟨a,b,c,d,e,f⟩:=h t ht;exact⟨by omega,by omega,by omega,d,e,f⟩
theorem ZjI{α:Type}{f:α->α}{x:α}:∀{l:List α} {i:Nat},x∈l.modify i f->x∈l\/∃y∈l,x=f y
 |[],i,h=>by grind
 |a::l,0,h=>by
  grind
 |a::l,i+1,h=>by
  rcases jK.1 h with rfl|h
  ·grind
  ·rcases ZjI h with h |⟨y,hy,e⟩
   ·grind
   grind
theorem EsN.put{n:Nat}{q:Int×List Zou}(h:EsN n q.2)(t:Int){y:Hrd}(hy:Zlw (n+1) y t):EsN (n+1) (ZiZ t y q).2:=by
 intro e he;unfold ZiZ at he;split at he
 ·rcases ZjI he with he |⟨z,_,rfl⟩
  ·exact h.mono (kO n) e he
  grind
 ·rcases jH.1 he with he|he
  ·exact h.mono (kO n) e he
  grind
theorem EsN.del{n:Nat}{es:List Zou}(h:EsN n es)(t:Int):EsN n (ZjP t es):=by
 intro e he;unfold ZjP at he;split at he
 ·exact h e (List.mem_of_mem_eraseIdx he)
 ·exact h e he
theorem EsN.fgt{n:Nat}(t:Int):∀(ks:List Int) {es:List Zou},EsN n es->EsN n (Zh0 t ks es)
 |[],es,h=>h
 |k::ks,es,h=>by
  show EsN n (Zh0 t ks (if k<t then ZjP k es else es));refine EsN.fgt t ks ?_;split
  ·exact h.del k
  grind
theorem EsN.he1{n:Nat}{d:NdV}{q:Int×List Zou}(h:EsN n q.2)(y:Mrk):EsN (n+1) (he1 d q y).2:=by
 unfold Go.TrRun.he1;split
 ·obtain⟨a,b,c,d,e,f⟩:=h.at y.st;exact h.put _ ⟨by grind,qY b,qY c,fun x hx=>by
   grind,e,f⟩
 ·exact h.mono (kO n)
theorem EsN.he2{n:Nat}{d:NdV}{q:Int×List Zou}(h:EsN n q.2)(y:Mrk):EsN (n+1) (he2 d q y).2:=by
 unfold Go.TrRun.he2;split
 ·obtain⟨a,b,c,d,e,f⟩:=h.at y.st;exact h.put _ ⟨qY a,by grind,qY c,d,fun x hx=>by
   grind,f⟩
 ·exact h.mono (kO n)
theorem EsN.he3{n:Nat}{d:NdV}{q:Int×List Zou}(h:EsN n q.2){y:zZP}(hy:y.seen.length<=5000/\y.pts.length<=1000):EsN (n+1) (he3 d q y).2:=by
 unfold Go.TrRun.he3;split
 ·obtain⟨a,b,c,d,e,f⟩:=h.at y.qt;exact h.put _ ⟨qY a,qY b,by grind,d,e,fun x hx=>by
   grind⟩
 ·exact h.mono (kO n)
structure Zjo where
 tick:Int
 kg:List zZP
 jR:List Mrk
 ki:List Mrk
abbrev inC(x:Zjo):List Cl:=[I x.tick,.jb (ZlG x.kg),.jb (zb x.jR),.jb (zb x.ki)]
structure Zlc(x:Zjo):Prop where
 n1:x.kg.length<=100
 n2:x.jR.length<=100
 n3:x.ki.length<=100
 sc:∀y∈x.kg,y.seen.length<=5000/\y.pts.length<=1000
theorem Zj5{S:StV}(d:NdV)(g:RgV)(v w:Nat)(hn:0<=d.now/\d.now<=1099511627776)(x:Zjo)(l:List Mrk)(hl:l.length<=100):∀(r:List Mrk) (i:Nat) (q:Int×List Zou) (u n:Nat),l.drop i=r->i<=l.length->EsN n q.2->n+r.length<=1000 ->
  ∃u',(u<=u'/\(u'=u->r.foldl (he1 d) q=q))/\EsN (n+r.length) (r.foldl (he1 d) q).2/\Y L Cs zn2 (some [16,15,3,14,0]) 4 (ZkL l i) (heM S d g q v w u (inC x))=some (.exit 0,(17,.w (Bo false))::ZkL l l.length,heM S d g (r.foldl (he1 d) q) v w u' (inC x))
 |[],i,q,u,n,hd,hi,hq,hk=>by
  have e:i=l.length:=by
   grind
  subst e;refine⟨u,⟨jm _,fun _=>rfl⟩,hq,?_⟩;obtain⟨s0,s1,s2,s3,s4,n,ini,p⟩:=g;rw[ZfM zn2.eq_1];cases ini<;>simp[Zly]
 |a::r,i,q,u,n,hd,hi,hq,hk=>by
  have h1:i<l.length:=by
   grind
  have h2:l[i]=a:=by grind [List.drop_eq_getElem_cons,List.cons.inj]
  have h3:l.drop (i+1)=r:=by grind [List.drop_eq_getElem_cons,List.cons.inj]
  simp only[jl]at hk;obtain⟨u1,m1,e⟩:=ZkK (S:=S) d g q v w u hn (x.tick,x.kg,x.jR,x.ki) l (by omega) i h1 (hq.he (by omega));obtain⟨u2,m2,c1,ih⟩:=Zj5 (S:=S) d g v w hn x l hl r (i+1) (he1 d q a) u1 (n+1) h3 (by omega) (hq.he1 a) (by omega);rw[h2]at e m1;exact⟨u2,⟨jP m1.1 m2.1,fun q'=>by
   rw[kc,m2.2 (by omega)];exact m1.2 (by omega)⟩,by rw[jl,<-kV,yR];exact c1,e.trans ih⟩
theorem Zj4{S:StV}(d:NdV)(g:RgV)(v w:Nat)(hn:0<=d.now/\d.now<=1099511627776)(x:Zjo)(l:List Mrk)(hl:l.length<=100):∀(r:List Mrk) (i:Nat) (q:Int×List Zou) (u n:Nat),l.drop i=r->i<=l.length->EsN n q.2->n+r.length<=1000 ->
  ∃u',(u<=u'/\(u'=u->r.foldl (he2 d) q=q))/\EsN (n+r.length) (r.foldl (he2 d) q).2/\Y L Cs znM (some [49,48,3,47,0]) 4 (ZkJ l i) (heM S d g q v w u (inC x))=some (.exit 2,(50,.w (Bo false))::ZkJ l l.length,heM S d g (r.foldl (he2 d) q) v w u' (inC x))
 |[],i,q,u,n,hd,hi,hq,hk=>by
  have e:i=l.length:=by
   grind
  subst e;refine⟨u,⟨jm _,fun _=>rfl⟩,hq,?_⟩;obtain⟨s0,s1,s2,s3,s4,n,ini,p⟩:=g;rw[ZfM znM.eq_1];cases ini<;>simp[Zly]
 |a::r,i,q,u,n,hd,hi,hq,hk=>by
  have h1:i<l.length:=by
   grind
  have h2:l[i]=a:=by grind [List.drop_eq_getElem_cons,List.cons.inj]
  have h3:l.drop (i+1)=r:=by grind [List.drop_eq_getElem_cons,List.cons.inj]
  simp only[jl]at hk;obtain⟨u1,m1,e⟩:=ZkI (S:=S) d g q v w u hn (x.tick,x.kg,x.jR,x.ki) l (by omega) i h1 (hq.he (by omega));obtain⟨u2,m2,c1,ih⟩:=Zj4 (S:=S) d g v w hn x l hl r (i+1) (he2 d q a) u1 (n+1) h3 (by omega) (hq.he2 a) (by omega);rw[h2]at e m1;exact⟨u2,⟨jP m1.1 m2.1,fun q'=>by
   rw[kc,m2.2 (by omega)];exact m1.2 (by omega)⟩,by rw[jl,<-kV,yR];exact c1,e.trans ih⟩
theorem Zkp(d:NdV)(y:zZP):(heD d y).now=d.now:=by grind [heD]
def heS:List zZP->NdV×(Int×List Zou)->NdV×(Int×List Zou)
 |[],x=>x
 |y::r,x=>heS r (heD x.1 y,he3 x.1 x.2 y)
theorem Zj3{S:StV}(g:RgV)(w:Nat)(x:Zjo)(l:List zZP)(hl:l.length<=100)(hsc:∀y∈l,y.seen.length<=5000/\y.pts.length<=1000):∀(r:List zZP) (i:Nat) (d:NdV) (q:Int×List Zou) (u v n:Nat),0<=d.now/\d.now<=1099511627776->l.drop i=r->i<=l.length->EsN n q.2->n+r.length<=1000 ->
  ∃u' v',((u<=u'/\(u'=u->(heS r (d,q)).2=q))/\(v<=v'/\(v'=v->(heS r (d,q)).1=d)))/\EsN (n+r.length) (heS r (d,q)).2.2/\Y L Cs znK (some [82,81,80,0]) 4 (ZkH l i) (heM S d g q v w u (inC x))=some (.exit 4,(83,.w (Bo false))::ZkH l l.length,heM S (heS r (d,q)).1 g (heS r (d,q)).2 v' w u' (inC x))
 |[],i,d,q,u,v,n,hn,hd,hi,hq,hk=>by
  have e:i=l.length:=by
   grind
  refine⟨u,v,⟨⟨jm _,fun _=>rfl⟩,⟨jm _,fun _=>rfl⟩⟩,hq,?_⟩
  simp_all [ZfM,znK.eq_1,Zly,heS]
 |a::r,i,d,q,u,v,n,hn,hd,hi,hq,hk=>by
  have h1:i<l.length:=by
   have:=congrArg List.length hd;simp at this;omega
  have h2:l[i]=a:=by rw[Go.jx h1]at hd;exact(j6 hd).1
  have h3:l.drop (i+1)=r:=by rw[Go.jx h1]at hd;exact(j6 hd).2
  have ha:a∈l:=by rw[<-h2];exact jf h1
  simp only[jl]at hk;obtain⟨u1,v1,⟨m1,m2⟩,e⟩:=ZkG (S:=S) d g q v w u hn (x.tick,x.kg,x.jR,x.ki) l (by omega) (fun y hy=>(hsc y hy).1) (fun y hy=>(hsc y hy).2) i h1 (hq.he (by omega));rw[h2]at e m1 m2;obtain⟨u2,v2,⟨m3,m4⟩,c1,ih⟩:=Zj3 (S:=S) g w x l hl hsc r (i+1) (heD d a) (he3 d q a) u1 v1 (n+1) (by rw[Zkp];exact hn) h3 (by omega) (hq.he3 (hsc a ha)) (by omega);exact⟨u2,v2,⟨⟨jP m1.1 m3.1,fun q'=>by
   show(heS r (heD d a,he3 d q a)).2=q;rw[m3.2 (by omega)];exact m1.2 (by omega)⟩,⟨jP m2.1 m4.1,fun q'=>by
   show(heS r (heD d a,he3 d q a)).1=d;rw[m4.2 (by omega)];exact m2.2 (by omega)⟩⟩,by rw[jl,<-kV,yR];exact c1,e.trans ih⟩
def ZiQ(d:NdV)(q:Int×List Zou)(x:Zjo):NdV×(Int×List Zou):=heS x.kg (d,x.ki.foldl (he2 d) (x.jR.foldl (he1 d) q))
theorem ZkR{S:StV}(d:NdV)(g:RgV)(q:Int×List Zou)(v w u n:Nat)(hn:0<=d.now/\d.now<=1099511627776)(x:Zjo)(hx:Zlc x)(hq:EsN n q.2)(hk:n+300<=1000) :
  ∃v' u',((u<=u'/\(u'=u->(ZiQ d q x).2=q))/\(v<=v'/\(v'=v->(ZiQ d q x).1=d)))/\EsN (n+300) (ZiQ d q x).2.2/\R L Cs Zh4 [Pt 0,.a (inC x)] (ndM S d g q.1 q.2 v w u)=some (.t [],ndM S (ZiQ d q x).1 g (ZiQ d q x).2.1 (ZiQ d q x).2.2 v' w u'):=by
 obtain⟨x1,x2,x3,x4⟩:=hx;obtain⟨u1,m1,a1,h1⟩:=Zj5 (S:=S) d g v w hn x x.jR x2 x.jR 0 q u n rfl (jp _) hq (by omega);obtain⟨u2,m2,a2,h2⟩:=Zj4 (S:=S) d g v w hn x x.ki x3 x.ki 0 (x.jR.foldl (he1 d) q) u1 _ rfl (jp _) a1 (by omega);obtain⟨u3,v3,⟨m3,m4⟩,a3,h3⟩:=Zj3 (S:=S) g w x x.kg x1 x4 x.kg 0 d (x.ki.foldl (he2 d) (x.jR.foldl (he1 d) q)) u2 v _ hn rfl (jp _) a2 (by omega);refine⟨v3,u3,⟨⟨jP m1.1 (jP m2.1 m3.1),fun e=>?_⟩,m4⟩,a3.mono (by omega),?_⟩
 ·grind [ZiQ]
 unfold ZiQ;obtain⟨s0,s1,s2,s3,s4,na,ini,p⟩:=g;simp only[ZkL,ZkJ,ZkH,heM,ndM,ji,je,jg]at h1 h2 h3;rw[zUa Zjh rfl];cases ini<;>simp[ZhF,h1,h2,h3,Zly]
abbrev fnN(f:Nat):Cl:=.fn f [.ptr 0 0 0 0] []
theorem ZjB(S:StV)(d d':NdV)(g:RgV)(c:Int)(es:List Zou)(v v' w u f f':Nat)(x:Zjo)(hv:¬v'=v)(hR:R L Cs f [Pt 0] (ndM S d g c es v w u)=some (.w (.c (fnN f')),ndM S d' g c es v' w u)) :
  Y L Cs zj (some [6,0]) 4 [(6,.w (.c (fnN f))),(0,.w (Pt 0))] (ndM S d g c es v w u++[bx 4 (inC x)])=Y L Cs zj (some [6,0]) 4 [(6,.w (.c (fnN f'))),(0,.w (Pt 0))] (ndM S d' g c es v' w u++[bx 4 (inC x)]):=by
 obtain⟨s0,s1,s2,s3,s4,na,ini,p⟩:=g;rw[ZfM zj.eq_1];cases ini<;>simp[ndM,ndC,rgC,mpB,bxv]at hR<;>simp[hR,hv,Zly,zr]
theorem ZkV(S:StV)(d d':NdV)(g g':RgV)(c:Int)(es:List Zou)(v v' w w' u f:Nat)(x:Zjo)(hv:¬v'=v)(hw:¬w'=w)(hR:R L Cs f [Pt 0] (ndM S d g c es v w u)=some (.w (.c .qV),ndM S d' g' c es v' w' u)) :
  Y L Cs zj (some [6,0]) 4 [(6,.w (.c (fnN f))),(0,.w (Pt 0))] (ndM S d g c es v w u++[bx 4 (inC x)])=some (.exit 1,[(43,.w (Bo false)),(6,.w (.c .qV)),(0,.w (Pt 0))],ndM S d' g' c es v' w' u++[bx 4 (inC x)]):=by
 obtain⟨s0,s1,s2,s3,s4,na,ini,p⟩:=g;obtain⟨r0,r1,r2,r3,r4,ma,jni,p'⟩:=g';rw[ZfM zj.eq_1];cases ini<;>cases jni<;>simp[ndM,ndC,rgC,mpB,bxv]at hR<;>simp[hR,hv,hw,Zly,zr]<;>rw[ZfM zj.eq_1]<;>simp[Zly]
structure Zk7(S:StV)(d:NdV)(g:RgV)(es:List Zou)(n:Nat):Prop where
 rg:ZjQ g
 jL:∀a∈g.jL,zk0 a
 jO:KB S.m g.jO
 now:d.now=g.jO.tick+g.na
 few:d.now<=90000
 ents:EsN n es
 last:0<=d.last/\d.last<=1099511627776
 kU:d.kU.length<=900
def goN(S:StV)(zs:List Zon)(ss:List Sgn)(d:NdV)(k:zci):NdV :=
 if(ZiF S { d with k9:=k }).mode=1 then ZiG S zs ss (ZiF S { d with k9:=k }) else ZiF S { d with k9:=k }
def hrN(S:StV)(zs:List Zon)(ss:List Sgn)(d:NdV)(g:RgV)(c:Int)(es:List Zou)(ks:List Int)(x:Zjo):NdV×(Int×List Zou):=ZiQ d (c,Zh0 (Zhl S zs ss es g).jO.tick ks es) x
theorem Zla:∀(l:List zZP) (d:NdV) (q:Int×List Zou),(heS l (d,q)).1.now=d.now/\(heS l (d,q)).1.kU=d.kU/\(heS l (d,q)).1.first=d.first/\(heS l (d,q)).1.mode=d.mode/\(heS l (d,q)).1.qN=d.qN/\(heS l (d,q)).1.told=d.told/\(heS l (d,q)).1.k9=d.k9
 |[],d,q=>⟨rfl,rfl,rfl,rfl,rfl,rfl,rfl⟩
 |y::l,d,q=>by
  have h:=Zla l (heD d y) (he3 d q y);have e:(heD d y).now=d.now/\(heD d y).kU=d.kU/\(heD d y).first=d.first/\(heD d y).mode=d.mode/\(heD d y).qN=d.qN/\(heD d y).told=d.told/\(heD d y).k9=d.k9:=by
   unfold heD;split<;>exact⟨rfl,rfl,rfl,rfl,rfl,rfl,rfl⟩
  obtain⟨a1,a2,a3,a4,a5,a6,a7⟩:=h;obtain⟨b1,b2,b3,b4,b5,b6,b7⟩:=e;exact⟨a1.trans b1,a2.trans b2,a3.trans b3,a4.trans b4,a5.trans b5,a6.trans b6,a7.trans b7⟩
theorem Zj2:∀(l:List zZP) (d:NdV) (q:Int×List Zou),0<=d.last/\d.last<=1099511627776->0<=d.now/\d.now<=1099511627776->0<=(heS l (d,q)).1.last/\(heS l (d,q)).1.last<=1099511627776
 |[],d,q,h,_=>h
 |y::l,d,q,h,hn=>by
  refine Zj2 l (heD d y) (he3 d q y) ?_ (by rw[Zkp];exact hn);unfold heD Zjv;split
  ·rename_i hc;simp only[jh,decide_eq_true_eq]at hc;simp only;omega
  ·exact h
theorem Zko{S:StV}{d d':NdV}{g g':RgV}{c c':Int}{es es':List Zou}{v v' w w' u u' f:Nat}{xs:List Cl}{X:List Cl}(hxs:xs=[]\/∃x:Zjo,xs=inC x)(hX:∃x:Zjo,X=inC x)(hv:v'=v->d'=d)(hw:w'=w->g'=g)(hu:u'=u->c'=c/\es'=es)
  (hR:R L Cs f (Pt 0::if xs=[] then [] else [.a xs]) (ndM S d g c es v w u)=some (.t [],ndM S d' g' c' es' v' w' u')) :
  ∃fp,zx (R L Cs) ⟨true⟩ (.c (.fn f [] [])) (Pt 0::if xs=[] then [] else [.a xs]) (ndM S d g c es v w u++[bx 4 X])=some (.t [],ndM S d' g' c' es' v' w' u'++[bx 4 X],fp):=by
 obtain⟨x0,rfl⟩:=hX;obtain⟨s0,s1,s2,s3,s4,na,ini,p⟩:=g;obtain⟨r0,r1,r2,r3,r4,ma,jni,p'⟩:=g';by_cases a1:v'=v
 ·have:=hv a1;subst this;subst a1;by_cases a2:w'=w
  ·have:=hw a2;cases this;subst a2;by_cases a3:u'=u
   ·obtain⟨rfl,rfl⟩:=hu a3;subst a3;refine⟨.no,?_⟩;rcases hxs with rfl |⟨x,rfl⟩<;>cases ini<;>simp[ndM,ndC,rgC,mpB,bxv]at hR<;>simp[hR,Zly]
   ·refine⟨.wr [(2,0,whole)],?_⟩;rcases hxs with rfl |⟨x,rfl⟩<;>cases ini<;>simp[ndM,ndC,rgC,mpB,bxv]at hR<;>simp[hR,Zly,a3]
  ·by_cases a3:u'=u
   ·obtain⟨rfl,rfl⟩:=hu a3;subst a3;refine⟨.wr [(1,0,whole)],?_⟩;rcases hxs with rfl |⟨x,rfl⟩<;>cases ini<;>cases jni<;>simp[ndM,ndC,rgC,mpB,bxv]at hR<;>simp[hR,Zly,a2]
   ·refine⟨.wr [(1,0,whole),(2,0,whole)],?_⟩;rcases hxs with rfl |⟨x,rfl⟩<;>cases ini<;>cases jni<;>simp[ndM,ndC,rgC,mpB,bxv]at hR<;>simp[hR,Zly,a2,a3]
 ·by_cases a2:w'=w
  ·have:=hw a2;cases this;subst a2;by_cases a3:u'=u
   ·obtain⟨rfl,rfl⟩:=hu a3;subst a3;refine⟨.wr [(0,0,whole)],?_⟩;rcases hxs with rfl |⟨x,rfl⟩<;>cases ini<;>simp[ndM,ndC,rgC,mpB,bxv]at hR<;>simp[hR,Zly,a1]
   ·refine⟨.wr [(0,0,whole),(2,0,whole)],?_⟩;rcases hxs with rfl |⟨x,rfl⟩<;>cases ini<;>simp[ndM,ndC,rgC,mpB,bxv]at hR<;>simp[hR,Zly,a1,a3]
  ·by_cases a3:u'=u
   ·obtain⟨rfl,rfl⟩:=hu a3;subst a3;refine⟨.wr [(0,0,whole),(1,0,whole)],?_⟩;rcases hxs with rfl |⟨x,rfl⟩<;>cases ini<;>cases jni<;>simp[ndM,ndC,rgC,mpB,bxv]at hR<;>simp[hR,Zly,a1,a2]
   ·refine⟨.wr [(0,0,whole),(1,0,whole),(2,0,whole)],?_⟩;rcases hxs with rfl |⟨x,rfl⟩<;>cases ini<;>cases jni<;>simp[ndM,ndC,rgC,mpB,bxv]at hR<;>simp[hR,Zly,a1,a2,a3]
theorem ZkX{S:StV}{zs:List Zon}{ss:List Sgn}(hS:z6u S zs ss){d:NdV}{g:RgV}{es:List Zou}{n:Nat}(h:Zk7 S d g es n):ZjQ (Zhl S zs ss es g)/\(Zhl S zs ss es g).na<=4/\(∀a∈(Zhl S zs ss es g).jL,zk0 a)/\KB S.m (Zhl S zs ss es g).jO/\(Zhl S zs ss es g).jO.tick+(Zhl S zs ss es g).na=d.now:=by
 obtain⟨hg,ha,hk,hn,hf,_⟩:=h;have h5:=hg.few;unfold Zhl;by_cases c:g.na=5
 ·have hi:g.ini=false:=by
   cases hi:g.ini with
   |false=>rfl
   |true=>have:=hg.ini hi;omega
  grind [Zj0,List.mem_of_mem_tail]
 grind
def Zlu(S:StV)(d:NdV):Int:=Pl.uD d.told S.car.um
theorem ZkA{S:StV}{zs:List Zon}{ss:List Sgn}(hS:z6u S zs ss)(q:List Int)(last:Int)(k:zci)(f:Int):(zMT (zLj S.car q last k) f).length<=900:=by
 have h:=zNa hS.car q last (max 0 (min k.ego.vhi 2000)) (by omega)
 grind [zMT]
theorem Zkv{S:StV}{zs:List Zon}{ss:List Sgn}(hS:z6u S zs ss){d:NdV}(h:d.kU.length<=900):(ZiG S zs ss d).kU.length<=900:=by
 grind [ZiG,ZkA]
theorem ZkM{S:StV}{zs:List Zon}{ss:List Sgn}(hS:z6u S zs ss){d:NdV}(h:d.kU.length<=900)(K:zci):(goN S zs ss d K).kU.length<=900/\(goN S zs ss d K).now=d.now/\(goN S zs ss d K).last=d.last/\(goN S zs ss d K).k9=K/\(goN S zs ss d K).mode=(if S.v7<d.now-d.last then 2 else d.mode):=by
 unfold goN;split
 ·exact⟨Zkv hS h,rfl,rfl,rfl,rfl⟩
 ·exact⟨h,rfl,rfl,rfl,rfl⟩
theorem Zlp{S:StV}{zs:List Zon}{ss:List Sgn}(hS:z6u S zs ss){d:NdV}{g:RgV}{es:List Zou}{n:Nat}(h:Zk7 S d g es n)(hn:n+300<=1000)(c:Int)(v w u:Nat)(ks:List Int)(hK:ZjC c es ks)(hks:ks.length<=1000){x:Zjo}(hx:Zlc x)(hx8:x.kg.length<=8/\x.jR.length<=8/\x.ki.length<=8)(ht:x.tick=d.now)
  {d2:NdV} {c2:Int} {es2:List Zou} (e2:hrN S zs ss d g c es ks x=(d2,(c2,es2))) {K:zci} (eK:Zkz S zs ss (Zhl S zs ss es g) es2=(K,true)) :
  ∃v' w' u',(v<v'/\w<w'/\(u<=u'/\(u'=u->c2=c/\es2=es)))/\EsN (n+300) es2 /\
   R L Cs Zh5 [Pt 0,.a (inC x)] (ndM S d g c es v w u)=some (.t [W (Zlu S (ZjL (goN S zs ss d2 K))),W 0],ndM S (ZjL (goN S zs ss d2 K)) (ZhJ (Zhl S zs ss es g) (Pl.uD (goN S zs ss d2 K).kU 0)) c2 es2 v' w' u'):=by
 have hh:=h;obtain⟨hg,ha,hk,BJ,Df,BA,yA,hplan⟩:=h;have hk0:=hk.nd.t;obtain⟨g1,g2,g3,g4,g5⟩:=ZkX (zs:=zs) (ss:=ss) hS hh;have h0:=ZkQ S d g c es v w u;obtain⟨w1,u1,m1,m2,h1⟩:=Zkk hS d hg ha hk BJ (by omega) c es (BA.ok (by omega)) v w u ks hK hks;have Bx:=BA.fgt (Zhl S zs ss es g).jO.tick ks;obtain⟨v2,u2,⟨m3,m4⟩,Aa,h2⟩:=ZkR (S:=S) d (Zhl S zs ss es g) (c,Zh0 (Zhl S zs ss es g).jO.tick ks es) v w1 u1 n (by omega) x hx Bx hn;rw[show ZiQ d (c,Zh0 (Zhl S zs ss es g).jO.tick ks es) x=(d2,(c2,es2)) from e2]at h2 Aa m3 m4;simp only at h2 Aa m3 m4;have hd:=Zla x.kg d (x.ki.foldl (he2 d) (x.jR.foldl (he1 d) (c,Zh0 (Zhl S zs ss es g).jO.tick ks es)));have hl2:=Zj2 x.kg d (x.ki.foldl (he2 d) (x.jR.foldl (he1 d) (c,Zh0 (Zhl S zs ss es g).jO.tick ks es))) yA (by omega);rw[show heS x.kg (d,x.ki.foldl (he2 d) (x.jR.foldl (he1 d) (c,Zh0 (Zhl S zs ss es g).jO.tick ks es)))=(d2,(c2,es2)) from e2]at hd hl2;simp only at hd hl2;obtain⟨y7,yp,-⟩:=hd;have h3:=Zkj hS d2 g1 g3 g4 (by omega) c2 es2 (Aa.ok (by omega)) v2 w1 u2;have Ap:=ZkP hS es2 (Zhl S zs ss es g).jL (znE S (znB (Zhl S zs ss es g).jO.tick es2) (Zhl S zs ss es g).jO).1 (znE S (znB (Zhl S zs ss es g).jO.tick es2) (Zhl S zs ss es g).jO).2 (g4.Ax _).1 (by
  rw[(g4.Ax _).2];have:(Zhl S zs ss es g).jL.length<=5:=by simp[RgV.jL];omega
  omega)
 have hKB:KB S.m K:=by
  have:=Ap.1;have e:chN S zs ss es2 (Zhl S zs ss es g).jL (znE S (znB (Zhl S zs ss es g).jO.tick es2) (Zhl S zs ss es g).jO)=(K,true):=eK;rw[show((znE S (znB (Zhl S zs ss es g).jO.tick es2) (Zhl S zs ss es g).jO).1,(znE S (znB (Zhl S zs ss es g).jO.tick es2) (Zhl S zs ss es g).jO).2)=znE S (znB (Zhl S zs ss es g).jO.tick es2) (Zhl S zs ss es g).jO from rfl,e]at this;exact this
 rw[eK]at h3;simp only[if_true]at h3;clear Ap eK;obtain⟨v4,m5,h4⟩:=ZjV S { d2 with k9:=K } (Zhl S zs ss es g) c2 es2 (v2+1) w1 u2 (by simp only[y7];omega) hl2;have hgo:∃v5,v2<v5/\∀T,Y L Cs zj (some [6,0]) 4 [(6,.w (.c (fnN Zhq))),(0,.w (Pt 0))] (ndM S (goN S zs ss d2 K) (Zhl S zs ss es g) c2 es2 v5 w1 u2++[bx 4 (inC x)])=T->Y L Cs zj (some [6,0]) 4 [(6,.w (.c (fnN ZhW))),(0,.w (Pt 0))] (ndM S d2 (Zhl S zs ss es g) c2 es2 v2 w1 u2++[bx 4 (inC x)])=T:=by
  have s1:=ZjB S d2 _ (Zhl S zs ss es g) c2 es2 v2 (v2+1) w1 u2 _ _ x (by omega) h3;unfold goN;by_cases hm:(ZiF S { d2 with k9:=K }).mode=1
  ·rw[if_pos hm]at h4 ⊢;have s2:=ZjB S _ _ (Zhl S zs ss es g) c2 es2 (v2+1) v4 w1 u2 _ _ x (by omega) h4;obtain⟨v5,m6,h5⟩:=ZjR hS (ZiF S { d2 with k9:=K }) (Zhl S zs ss es g) c2 es2 v4 w1 u2 (show d2.kU.length<=1000 by rw[yp];omega) (show K.jZ.length<=100000000000 by have:=hKB.nd.len hS;omega);have s3:=ZjB S _ _ (Zhl S zs ss es g) c2 es2 v4 v5 w1 u2 _ _ x (by omega) h5;exact⟨v5,by omega,fun T hT=>s1.trans (s2.trans (s3.trans hT))⟩
  ·rw[if_neg hm]at h4 ⊢;have s2:=ZjB S _ _ (Zhl S zs ss es g) c2 es2 (v2+1) v4 w1 u2 _ _ x (by omega) h4;exact⟨v4,by omega,fun T hT=>s1.trans (s2.trans hT)⟩
 obtain⟨v5,m6,hgo⟩:=hgo;have hpl:(goN S zs ss d2 K).kU.length<=1000/\(goN S zs ss d2 K).now=d.now:=by
  obtain⟨q1,q2,_⟩:=ZkM (zs:=zs) (ss:=ss) hS (d:=d2) (by rw[yp];exact hplan) K;exact⟨jP q1 (by decide),q2.trans y7⟩
 generalize goN S zs ss d2 K=d5 at *;have h6:=Zkl S d5 g1 g2 c2 es2 v5 w1 u2 (by omega) hpl.1;have hlp:=hgo _ (ZkV S d5 (ZjL d5) (Zhl S zs ss es g) _ c2 es2 v5 (v5+4) w1 (w1+2) u2 _ x (by omega) (by omega) h6);have hA:=Pl.C6 (ZjL d5).told (show d5.kU.length<=1000 from hpl.1) S.car.um;refine⟨v5+4,w1+2,u2,⟨by omega,by omega,by omega,fun e=>?_⟩,Aa,?_⟩
 ·have e1:=m3.2 (by omega);have e2':=m2.2 (by omega);rw[e2']at e1;exact⟨congrArg Prod.fst e1,congrArg Prod.snd e1⟩
 have c1:¬8<max (x.kg.length:Int) (max x.jR.length x.ki.length):=by omega
 have c2':¬(1099511626776:Int)<=d.now:=by omega
 obtain⟨fp1,hc1⟩:=Zko (f:=Zhz) (xs:=[]) (X:=inC x) (.inl rfl) ⟨x,rfl⟩ (fun _=>rfl) m1.2 (fun q=>⟨rfl,m2.2 q⟩) (by simpa using h1);obtain⟨fp2,hc2⟩:=Zko (f:=Zh4) (xs:=inC x) (X:=inC x) (.inr ⟨x,rfl⟩) ⟨x,rfl⟩ m4.2 (fun _=>rfl) (fun q=>by
  have:=m3.2 q;exact⟨congrArg Prod.fst this,congrArg Prod.snd this⟩) (by simpa using h2)
 have hc0:zx (R L Cs) ⟨true⟩ (.c (.fn Zh3 [] [])) [Pt 0] (ndM S d g c es v w u++[bx 4 (inC x)])=some (.w (Bo false),ndM S d g c es v w u++[bx 4 (inC x)],.no):=by
  obtain⟨s0,s1,s2,s3,s4,na,ini,p⟩:=g;cases ini<;>simp[ndM,ndC,rgC,mpB,bxv]at h0<;>simp[h0,Zly]
 have hcA:∀M,zx (R L Cs) ⟨true⟩ (.c (.fn zGR [] [])) [.a [.jb (zu (ZjL d5).told)],W S.car.um] M=some (.w (W (Pl.uD (ZjL d5).told S.car.um)),M,.no):=fun M=>by
  simp[hA]
 unfold Zlu;generalize Pl.uD (ZjL d5).told S.car.um=cc at *;generalize ZhJ (Zhl S zs ss es g) (Pl.uD d5.kU 0)=g9 at *;generalize Zh0 (Zhl S zs ss es g).jO.tick ks es=es1 at *;generalize Zhl S zs ss es g=g' at *;generalize ZjL d5=d6 at *;clear hg ha hk BJ BA Bx Aa g1 g2 g3 g4 g5 h0 h1 h2 h3 h4 h6 hgo hKB hh e2 hK hA m1 m2 m3 m4 m5 m6 hl2 hpl;obtain⟨xt,xsc,xsp,xfx⟩:=x;simp only at ht c1;subst ht;simp only[inC,List.cons_ne_nil,reduceCtorEq,if_false,if_true,ndM,ji,je]at hc0 hc1 hc2 hlp;rw[zUa Zji rfl];simp[-zx,ZhG,hc0,hc1,hc2,hlp,hcA,c1,c2',Zly,zr];cases g9.ini<;>simp
theorem Znq(l:List Pss)(hl:l.length<=100000000000)(fnv:Cl)(f:Pss->Bool)(M:Mem)(hc:∀p∈l,zx (R L Cs) ⟨true⟩ (.c fnv) [.a (zKF p)] M=some (.w (Bo (f p)),M,.no))(ha:l.any f=true) :
  ∃k:Nat,k<l.length/\R L Cs zLd [.c (.jb (zKd l)),.c fnv] M=some (.w (W k),M):=by
 have htk:∀p:Pss,List.take (zKF p).length (zKF p)=zKF p:=fun p=>kH
 have h:=zxf (L:=L) (Cs:=Cs) (b:=zHw) (live:=some [7,1,0,8]) (n0:=M.length) l (fun i=>[(7,.w (W l.length)),(1,.w (.c fnv)),(0,.w (.c (.jb (zKd l)))),(8,.w (W i))]) M f (fun i=>(.ret,[(4,.w (W i))],M)) (.exit 0,[(9,.w (Bo false)),(0,.w (.c (.jb (zKd l)))),(1,.w (.c fnv)),(7,.w (W l.length)),(8,.w (W l.length))],M) ?_ ?_ ?_
 ·cases hq:l.findIdx? f with
  |none =>
   rw[km]at hq;have:l.any f=false:=by simpa using hq
   rw[this]at ha;cases ha
  |some k =>
   rw[hq]at h;obtain⟨h1,_⟩:=jT.1 hq;refine⟨k,h1,?_⟩;simp only[jg]at h;rw[zUa zKB rfl];simp[zHI,h]
 ·intro i hi hp;have hw:=zB (i:=i) (by omega);have hcc:=hc l[i] (jf hi);have ht:=htk l[i];simp only[zNu]at ht;rw[hp]at hcc;rw[ZfM zHw.eq_1];simp[hi,hw,hcc,ht,-zx]
 ·intro i hi hp;have hcc:=hc l[i] (jf hi);have ht:=htk l[i];simp only[zNu]at ht;rw[hp]at hcc;rw[ZfM zHw.eq_1];simp[hi,hcc,ht,-zx]
 ·rw[ZfM zHw.eq_1];simp
def onZ(z:Int)(p:Pss):Bool:=decide (p.kZ=z)
theorem Zme(z:Int)(p:Pss):R L Cs ZlT [.a (zKF p),Pt 0] [bxv 1 1 [I z]]=some (.w (Bo (onZ z p)),[bxv 1 1 [I z]]):=by
 rw[zUa Zmy rfl];unfold onZ;by_cases c:p.kZ=z
 ·simp[Zjl,zKF,c,zg,zH]
 ·have b1:(p.kZ==z)=false:=by simp[c]
  simp[Zjl,zKF,c,b1,zg,zH]
abbrev zFn(k:Nat):Cl:=.fn ZlT [] [.ptr k 0 0 0]
theorem ZmU(z:Int)(ps:List Pss)(hs:ps.length<=1000):R L Cs zKY [.c (.jb (zKd ps)),.c (zFn 0)] [bxv 1 1 [I z]]=some (.w (Bo (ps.any (onZ z))),[bxv 1 1 [I z]]):=by
 obtain⟨k,h1,h2⟩:=zO6 ps (by omega) (zFn 0) (onZ z) [bxv 1 1 [I z]] (fun p _=>by
  have h:=Zme z p;simp only[zKF]at h;simp[h,zKF])
 rw[zUa zK2 rfl];simp[zHz,h1,h2]
theorem Znu(z:Int)(ps:List Pss)(hs:ps.length<=1000)(ha:ps.any (onZ z)=true):∃k:Nat,k<ps.length/\R L Cs zLd [.c (.jb (zKd ps)),.c (zFn 0)] [bxv 1 1 [I z]]=some (.w (W k),[bxv 1 1 [I z]]) :=
 Znq ps (by omega) (zFn 0) (onZ z) [bxv 1 1 [I z]] (fun p _=>by
  have h:=Zme z p;simp only[zKF]at h;simp[h,zKF]) ha
abbrev pkE(ps:List Pss)(n i z:Nat)(zn:Nat):Env:=[(83,.w (W i)),(82,.w (W n)),(66,.w (W z)),(65,.w (W zn)),(3,.w (Pt 1)),(1,.w (Pt 0)),(4,.w (.c (.jb (zKd ps)))),(7,.w (Pt 3)),(81,.w (.c (.jb (zKd ps)))),(6,.w (.c (zFn 2))),(8,.w (Pt 4))]
theorem ZmI(S:StV)(e:Ego)(z zn:Nat)(ps:List Pss)(hs:ps.length<=1000)(f:Pss):∀(r:List Pss) (i v:Nat) (l:Pss),ps.drop i=r->i<=ps.length ->
  ∃v' l',Y L Cs Zja (some [83,82,66,65,3,1,4,7,81,6,8]) 5 (pkE ps ps.length i z zn) [bx 19 (ZlR S),bxv 1 4 (zch e),bxv 1 1 [I z],bxv 1 4 (zKF f),bxv v 4 (zKF l)] =
   some (.exit 2,(84,.w (Bo false))::[(83,.w (W ps.length)),(82,.w (W ps.length)),(66,.w (W z)),(65,.w (W zn)),(3,.w (Pt 1)),(1,.w (Pt 0)),(4,.w (.c (.jb (zKd ps)))),(7,.w (Pt 3)),(81,.w (.c (.jb (zKd ps)))),(6,.w (.c (zFn 2))),(8,.w (Pt 4))],[bx 19 (ZlR S),bxv 1 4 (zch e),bxv 1 1 [I z],bxv 1 4 (zKF f),bxv v' 4 (zKF l')])
 |[],i,v,l,hd,hi=>by
  have ee:i=ps.length:=by
   have:=congrArg List.length hd;simp at this;omega
  subst ee;refine⟨v,l,?_⟩;rw[ZfM Zja.eq_1];simp
 |p::r,i,v,l,hd,hi=>by
  have g1:i<ps.length:=by
   have:=congrArg List.length hd;simp at this;omega
  have g2:ps[i]=p:=by rw[Go.jx g1]at hd;exact(j6 hd).1
  have g3:ps.drop (i+1)=r:=by rw[Go.jx g1]at hd;exact(j6 hd).2
  have hw:=zB (i:=i) (by omega);have hci:(i:Int)<ps.length:=by omega
  have hP:=Zme z p;cases hz:onZ z p with
  |true =>
   rw[hz]at hP;obtain⟨v',l',ih⟩:=ZmI S e z zn ps hs f r (i+1) (v+1) p g3 (by omega);refine⟨v',l',?_⟩;rw[<-ih];simp only[zKF]at hP;rw[ZfM Zja.eq_1];simp[hci,g1,g2,hw,hP,zKF,zr,-Int.natCast_add]
  |false =>
   rw[hz]at hP;obtain⟨v',l',ih⟩:=ZmI S e z zn ps hs f r (i+1) v l g3 (by omega);refine⟨v',l',?_⟩;rw[<-ih];simp only[zKF]at hP;rw[ZfM Zja.eq_1];simp[hci,g1,g2,hw,hP,zKF,zr,-Int.natCast_add]
theorem Zm0(S:StV)(e:Ego)(zn:Nat)(hzn:zn<=1000)(ps:List Pss)(hs:ps.length<=1000)(hp:∀p∈ps,e.shi<p.lo):∀(f z:Nat),z+f=zn ->
  Y L Cs Zi9 (some [66,65,3,1,4]) 2 [(66,.w (W z)),(65,.w (W zn)),(3,.w (Pt 1)),(1,.w (Pt 0)),(4,.w (.c (.jb (zKd ps))))] [bx 19 (ZlR S),bxv 1 4 (zch e)] =
    some (.exit 0,[(67,.w (Bo false)),(66,.w (W zn)),(65,.w (W zn)),(3,.w (Pt 1)),(1,.w (Pt 0)),(4,.w (.c (.jb (zKd ps))))],[bx 19 (ZlR S),bxv 1 4 (zch e)])
 |0,z,h=>by
  obtain rfl:z=zn:=by omega
  rw[ZfM Zi9.eq_1];simp
 |f+1,z,h=>by
  have ih:=Zm0 S e zn hzn ps hs hp f (z+1) (by omega);have hw:=zB (i:=z) (by omega);have hci:(z:Int)<zn:=by omega
  have hC:=ZmU z ps hs;rw[<-ih];cases ha:ps.any (onZ z)with
  |false =>
   rw[ha]at hC;rw[ZfM Zi9.eq_1];simp[hci,hw,hC,zr,-Int.natCast_add]
  |true =>
   rw[ha]at hC;obtain⟨k,hk,hI⟩:=Znu z ps hs ha;obtain⟨v',l',hL⟩:=ZmI S e z zn ps hs ps[k] ps 0 1 ps[k] rfl (jp _);have hlo:¬ps[k].lo<=e.shi:=by have:=hp _ (jf hk);omega
   simp only[pkE,zKF,jg]at hL;rw[ZfM Zi9.eq_1];simp[hci,hw,hC,hI,hk,hL,hlo,zKF,zr,-Int.natCast_add]
structure Zlr(S:StV)(zs:List Zon):Prop where
 v:S.e0.vlo=0/\S.e0.vhi=0
 s:S.e0.slo<=S.e0.shi/\S.car.len<S.e0.slo/\S.e0.shi-S.e0.slo<S.car.len
 far:S.e0.shi<=zmd S.m 0 S.r
 big:S.e0.shi<=1000000000
 pas:∀p∈zKh S.m zs 0 S.r,S.e0.shi<p.lo
 kind:zaK S.m (S.r.headD 0)=1
 t:0<=S.t0/\S.t0<=50000
theorem ZnI{S:StV}{zs:List Zon}{ss:List Sgn}(hS:z6u S zs ss)(hB:Zlr S zs):R L Cs ZmL [.a (ZlR S)] []=some (.w (Bo true),[]):=by
 have hf:=hS.full.full;obtain⟨v1,v2⟩:=hB.v;obtain⟨s1,s2,s3⟩:=hB.s;obtain⟨q1,q2,_⟩:=hS.car;have hE:=zsq hf.qD hS.vE;have hP:=zPm hf hS.vE (hS.full.srt _ hS.vE) (hS.full.few _ hS.vE);have Df:=hS.full.few _ hS.vE;have hz:S.m.qS.length=zs.length:=by have:=hf.zd.z;rw[this];simp[zk8]
 have hL:=Zm0 S S.e0 S.m.qS.length (by have:=hS.full.two;omega) (zKh S.m zs 0 S.r) (by omega) hB.pas S.m.qS.length 0 (by omega);have hpe:(ZlR S).length=19:=rfl;have hfar:=hB.far;have Cw:=hB.big;have w1:IntKind.i64.wrap (S.e0.shi-S.e0.slo)=S.e0.shi-S.e0.slo:=zTd _ (by omega) (by omega);have d1:¬S.e0.shi<S.e0.slo:=by omega
 have d2:¬S.e0.slo<=S.car.len:=by omega
 have d3:¬S.car.len<=S.e0.shi-S.e0.slo:=by omega
 have d4:¬zmd S.m 0 S.r<S.e0.shi:=by omega
 generalize zKh S.m zs 0 S.r=ps at *;simp only[zf,zch,v1,v2,jg]at hE hP hL;rw[zUa ZmM rfl];simp[ZjK,v1,v2,d1,d2,d3,d4,w1,hE,hP,hL]
theorem Zl1{f esz bytes:Nat}(hN:L.lookup f=none)(hL:Cs.lookup f=some (esz,bytes,false))(h0:0<esz){rows:List (List Cl)}(hr:rows.length*bytes<=140737488355328)(h:∀x∈rows,x.length=esz):R L Cs f [.c (.jb rows)] []=some (.w (.c (sl 0 esz rows)),[some (own esz rows)]):=by
 have h1:¬esz=0:=by omega
 rw[zrP hN];simp[uw,hL,zuh,hr,h1,h0];exact h
theorem Zmx(l:List Int)(hl:l.length<=100000):R L Cs Zmb [.c (.jb (zu l))] []=some (.w (.c (sl 0 1 (zu l))),[some (own 1 (zu l))]) :=
 Zl1 (esz:=1) (bytes:=8) rfl (by kernel_rfl) (by decide) (by rw[zfq];omega) (fun x hx=>by obtain⟨y,_,rfl⟩:=jX.1 hx;rfl)
theorem Zna(l:List Prt)(hl:l.length<=100000):R L Cs Zl4 [.c (.jb (zkl l))] []=some (.w (.c (sl 0 4 (zkl l))),[some (own 4 (zkl l))]) :=
 Zl1 (esz:=4) (bytes:=32) rfl (by kernel_rfl) (by decide) (by rw[zCq];omega) (fun x hx=>by obtain⟨y,_,rfl⟩:=jX.1 hx;rfl)
theorem Zm2(l:List Phs)(hl:l.length<=100000):R L Cs ZlY [.c (.jb (zje l))] []=some (.w (.c (sl 0 2 (zje l))),[some (own 2 (zje l))]) :=
 Zl1 (esz:=2) (bytes:=32) rfl (by kernel_rfl) (by decide) (by rw[zCr];omega) (fun x hx=>by obtain⟨y,_,rfl⟩:=jX.1 hx;rfl)
abbrev Zma(l:List (Int×Int)):List (List Cl):=l.map fun p=>[I p.1,I p.2]
theorem Zm9(l:List (Int×Int))(hl:l.length<=100000):R L Cs Zl3 [.c (.jb (Zma l))] []=some (.w (.c (sl 0 2 (Zma l))),[some (own 2 (Zma l))]) :=
 Zl1 (esz:=2) (bytes:=16) rfl (by kernel_rfl) (by decide) (by rw[ko];omega) (fun x hx=>by obtain⟨y,_,rfl⟩:=jX.1 hx;rfl)
theorem Zny(l:List (Int×Int))(hl:l.length<=100000):R L Cs ZmS [.a [.jb (Zma l)]] []=some (.w (.a [.jb (Zma l)]),[]):=by
 have h:=Zm9 l hl;have hh:R L Cs ZmC [.c (.jb (Zma l))] []=some (.w (.a [.jb (Zma l)]),[]):=by
  rw[zUa ZmH rfl];simp[ZjA,h,zX];exact jB (by simp)
 rw[zUa ZmZ rfl];simp[ZjU,hh,zX]
theorem Znx(l:zfn)(h1:l.pts.length<=100000)(h2:l.next.length<=100000):R L Cs ZlO [.a (zo l)] []=some (.w (.a (zo l)),[]):=by
 have g1:=Zny l.pts h1;have g2:=Zmx l.next h2;rw[zUa ZmF rfl];simp[Zjy,zo,g1,g2,zX]
theorem Znv(z:Zon)(h:z.parts.length<=100000):R L Cs ZlM [.a (zdP z)] []=some (.w (.a (zdP z)),[]):=by
 have g:=Zna z.parts h;have ht:(zkl z.parts).take z.parts.length=zkl z.parts:=jB (by simp);rw[zUa ZmD rfl];simp[Zjw,zdP,g,ht,zX]
theorem Znw(w:zCP):R L Cs ZlN [.a (zaL w)] []=some (.w (.a (zaL w)),[]):=by
 rw[zUa ZmE rfl];simp[Zjx,zaL]
theorem Znh(s:Sgn)(u0:Nat)(hl:s.j8.length<=1000)(hg:∀p∈s.j8,p.green.length<=100000):∀(f i v:Nat),i+f=s.j8.length ->
  ∃v',Y L Cs Ziy (some [11,10,2,1]) 3 [(11,.w (W i)),(10,.w (W s.j8.length)),(2,.w (Pt 1)),(1,.w (Pt 0))] [bxv u0 2 [I s.offset,.slice 2 s.j8.length 2 0 s.j8.length none],bx 2 [I 0,.jc],some { box:=false,esz:=2,rows:=zje s.j8,gen:=s.j8.length,fz:=false,ver:=v }] =
   some (.exit 0,[(12,.w (Bo false)),(11,.w (W s.j8.length)),(10,.w (W s.j8.length)),(2,.w (Pt 1)),(1,.w (Pt 0))],[bxv u0 2 [I s.offset,.slice 2 s.j8.length 2 0 s.j8.length none],bx 2 [I 0,.jc],some { box:=false,esz:=2,rows:=zje s.j8,gen:=s.j8.length,fz:=false,ver:=v' }])
 |0,i,v,h=>by
  obtain rfl:i=s.j8.length:=by omega
  refine⟨v,?_⟩;rw[ZfM Ziy.eq_1];simp
 |f+1,i,v,h=>by
  have h1:i<s.j8.length:=by omega
  have hw:=zB (i:=i) (by omega);have hci:(i:Int)<s.j8.length:=by omega
  obtain⟨v',ih⟩:=Znh s u0 hl hg f (i+1) (v+1) (by omega);refine⟨v',?_⟩;rw[<-ih];have hK:=Zmx s.j8[i].green (hg _ (jf h1));have kY:(zje s.j8)[i]?=some [I s.j8[i].vl,.jb (zu s.j8[i].green)]:=by simp[zje,h1,zr6]
  have AQ:(zje s.j8).set i [I s.j8[i].vl,.jb (zu s.j8[i].green)]=zje s.j8:=by
   apply ua;intro k;by_cases hk:i=k
   ·subst hk;rw[j9 (by simpa using h1),kY]
   ·rw[jI hk]
  have ht:(zu s.j8[i].green).take s.j8[i].green.length=zu s.j8[i].green:=jB (by simp);rw[ZfM Ziy.eq_1];simp[hci,h1,hw,kY,AQ,hK,ht,zr6,zX,-Int.natCast_add]
theorem Zm4(s:Sgn)(hl:s.j8.length<=1000)(hg:∀p∈s.j8,p.green.length<=100000):R L Cs ZlK [.a (zeq s)] []=some (.w (.a (zeq s)),[]):=by
 have hK:=Zm2 s.j8 (by omega);obtain⟨v',hL⟩:=Znh s 1 hl hg s.j8.length 0 s.j8.length (by omega);have ht:(zje s.j8).take s.j8.length=zje s.j8:=jB (by simp);simp only[jg]at hL;rw[zUa Zmo rfl];simp[Zi5,zeq,hK,hL,ht,zX]
theorem Zl9(l:List zfn)(hl:l.length<=1000)(h:∀x∈l,(x.pts.length<=100000/\x.next.length<=100000)):∀(r:List zfn) (i:Nat),l.drop i=r->i<=l.length ->
  Y L Cs ZiB (some [5,10,9,8,1]) 2 [(5,.w (.c (sl 1 5 ((l.take i).map zo)))),(10,.w (W i)),(9,.w (W l.length)),(8,.w (.c (.jb (l.map zo)))),(1,.w (.c (.fn ZlO [] [])))] [gb 5,some (own 5 ((l.take i).map zo))] =
    some (.exit 0,[(11,.w (Bo false)),(5,.w (.c (sl 1 5 (l.map zo)))),(10,.w (W l.length)),(9,.w (W l.length)),(8,.w (.c (.jb (l.map zo)))),(1,.w (.c (.fn ZlO [] [])))],[gb 5,some (own 5 (l.map zo))])
 |[],i,hd,hi=>by
  have e:i=l.length:=by
   have:=congrArg List.length hd;simp at this;omega
  subst e;rw[kH,ZfM ZiB.eq_1];simp
 |x::r,i,hd,hi=>by
  have g1:i<l.length:=by
   have:=congrArg List.length hd;simp at this;omega
  have g2:l[i]=x:=by rw[Go.jx g1]at hd;exact(j6 hd).1
  have g3:l.drop (i+1)=r:=by rw[Go.jx g1]at hd;exact(j6 hd).2
  have hx:x∈l:=by rw[<-g2];exact jf g1
  have hw:=zB (i:=i) (by omega);have hci:(i:Int)<l.length:=by omega
  have hO:=Znx x (h x hx).1 (h x hx).2;have ih:=Zl9 l hl h r (i+1) g3 (by omega);have et:(l.take (i+1)).map zo=(l.take i).map zo++[zo x]:=by rw[uv,jr g1,g2];simp
  have kY:(l.map zo)[i]?=some (zo x):=by simp[g1,g2]
  have hlen:((l.take i).map zo).length=i:=by simp;omega
  rw[<-ih,et];have hr:(i+1)*72<=140737488355328:=by omega
  generalize (l.take i).map zo=q at *;subst hlen;simp only[zo]at hO kY;rw[ZfM ZiB.eq_1];simp[hci,g1,g2,hw,kY,hO,hr,zo,-Int.natCast_add]
theorem Znf(l:List zfn)(hl:l.length<=1000)(h:∀x∈l,(x.pts.length<=100000/\x.next.length<=100000)):R L Cs Zmk [.c (.jb (l.map zo)),.c (.fn ZlO [] [])] []=some (.w (.c (.jb (l.map zo))),[]):=by
 have hL:=Zl9 l hl h l 0 rfl (jp _);have ht:(l.map zo).take l.length=l.map zo:=jB (by simp);simp only[yb,qj,sl,own,jo,ko,jg]at hL;rw[zUa Zmr rfl];simp[Zi8,hL,ht,zr]
theorem Zl7(l:List Zon)(hl:l.length<=1000)(h:∀x∈l,(x.parts.length<=100000)):∀(r:List Zon) (i:Nat),l.drop i=r->i<=l.length ->
  Y L Cs Ziz (some [5,10,9,8,1]) 2 [(5,.w (.c (sl 1 2 ((l.take i).map zdP)))),(10,.w (W i)),(9,.w (W l.length)),(8,.w (.c (.jb (l.map zdP)))),(1,.w (.c (.fn ZlM [] [])))] [gb 2,some (own 2 ((l.take i).map zdP))] =
    some (.exit 0,[(11,.w (Bo false)),(5,.w (.c (sl 1 2 (l.map zdP)))),(10,.w (W l.length)),(9,.w (W l.length)),(8,.w (.c (.jb (l.map zdP)))),(1,.w (.c (.fn ZlM [] [])))],[gb 2,some (own 2 (l.map zdP))])
 |[],i,hd,hi=>by
  have e:i=l.length:=by
   have:=congrArg List.length hd;simp at this;omega
  subst e;rw[kH,ZfM Ziz.eq_1];simp
 |x::r,i,hd,hi=>by
  have g1:i<l.length:=by
   have:=congrArg List.length hd;simp at this;omega
  have g2:l[i]=x:=by rw[Go.jx g1]at hd;exact(j6 hd).1
  have g3:l.drop (i+1)=r:=by rw[Go.jx g1]at hd;exact(j6 hd).2
  have hx:x∈l:=by rw[<-g2];exact jf g1
  have hw:=zB (i:=i) (by omega);have hci:(i:Int)<l.length:=by omega
  have hO:=Znv x (h x hx);have ih:=Zl7 l hl h r (i+1) g3 (by omega);have et:(l.take (i+1)).map zdP=(l.take i).map zdP++[zdP x]:=by rw[uv,jr g1,g2];simp
  have kY:(l.map zdP)[i]?=some (zdP x):=by simp[g1,g2]
  have hlen:((l.take i).map zdP).length=i:=by simp;omega
  rw[<-ih,et];have hr:(i+1)*32<=140737488355328:=by omega
  generalize (l.take i).map zdP=q at *;subst hlen;simp only[zdP]at hO kY;rw[ZfM Ziz.eq_1];simp[hci,g1,g2,hw,kY,hO,hr,zdP,-Int.natCast_add]
theorem Znd(l:List Zon)(hl:l.length<=1000)(h:∀x∈l,(x.parts.length<=100000)):R L Cs Zmi [.c (.jb (l.map zdP)),.c (.fn ZlM [] [])] []=some (.w (.c (.jb (l.map zdP))),[]):=by
 have hL:=Zl7 l hl h l 0 rfl (jp _);have ht:(l.map zdP).take l.length=l.map zdP:=jB (by simp);simp only[yb,qj,sl,own,jo,ko,jg]at hL;rw[zUa Zmp rfl];simp[Zi6,hL,ht,zr]
theorem ZlX(l:List Sgn)(hl:l.length<=1000)(h:∀x∈l,(x.j8.length<=1000/\∀p∈x.j8,p.green.length<=100000)):∀(r:List Sgn) (i:Nat),l.drop i=r->i<=l.length ->
  Y L Cs Zik (some [5,10,9,8,1]) 2 [(5,.w (.c (sl 1 2 ((l.take i).map zeq)))),(10,.w (W i)),(9,.w (W l.length)),(8,.w (.c (.jb (l.map zeq)))),(1,.w (.c (.fn ZlK [] [])))] [gb 2,some (own 2 ((l.take i).map zeq))] =
    some (.exit 0,[(11,.w (Bo false)),(5,.w (.c (sl 1 2 (l.map zeq)))),(10,.w (W l.length)),(9,.w (W l.length)),(8,.w (.c (.jb (l.map zeq)))),(1,.w (.c (.fn ZlK [] [])))],[gb 2,some (own 2 (l.map zeq))])
 |[],i,hd,hi=>by
  have e:i=l.length:=by
   have:=congrArg List.length hd;simp at this;omega
  subst e;rw[kH,ZfM Zik.eq_1];simp
 |x::r,i,hd,hi=>by
  have g1:i<l.length:=by
   have:=congrArg List.length hd;simp at this;omega
  have g2:l[i]=x:=by rw[Go.jx g1]at hd;exact(j6 hd).1
  have g3:l.drop (i+1)=r:=by rw[Go.jx g1]at hd;exact(j6 hd).2
  have hx:x∈l:=by rw[<-g2];exact jf g1
  have hw:=zB (i:=i) (by omega);have hci:(i:Int)<l.length:=by omega
  have hO:=Zm4 x (h x hx).1 (h x hx).2;have ih:=ZlX l hl h r (i+1) g3 (by omega);have et:(l.take (i+1)).map zeq=(l.take i).map zeq++[zeq x]:=by rw[uv,jr g1,g2];simp
  have kY:(l.map zeq)[i]?=some (zeq x):=by simp[g1,g2]
  have hlen:((l.take i).map zeq).length=i:=by simp;omega
  rw[<-ih,et];have hr:(i+1)*32<=140737488355328:=by omega
  generalize (l.take i).map zeq=q at *;subst hlen;simp only[zeq]at hO kY;rw[ZfM Zik.eq_1];simp[hci,g1,g2,hw,kY,hO,hr,zeq,-Int.natCast_add]
theorem ZmW(l:List Sgn)(hl:l.length<=1000)(h:∀x∈l,(x.j8.length<=1000/\∀p∈x.j8,p.green.length<=100000)):R L Cs Zl5 [.c (.jb (l.map zeq)),.c (.fn ZlK [] [])] []=some (.w (.c (.jb (l.map zeq))),[]):=by
 have hL:=ZlX l hl h l 0 rfl (jp _);have ht:(l.map zeq).take l.length=l.map zeq:=jB (by simp);simp only[yb,qj,sl,own,jo,ko,jg]at hL;rw[zUa Zl6 rfl];simp[ZiK,hL,ht,zr]
theorem Zl8(l:List zCP)(hl:l.length<=1000)(h:∀x∈l,True):∀(r:List zCP) (i:Nat),l.drop i=r->i<=l.length ->
  Y L Cs ZiA (some [5,10,9,8,1]) 2 [(5,.w (.c (sl 1 6 ((l.take i).map zaL)))),(10,.w (W i)),(9,.w (W l.length)),(8,.w (.c (.jb (l.map zaL)))),(1,.w (.c (.fn ZlN [] [])))] [gb 6,some (own 6 ((l.take i).map zaL))] =
    some (.exit 0,[(11,.w (Bo false)),(5,.w (.c (sl 1 6 (l.map zaL)))),(10,.w (W l.length)),(9,.w (W l.length)),(8,.w (.c (.jb (l.map zaL)))),(1,.w (.c (.fn ZlN [] [])))],[gb 6,some (own 6 (l.map zaL))])
 |[],i,hd,hi=>by
  have e:i=l.length:=by
   have:=congrArg List.length hd;simp at this;omega
  subst e;rw[kH,ZfM ZiA.eq_1];simp
 |x::r,i,hd,hi=>by
  have g1:i<l.length:=by
   have:=congrArg List.length hd;simp at this;omega
  have g2:l[i]=x:=by rw[Go.jx g1]at hd;exact(j6 hd).1
  have g3:l.drop (i+1)=r:=by rw[Go.jx g1]at hd;exact(j6 hd).2
  have hw:=zB (i:=i) (by omega);have hci:(i:Int)<l.length:=by omega
  have hO:=Znw x;have ih:=Zl8 l hl h r (i+1) g3 (by omega);have et:(l.take (i+1)).map zaL=(l.take i).map zaL++[zaL x]:=by rw[uv,jr g1,g2];simp
  have kY:(l.map zaL)[i]?=some (zaL x):=by simp[g1,g2]
  have hlen:((l.take i).map zaL).length=i:=by simp;omega
  rw[<-ih,et];have hr:(i+1)*48<=140737488355328:=by omega
  generalize (l.take i).map zaL=q at *;subst hlen;simp only[zaL]at hO kY;rw[ZfM ZiA.eq_1];simp[hci,g1,g2,hw,kY,hO,hr,zaL,-Int.natCast_add]
theorem Zne(l:List zCP)(hl:l.length<=1000)(h:∀x∈l,True):R L Cs Zmj [.c (.jb (l.map zaL)),.c (.fn ZlN [] [])] []=some (.w (.c (.jb (l.map zaL))),[]):=by
 have hL:=Zl8 l hl h l 0 rfl (jp _);have ht:(l.map zaL).take l.length=l.map zaL:=jB (by simp);simp only[yb,qj,sl,own,jo,ko,jg]at hL;rw[zUa Zmq rfl];simp[Zi7,hL,ht,zr]
theorem ZnH{m:zD}{zs:List Zon}{ss:List Sgn}(hF:zKj m zs ss):R L Cs ZmR [.a (zf m)] []=some (.w (.a (zf m)),[]):=by
 have hf:=hF.full;have hz:=hf.zd.z;have hs:=hf.zd.s;have h1:=Znf m.jd (by have:=hf.yl.few;omega) (fun l hl=>by
  obtain⟨x0,y0,x1,y1,e,_⟩:=hf.one.one l hl;refine⟨by rw[e];simp,?_⟩;have:=hf.qD.small.next l hl;omega)
 have h2:=Znd zs (by have:=hF.two;omega) (fun z hq=>by have:=hf.zd.pfew z hq;omega);have h3:=ZmW ss (by have:=hf.zd.sfew;omega) (fun s hq=>by
  have:=hf.zd.ph s hq;exact⟨by have:=this.few;omega,fun p hp=>by have:=this.green p hp;omega⟩)
 have h4:=Zne m.kF hF.kF (fun _ _=>trivial);rw[zUa ZmY rfl];simp only[zk8,zjd]at hz hs;simp[ZjT,zf,hz,hs,h1,h2,h3,h4]
theorem ZmV{S:StV}{zs:List Zon}{ss:List Sgn}(hS:z6u S zs ss):R L Cs Zmv [.a (ZlR S)] []=some (.w (.a (ZlR S)),[]):=by
 have h1:=ZnH hS.full;have hr2:=zlP hS.full.full.yl hS.vE;have h2:=Zmx S.r (by omega);simp only[zf]at h1;rw[zUa Zmz rfl];simp[Zjm,h1,h2,zX]
theorem ZmX{S:StV}{zs:List Zon}{ss:List Sgn}(hS:z6u S zs ss)(hB:Zlr S zs):R L Cs Zmd [.a (ZlR S)] []=some (.w (W 0),[]):=by
 have hf:=hS.full.full;have hr2:=zlP hf.yl hS.vE;obtain⟨hon,hne,hl8⟩:=zg1 hf.qD hS.vE;have h1:=hf.qD.chk;have h2:=zQC hf.qD hS.full.fit.1;have h3:=zos S.m hf.qD.small h1 S.r (by omega);rw[hS.vE]at h3;have h4:=Pl.Aq hS.car;have h5:=ZnI hS hB;have hk:=hB.kind;have hb:=hS.bud;have hs:=hS.sil;have ht:=hB.t;obtain⟨x,r,hr⟩:∃x r,S.r=x::r:=by cases h:S.r with|nil=>exact absurd h hne|cons x r=>exact⟨x,r,rfl⟩
 have hx:=hon x (by rw[hr];exact jq);obtain⟨j,rfl⟩:=jD hx.1;have hj:j<S.m.jd.length:=by omega
 rw[hr]at hk;have hk2:S.m.jd[j].kind=1:=by
  simpa [zaK,hj]using hk
 have d1:¬S.t0<0:=by omega
 have d2:¬(1099510627776:Int)<S.t0:=by omega
 have d3:¬S.kQ<0:=by omega
 have d4:¬(8:Int)<S.kQ:=by omega
 have d5:¬S.v7<0:=by omega
 have d6:¬(1000:Int)<S.v7:=by omega
 have vn:(zu S.r)[0]?=some [I (j:Int)]:=by rw[hr];rfl
 have hlen:0<S.r.length:=by rw[hr];simp
 have hg0:∀h:0<S.r.length,S.r[0]=(j:Int):=fun h=>by simp[hr]
 simp only[zf,Pl.kR]at h1 h2 h3 h4;rw[zUa Zmg rfl];simp[ZiX,h1,h2,h3,h4,h5,d1,d2,d3,d4,d5,d6,hlen,hg0,hj,zo,hk2]
def nd0(S:StV):NdV:=⟨S.t0,S.t0,S.t0,1,[0],0,[0],Zhv S ⟨S.t0,zTA 0 S.m.jd,S.e0⟩,0⟩
def rg0(S:StV):RgV:=⟨0,0,0,0,0,0,true,Zhv S ⟨S.t0,zTA 0 S.m.jd,S.e0⟩⟩
set_option maxRecDepth 100000
open Go Go.Eng Go.PlanLaw
def zT7:List Pss->Bool
 |[]=>true
 |[_]=>true
 |[p,q]=>decide (p.lo<=q.lo)&&decide (p.hi<=q.hi)&&decide (q.lo<=p.hi+300)
 |_=>false
def zTY(ps:List Pss)(z:Int):Bool:=zT7 (ps.filter fun p=>decide (p.kZ=z))
theorem zT6(k:Nat)(hk:k<7)(lim r o1 o2 o3 v:Int)(ws:List zCP):zTx (zq k lim r o1 o2 o3 v ws) (fun l=>(List.range (zsP k r).length).all fun z=>zTY (zKh (zq k lim r o1 o2 o3 v ws) (zsP k r) 0 l) z)=true:=match k,hk with
 |0,_=>by kernel_rfl
 |1,_=>by kernel_rfl
 |2,_=>by kernel_rfl
 |3,_=>by kernel_rfl
 |4,_=>by kernel_rfl
 |5,_=>by kernel_rfl
 |6,_=>by kernel_rfl
theorem zT3(k:Nat)(hk:k<7)(lim r o1 o2 o3 v:Int)(ws:List zCP):zaK (zq k lim r o1 o2 o3 v ws) ((zDT (zq k lim r o1 o2 o3 v ws) 0).headD 0)=1:=match k,hk with
 |0,_=>by kernel_rfl
 |1,_=>by kernel_rfl
 |2,_=>by kernel_rfl
 |3,_=>by kernel_rfl
 |4,_=>by kernel_rfl
 |5,_=>by kernel_rfl
 |6,_=>by kernel_rfl
theorem zTK(z:Int):∀(t:List Pss) (w:Pss×Pss×Bool),zLV z t w=zLV z (t.filter fun p=>decide (p.kZ=z)) w
 |[],w=>rfl
 |p::t,w=>by
  by_cases c:p.kZ=z
  ·rw[uG (by simpa using c),zLV,zLV,zTK z t]
  ·rw[qC (by simpa using c),zLV,if_neg c,zTK z t]
theorem zTW{ps:List Pss}(z:Int)(h:zTY ps z=true)(hlh:∀p∈ps,p.lo<=p.hi)(len shi slo:Int)(hl:300<=len)(hs:slo<=shi) :
  ((zNx ps z).2.2&&decide ((zNx ps z).1.lo<=shi)&&decide (slo-len<=(zNx ps z).2.1.hi))=(ps.filter fun p=>decide (p.kZ=z)).any fun p=>decide (p.lo<=shi)&&decide (slo-len<=p.hi):=by
 unfold zTY at h;unfold zNx;rw[zTK];have hz:∀p∈ps.filter (fun p=>decide (p.kZ=z)),p.kZ=z/\p.lo<=p.hi:=fun p hp=>by
  have:=qM.1 hp;exact⟨by simpa using this.2,hlh p this.1⟩
 generalize ps.filter (fun p=>decide (p.kZ=z))=l at *
 match l,h with
 |[],_=>rfl
 |[p],_ =>
  have h1:=(hz p (by simp)).1;simp[zLV,h1]
 |[p,q],h =>
  have h1:=hz p (by simp);have h2:=hz q (by simp);simp only[zT7,jh,decide_eq_true_eq]at h;simp only[zLV,h1.1,h2.1,if_true,qT,yr,List.any_nil,Bool.or_false];rw[Av];simp;omega
theorem zTP(st:Int)(z:Nat)(x:Int):∀(l:List Prt) (k:Nat),(∀p∈l,p.lo<p.hi)->∀p∈zLB st z x k l,p.lo<=p.hi
 |[],k,_,p,h=>by cases h
 |q::l,k,hq,p,h=>by
  unfold zLB at h;have ih:=fun h=>zTP st z x l (k+1) (fun y hy=>hq y (jA _ hy)) p h
  have:=hq q (jq ..);split at h
  ·rcases jK.1 h with rfl|h
   ·simp only;omega
   ·exact ih h
  ·exact ih h
theorem zTO(st x:Int):∀(l:List Zon) (z:Nat),(∀q∈l,∀p∈q.parts,p.lo<p.hi)->∀p∈zLA st x z l,p.lo<=p.hi
 |[],z,_,p,h=>by cases h
 |q::l,z,hq,p,h=>by
  unfold zLA at h;rcases jH.1 h with h|h
  ·exact zTP _ _ _ _ _ (hq q (jq ..)) p h
  ·exact zTO _ _ l _ (fun y hy=>hq y (jA _ hy)) p h
theorem zTM(m:zD)(zs:List Zon)(hq:∀q∈zs,∀p∈q.parts,p.lo<p.hi):∀(r:List Int) (a:Int),∀p∈zKh m zs a r,p.lo<=p.hi
 |[],a,p,h=>by cases h
 |x::r,a,p,h=>by
  unfold zKh at h;rcases jH.1 h with h|h
  ·exact zTO _ _ _ _ hq p h
  ·exact zTM m zs hq r _ p h
theorem zT2{m:zD}{zs:List Zon}{ss:List Sgn}(hF:zKj m zs ss){r:List Int}(hcon:∀z:Nat,z<zs.length->zTY (zKh m zs 0 r) z=true)(len shi slo:Int)(hl:300<=len)(hs:slo<=shi) :
  (List.range zs.length).any (enP (zKh m zs 0 r) len shi slo)=(zKh m zs 0 r).any fun p=>decide (p.lo<=shi)&&decide (slo-len<=p.hi):=by
 have hlh:=zTM m zs (fun q hq p hp=>(hF.full.pv q hq p hp).2.2.1) r 0;have hok:=zNh m zs r 0;generalize zKh m zs 0 r=ps at *;rw[Av,jU,jU];constructor
 ·rintro⟨z,hz,h⟩;have hz:=qz.1 hz;unfold enP at h;rw[zTW z (hcon z hz) hlh len shi slo hl hs,jU]at h;obtain⟨p,hp,h⟩:=h;exact⟨p,(qM.1 hp).1,h⟩
 ·rintro⟨p,hp,h⟩;obtain⟨⟨o1,o2⟩,_⟩:=hok p hp;obtain⟨z,hz⟩:=jD o1;refine⟨z,qz.2 (by omega),?_⟩;unfold enP;rw[zTW z (hcon z (by omega)) hlh len shi slo hl hs,jU];exact⟨p,qM.2 ⟨hp,by simpa using hz⟩,h⟩
theorem zT4(z:Int)(ps:List Pss)(h:(zNx ps z).2.2=true):(zNx ps z).1∈ps/\(zNx ps z).1.kZ=z:=by
 obtain⟨p,hp,h1,h2⟩:=zPt z ps (zKw,zKw,false) h rfl;unfold zNx;rw[h2];exact⟨hp,h1⟩
theorem Ze9{c:zK8}(hc:c.ok):qE c [0]=0:=by
 have Cf:=hc;obtain⟨q1,q2,q3,q4,q5,q6,q7,q8,q9,q10⟩:=Cf;unfold qE;simp[hc,zLD,Go.PlanLaw.BF];omega
theorem zTU{m:zD}{zs:List Zon}{ss:List Sgn}(hF:zKj m zs ss){r:List Int}(hr:zdA m r=0)(hkd:zaK m (r.headD 0)=1)(hcon:∀z:Nat,z<zs.length->zTY (zKh m zs 0 r) z=true){c:zK8}(hc:c.ok)(K:zci)(hck:zdf m K=0)(hv:K.ego.vlo=0/\K.ego.vhi=0)(hs:K.ego.shi<=zmd m 0 r)(ht:K.tick<1099511627776)(hb:K.ego.shi<=1099511627776)(signals:Bool)(a:Int)(ha:a<=0)(hchk:qE c [a]=0) :
  (zOk m zs ss r c K [a] signals).1 = !((zKh m zs 0 r).any fun p=>decide (p.lo<=K.ego.shi)&&decide (K.ego.slo-c.len<=p.hi)):=by
 have Cf:=hc;obtain⟨q1,q2,q3,q4,q5,q6,q7,q8,q9,q10⟩:=Cf;have hego:=(zte hck).1;have hso:K.ego.slo<=K.ego.shi:=by
  have:=hego;obtain⟨⟩:=this;omega
 obtain⟨hon,hne,hl8⟩:=zg1 hF.full.qD hr;have hE:zaN m r K.ego a=K.ego:=by
  have hcl:zgH m r a<=0:=by
   unfold zgH zif zd4
   repeat' split
   all_goals omega
  have hsp:zcD m r a 0=0:=by
   have:0<=zeR (zaK m (r.getD 0 0)):=by unfold zeR;(repeat' split)<;>omega
   unfold zcD;omega
  unfold zaN;rw[hv.1,hv.2,hsp];have e:K.ego=⟨K.ego.slo,K.ego.shi,K.ego.vlo,K.ego.vhi⟩:=rfl;rw[e,hv.1,hv.2];simp
 have Aw:zKW m r c K=true:=by
  unfold zKW Pl.CD;rw[if_pos hc,hkd,hr,hck];rfl
 have hfb:fbF m r [a] K.tick K.ego=none:=by
  unfold fbF;rw[if_neg (by unfold TrRun.BE;rw[hE];omega),hE,if_neg (by omega)];rfl
 have Cu:=zT2 hF hcon c.len K.ego.shi K.ego.slo (by omega) hso;rw[<-zRZ]at Cu;have hnx:(zEt m zs ss r c.len signals K a).ego=K.ego:=hE;unfold zOk;rw[if_pos ⟨Aw,hchk⟩];unfold zNw;rw[hfb];simp only[zKX,zKr];have hon0:onW m r (zEt m zs ss r c.len signals K a)=0:=by unfold onW;rw[hnx,if_neg (by omega)]
 have hsl0:zMt m r (zEt m zs ss r c.len signals K a)=0:=by unfold zMt;rw[hnx,hv.2,if_neg (by omega)]
 have hap0:zMF m r (zEt m zs ss r c.len signals K a) (zKu m zs ss r c.len signals K a)=0:=by unfold zMF;rw[hnx,if_pos hv.2]
 cases hin:(zKh m zs 0 r).any fun p=>decide (p.lo<=K.ego.shi)&&decide (K.ego.slo-c.len<=p.hi)with
 |true =>
  rw[hin]at Cu;split
  ·simp only[zLH,zLQ,hnx,Cu];simp
  ·rfl
 |false =>
  rw[hin]at Cu;have hno:∀p∈zKh m zs 0 r,p.lo<=K.ego.shi->K.ego.slo-c.len<=p.hi->False:=fun p hp a b=>by
   have:=uY.1 hin p hp;simp[a,b]at this
  have hal0:zMG zs c.len (zKh m zs 0 r) (pvV m zs r) K (zEt m zs ss r c.len signals K a) (zKu m zs ss r c.len signals K a)=0:=by
   unfold zMG;rw[if_neg];intro h;obtain⟨v,_,h⟩:=jU.1 h;unfold alP at h;rw[jh,jU]at h;obtain⟨⟨p,hp,h⟩,_⟩:=h;unfold zM4 at h;simp only[jh,decide_eq_true_eq,hnx]at h;exact hno p hp h.1.2 h.2
  have hlw0:zMH zs ss (pvV m zs r) K (zEt m zs ss r c.len signals K a)=0:=by
   unfold zMH;rw[zRE,if_neg];intro h;obtain⟨z,_,h⟩:=jU.1 h;unfold grP at h;simp only[jh,decide_eq_true_eq,hnx]at h;obtain⟨h1,h2⟩:=zT4 z (zKh m zs 0 r) (by simp[h]);have h3:=zTM m zs (fun q hq p hp=>(hF.full.pv q hq p hp).2.2.1) r 0 _ h1;exact hno _ h1 (by omega) (by omega)
  have hw:zMi m zs ss r c.len (zKh m zs 0 r) (pvV m zs r) K (zEt m zs ss r c.len signals K a) (zKu m zs ss r c.len signals K a)=0:=by
   unfold zMi;rw[hon0,hsl0,hap0,hal0,hlw0];rfl
  rw[if_pos hw];simp only[zLH,zLQ,hnx,Cu,hv.2];simp
set_option maxRecDepth 10000
open Go Go.Eng Go.PlanLaw
theorem zTQ{m:zD}(h:zcp m):∀(r:List zfn) (i:Nat),m.jd.drop i=r->∀b∈zTA i r,VB m b/\(i:Int)<=b.lane
 |[],i,_,b,hb=>by cases hb
 |l::r,i,hd,b,hb=>by
  obtain⟨hi,hx,hd'⟩:=zL hd;unfold zTA at hb;rcases jK.1 hb with rfl|hb
  ·have hlen:z8 m (i:Int)=l.len:=by simp[z8,hi,hx]
   have hl1:=h.Cn l (by rw[<-hx];exact jf hi);have htop:0<=zeR l.kind:=by unfold zeR;(repeat' split)<;>omega
   have hkd:zaK m (i:Int)=l.kind:=by simp[zaK,hi,hx]
   refine⟨⟨⟨by simp[zTF],by simp[zTF];omega⟩,by simp[zTF],by simp[zTF];omega,by simp[zTF,hlen],by simp[zTF],by simpa [zTF]using htop,by simp[zTF,hkd],by simp[zTF,hlen];omega⟩,by simp[zTF]⟩
  ·have:=zTQ h r (i+1) hd' b hb;exact⟨this.1,by omega⟩
theorem zTX{m:zD}(h:zcp m):∀(r:List zfn) (i:Nat),m.jd.drop i=r->(zTA i r).Pairwise Apt
 |[],i,_=>List.Pairwise.nil
 |l::r,i,hd=>by
  obtain⟨hi,hx,hd'⟩:=zL hd;unfold zTA;refine jW.2 ⟨fun b hb=>.inl ?_,zTX h r (i+1) hd'⟩;have:=(zTQ h r (i+1) hd' b hb).2;show(i:Int)<b.lane;omega
open Go Go.Eng
theorem KNd.zero{S:StV}{zs:List Zon}{ss:List Sgn}(hS:z6u S zs ss)(hB:Zlr S zs):KNd S.m ⟨S.t0,zTA 0 S.m.jd,S.e0⟩:=by
 have hg:=hS.full.full.qD;obtain⟨v1,v2⟩:=hB.v;obtain⟨s1,s2,s3⟩:=hB.s;obtain⟨q1,q2,_⟩:=hS.car;have hb:=hB.big;have ht:=hB.t;refine⟨⟨fun b hb=>(zTQ hg S.m.jd 0 rfl b hb).1,zTX hg S.m.jd 0 rfl,⟨⟨by simp only;omega,by simp only;omega,by simp only;omega⟩,⟨by simp only;omega,by simp only;omega,by simp only;omega⟩⟩⟩,by simp only;omega⟩
theorem KB.zero{S:StV}{zs:List Zon}{ss:List Sgn}(hS:z6u S zs ss)(hB:Zlr S zs):KB S.m (Zhv S ⟨S.t0,zTA 0 S.m.jd,S.e0⟩):=by
 have hb:=hB.big;have ht:=hB.t;exact⟨(KNd.zero hS hB).own,by simp only[Zhv];omega,by simp only[Zhv];omega⟩
abbrev Zn3(S:StV):List Cl:=[I S.m.version,.jb (S.m.jd.map zo),.jb S.m.qS,.jb S.m.signals,.jb (S.m.kF.map zaL),.jb (zu S.r),I S.car.len,I S.car.qQ,I S.car.qg,I S.car.v6,I S.car.um,I S.e0.slo,I S.e0.shi,I S.e0.vlo,I S.e0.vhi,I S.t0,I S.kQ,I S.v7,.bool S.sig,
 I S.m.version,.jb (S.m.jd.map zo),.jb S.m.qS,.jb S.m.signals,.jb (S.m.kF.map zaL),.jb (zu S.r),.jb (zu (zW S.m 0 S.r)),I (zmd S.m 0 S.r),I S.car.len,.jb (zu (S.m.jd.map zfn.len)),.jb (zgU (srcs S)),
 I S.t0,I S.t0,I S.t0,I 1,.jb [[I 0]],.kX,.map 1 true,I 0,.jc,I 0,.jc,I 0,I 0,I 0,I 0,I 0]
theorem ZnJ{S:StV}{zs:List Zon}{ss:List Sgn}(hS:z6u S zs ss)(v:Nat){k:zci}(hk:k.jZ.length<=300000000)(he:znd k.ego):R L Cs Zjk [Pt 0,.a (zG k)] [bxv v 46 (Zn3 S),mpB 0 [] 0]=some (.w (.a (zG (Zhv S k))),[bxv v 46 (Zn3 S),mpB 0 [] 0]):=by
 have hG:=hS.full.full.qD;obtain⟨hon,hne,hl8⟩:=zg1 hG hS.vE;have hr2:=zlP hS.full.full.yl hS.vE;have hc:=hS.car;have hlen:0<=S.car.len/\S.car.len<=20000:=by obtain⟨q1,q2,_⟩:=hc;omega
 have hes:=he.s;have h1:=zor hG S.r (by omega) hon S.car.len k.ego (by omega) hlen k.jZ (by
  have:2 ^ S.r.length<=2 ^ 8:=u7 (by decide) (by omega)
  calc k.jZ.length*2 ^ S.r.length<=300000000*2 ^ 8:=ya hk this
   _<=100000000000:=by decide)
 have h2:=zvv k.jZ (by omega);simp only[zh,zi,zch]at h1;rw[zUa Zjq rfl];simp[ZhN,zG,Zhv,h1,h2,zX,Zly]
theorem Znz{S:StV}{zs:List Zon}{ss:List Sgn}(hS:z6u S zs ss)(hB:Zlr S zs):R L Cs ZlW [.a (ZlR S)] []=some (.t [Pt 0,W 0],ndM S (nd0 S) (rg0 S) 0 [] 4 0 0):=by
 have hf:=hS.full.full;have hk:=KNd.zero hS hB;have h1:=ZmX hS hB;have h2:=ZmV hS;have h3:=zB9 hf.qD hS.vE S.car.len;have h4:=Zn6 hf.qD S.t0 S.e0;have h5:=ZnJ hS 1 (k:=⟨S.t0,zTA 0 S.m.jd,S.e0⟩) (by have:=hk.len hS;omega) hk.j.ego;have e0:(Zhv S ⟨S.t0,zTA 0 S.m.jd,S.e0⟩).tick=S.t0/\(Zhv S ⟨S.t0,zTA 0 S.m.jd,S.e0⟩).ego=S.e0:=⟨rfl,rfl⟩;unfold nd0 rg0;generalize Zhv S ⟨S.t0,zTA 0 S.m.jd,S.e0⟩=K at *;obtain⟨kt,kb,ke⟩:=K;simp only at e0;obtain⟨rfl,rfl⟩:=e0;generalize zTA 0 S.m.jd=A at *;simp only[zf,zh,zi,zG,zch,mpB,qj]at h3 h4 h5;rw[zUa ZmG rfl];simp[Zjz,h1,h2,h3,h4,h5,zr]
abbrev ndX(S:StV)(d:NdV)(a b:Nat):List Cl:=[I S.m.version,.jb (S.m.jd.map zo),.jb S.m.qS,.jb S.m.signals,.jb (S.m.kF.map zaL),.jb (zu S.r),I S.car.len,I S.car.qQ,I S.car.qg,I S.car.v6,I S.car.um,I S.e0.slo,I S.e0.shi,I S.e0.vlo,I S.e0.vhi,I S.t0,I S.kQ,I S.v7,.bool S.sig,
 I S.m.version,.jb (S.m.jd.map zo),.jb S.m.qS,.jb S.m.signals,.jb (S.m.kF.map zaL),.jb (zu S.r),.jb (zu (zW S.m 0 S.r)),I (zmd S.m 0 S.r),I S.car.len,.jb (zu (S.m.jd.map zfn.len)),.jb (zgU (srcs S)),
 I d.now,I d.first,I d.last,I d.mode,.jb (zu d.kU),.ptr a 0 0 0,.map b true,I d.qN,.jb (zu d.told),I d.k9.tick,.jb (zI d.k9.jZ),I d.k9.ego.slo,I d.k9.ego.shi,I d.k9.ego.vlo,I d.k9.ego.vhi,I d.looked]
theorem rg3:List.range 3=[0,1,2]:=rfl
def ZoW(S:StV)(zs:List Zon)(ss:List Sgn)(l:List Int)(k:zci):zci:=l.foldl (ZhP S zs ss) k
theorem Zpn{S:StV}{zs:List Zon}{ss:List Sgn}(hS:z6u S zs ss):∀(l:List Int) (k:zci),KB S.m k->k.tick+l.length<=100000->KB S.m (ZoW S zs ss l k)/\(ZoW S zs ss l k).tick=k.tick+l.length
 |[],k,h,ht=>⟨h,by simp[ZoW]⟩
 |a::l,k,h,ht=>by
  simp only[jl]at ht;obtain⟨h1,h2⟩:=h.step hS (by omega) a;obtain⟨h5,h6⟩:=Zpn hS l _ h1 (by rw[h2];omega);refine⟨h5,h6.trans ?_⟩;rw[h2,jl];omega
abbrev loE(i na:Nat)(A:Cl):Env:=[(21,.w (W i)),(20,.w (W na)),(19,.w (.c A)),(0,.w (Pt 0)),(3,.w (Pt 3))]
theorem Zqr(M:Mem):Y L Cs Zio (some [21,20,19,0,3]) 4 [(21,.w (W 0)),(20,.w (W 0)),(19,.w (.c .jc)),(0,.w (Pt 0)),(3,.w (Pt 3))] M=some (.exit 0,[(22,.w (Bo false)),(21,.w (W 0)),(20,.w (W 0)),(19,.w (.c .jc)),(0,.w (Pt 0)),(3,.w (Pt 3))],M):=by
 rw[ZfM Zio.eq_1];simp
theorem ZpK{S:StV}{zs:List Zon}{ss:List Sgn}(hS:z6u S zs ss)(d:NdV){g:RgV}(hg:g.na<=5)(hi0:g.ini=false)(ha:∀a∈g.jL,zk0 a)(c:Int)(es:List Zou)(v w u:Nat):∀(f i:Nat) (k:zci) (vk:Nat),i+f=g.na->KB S.m k->k.tick+f<=100000 ->
  ∃vk',Y L Cs Zio (some [21,20,19,0,3]) 4 (loE i g.na (.bsl 1 0 0 0 1 g.na 5)) (ndM S d g c es v w u++[bxv vk 6 (zG k)]) =
   some (.exit 0,(22,.w (Bo false))::loE g.na g.na (.bsl 1 0 0 0 1 g.na 5),ndM S d g c es v w u++[bxv vk' 6 (zG (ZoW S zs ss (g.jL.drop i) k))])
 |0,i,k,vk,hf,hk,ht=>by
  obtain rfl:i=g.na:=by omega
  have e:g.jL.drop g.na=[]:=qI (by simp[RgV.jL];omega);rw[e];refine⟨vk,?_⟩;obtain⟨s0,s1,s2,s3,s4,n,ini,p⟩:=g;simp only at hi0;subst hi0;rw[ZfM Zio.eq_1];simp[ZoW,Zly]
 |f+1,i,k,vk,hf,hk,ht=>by
  have hin:i<g.na:=by omega
  have e:=ZkB hg hin;have ha0:zk0 (Zir g i):=ha _ (qm (by rw[e];exact jq));obtain⟨k1,k2⟩:=hk.step hS (by omega) (Zir g i);have h1:=Zkc hS d g c es v w u hk.nd (Zir g i) ha0;obtain⟨vk',ih⟩:=ZpK hS d hg hi0 ha c es v w u f (i+1) (ZhP S zs ss k (Zir g i)) (vk+1) (by omega) k1 (by rw[k2];omega);refine⟨vk',?_⟩;have ec:ZoW S zs ss (g.jL.drop i) k=ZoW S zs ss (g.jL.drop (i+1)) (ZhP S zs ss k (Zir g i)):=by rw[e];rfl
  rw[ec,<-ih];have hw:=zB (i:=i) (by omega);have hci:(i:Int)<g.na:=by omega
  clear ih ec k1 k2;generalize ZhP S zs ss k (Zir g i)=ks at *;obtain⟨s0,s1,s2,s3,s4,n,ini,p⟩:=g;simp only at hi0 hg hin hci;subst hi0;simp only[zG]at h1;rw[ZfM Zio.eq_1];simp[ndM,ndC,rgC,mpB,bxv]at h1;have e1:(1:Int)<n<->1<n:=by omega
  have e2:(2:Int)<n<->2<n:=by omega
  have e3:(3:Int)<n<->3<n:=by omega
  have e4:(4:Int)<n<->4<n:=by omega
  rcases i with _|_|_|_|_|i
  case succ.succ.succ.succ.succ=>omega
  all_goals simp only[Zir]at h1
  all_goals have hin':=hin
  all_goals simp (config:={ failIfUnchanged:=false }) only[jF,Nat.reduceAdd]at hin'
  all_goals simp[loE,hin',e1,e2,e3,e4,h1,wk1,wk2,wk3,wk4,wk5,zG,Zly,-Int.natCast_add]
def ZoJ(S:StV)(zs:List Zon)(ss:List Sgn)(d:NdV)(g:RgV):zci:=Zhv S ⟨d.now,zTA 0 S.m.jd,(ZoW S zs ss g.jL g.jO).ego⟩
def ZoO(S:StV)(zs:List Zon)(ss:List Sgn)(d:NdV)(g:RgV):NdV:={ d with k9:=ZoJ S zs ss d g,first:=d.now,mode:=2 }
def ZoH(k:zci):RgV:=⟨0,0,0,0,0,0,true,k⟩
abbrev Zqg(S:StV)(zs:List Zon)(ss:List Sgn)(d:NdV)(g:RgV)(c:Int)(es:List Zou)(v w u a b:Nat):Mem:=[bxv v 46 (ndX S (ZoO S zs ss d g) a b),bxv w 12 (rgC 1 g),mpB c es u]
theorem ZpJ{S:StV}{zs:List Zon}{ss:List Sgn}(hS:z6u S zs ss)(d:NdV){g:RgV}(hg:ZjQ g)(ha:∀a∈g.jL,zk0 a)(hk:KB S.m g.jO)(ht:g.jO.tick+g.na<=100000)(hn:d.now=g.jO.tick+g.na)(c:Int)(es:List Zou)(v w u:Nat) :
  R L Cs ZiI [Pt 0] (ndM S d g c es v w u)=some (.w (.c (fnN ZhK)),Zqg S zs ss d g c es (v+5) w u 3 4++[bxv 0 12 (rgC 3 (ZoH (ZoJ S zs ss d g))),mpB 0 [] 0]):=by
 have hacts:g.jL.length<=g.na:=by simp[RgV.jL];omega
 obtain⟨k1,k2⟩:=Zpn (zs:=zs) (ss:=ss) hS g.jL g.jO hk (by omega);have hA:=Zn6 hS.full.full.qD d.now (ZoW S zs ss g.jL g.jO).ego;have h0:=hk.nd.t;have hkn:KNd S.m ⟨d.now,zTA 0 S.m.jd,(ZoW S zs ss g.jL g.jO).ego⟩:=⟨⟨fun b hb=>(zTQ hS.full.full.qD S.m.jd 0 rfl b hb).1,zTX hS.full.full.qD S.m.jd 0 rfl,k1.nd.j.ego⟩,by simp only;omega⟩;have hO:=ZjW hS d g c es v w u (k:=⟨d.now,zTA 0 S.m.jd,(ZoW S zs ss g.jL g.jO).ego⟩) (by have:=hkn.len hS;omega) hkn.j.ego;have eK:(ZoJ S zs ss d g).tick=d.now:=rfl;have BZ:∃vk',(g.ini=true/\g.jL=[]/\vk'=0)\/(g.ini=false/\Y L Cs Zio (some [21,20,19,0,3]) 4 (loE 0 g.na (.bsl 1 0 0 0 1 g.na 5)) (ndM S d g c es v w u++[bxv 1 6 (zG g.jO)]) =
   some (.exit 0,(22,.w (Bo false))::loE g.na g.na (.bsl 1 0 0 0 1 g.na 5),ndM S d g c es v w u++[bxv vk' 6 (zG (ZoW S zs ss g.jL g.jO))])):=by
  cases hi:g.ini with
  |true=>exact⟨0,.inl ⟨rfl,by simp[RgV.jL,hg.ini hi],rfl⟩⟩
  |false =>
   obtain⟨vk',h⟩:=ZpK hS d hg.few hi ha c es v w u g.na 0 g.jO 1 (by omega) hk ht;exact⟨vk',.inr ⟨rfl,h⟩⟩
 clear hkn k1 k2;unfold Zqg ZoO;change R L Cs _ _ _=some (_,[bxv _ _ (ndX S { d with k9:=ZoJ S zs ss d g,first:=d.now,mode:=2 } 3 4),_,_]++_);have hO':R L Cs Zjk [Pt 0,.a (zG ⟨d.now,zTA 0 S.m.jd,(ZoW S zs ss g.jL g.jO).ego⟩)] (ndM S d g c es v w u)=some (.w (.a (zG (ZoJ S zs ss d g))),ndM S d g c es v w u):=hO;clear hO;obtain⟨vk',BZ⟩:=BZ;generalize ZoJ S zs ss d g=K at *;generalize zTA 0 S.m.jd=AL at *;obtain⟨kt,kb,ke⟩:=K;rcases BZ with⟨hi,he,-⟩ |⟨hi,hL⟩
 ·rw[he]at hA hO';have h00:=hg.ini hi;have es0:ZoW S zs ss [] g.jO=g.jO:=rfl;rw[es0]at hA hO';obtain⟨s0,s1,s2,s3,s4,n,ini,p⟩:=g;simp only at hi h00;subst hi;subst h00;simp only[zf,zG,zch]at hA hO';rw[zUa ZoK rfl];simp[ndM,ndC,rgC,mpB,bxv]at hO';simp[ZiL,Zqr,hA,hO',zG,zch,Zly,zr,ZoH,rg3]
 ·generalize ZoW S zs ss g.jL g.jO=P at *;obtain⟨pt,pb,pe⟩:=P;obtain⟨s0,s1,s2,s3,s4,n,ini,p⟩:=g;simp only at hi;subst hi;simp only[zf,zG,zch,loE,ndM,ji,je,jg]at hA hO' hL;rw[zUa ZoK rfl];simp[ndC,rgC,mpB,bxv]at hO';simp (config:={ maxSteps:=400000 }) [ZiL,hL,hA,hO',zG,zch,Zly,zr,ZoH,rg3]
abbrev tlM(S:StV)(d:NdV)(g':RgV)(v w':Nat)(g:RgV)(c:Int)(es:List Zou)(w u:Nat)(X:List Cl):Mem:=[bxv v 46 (ndX S d 4 5),bxv w 12 (rgC 1 g),mpB c es u,bx 4 X,bxv w' 12 (rgC 4 g'),mpB 0 [] 0]
theorem Zqd{S:StV}{zs:List Zon}{ss:List Sgn}{d:NdV}{g:RgV}{c:Int}{es:List Zou}{v w u:Nat}(x:Zjo)
  (hR:R L Cs ZiI [Pt 0] (ndM S d g c es v w u)=some (.w (.c (fnN ZhK)),Zqg S zs ss d g c es (v+5) w u 3 4++[bxv 0 12 (rgC 3 (ZoH (ZoJ S zs ss d g))),mpB 0 [] 0])) :
  Y L Cs zj (some [6,0]) 4 [(6,.w (.c (fnN ZiI))),(0,.w (Pt 0))] (ndM S d g c es v w u++[bx 4 (inC x)])=Y L Cs zj (some [6,0]) 4 [(6,.w (.c (fnN ZhK))),(0,.w (Pt 0))] (tlM S (ZoO S zs ss d g) (ZoH (ZoJ S zs ss d g)) (v+5) 0 g c es w u (inC x)):=by
 unfold Zqg at hR;generalize ZoO S zs ss d g=d' at *;generalize ZoJ S zs ss d g=K at *;obtain⟨s0,s1,s2,s3,s4,na,ini,p⟩:=g;rw[ZfM zj.eq_1];cases ini<;>simp[ndM,ndC,rgC,mpB,bxv,ZoH]at hR<;>simp[hR,Zly,zr,ZoH]<;>rfl
theorem Zqc{S:StV}{d d':NdV}{k:zci}{g:RgV}{c:Int}{es:List Zou}{v v' w u f f':Nat}(x:Zjo)(hv:¬v'=v)(hR:R L Cs f [Pt 0] (ndM S d (ZoH k) 0 [] v 0 0)=some (.w (.c (fnN f')),ndM S d' (ZoH k) 0 [] v' 0 0)) :
  Y L Cs zj (some [6,0]) 4 [(6,.w (.c (fnN f))),(0,.w (Pt 0))] (tlM S d (ZoH k) v 0 g c es w u (inC x))=Y L Cs zj (some [6,0]) 4 [(6,.w (.c (fnN f'))),(0,.w (Pt 0))] (tlM S d' (ZoH k) v' 0 g c es w u (inC x)):=by
 obtain⟨s0,s1,s2,s3,s4,na,ini,p⟩:=g;rw[ZfM zj.eq_1];simp[ndM,ndC,rgC,mpB,bxv,ZoH]at hR;cases ini<;>simp[hR,hv,Zly,zr,ZoH]<;>rfl
theorem Zqe{S:StV}{d d':NdV}{k:zci}{g g':RgV}{c:Int}{es:List Zou}{v v' w w' u f:Nat}(x:Zjo)(hv:¬v'=v)(hw:¬w'=0)(hi:g'.ini=false)(hR:R L Cs f [Pt 0] (ndM S d (ZoH k) 0 [] v 0 0)=some (.w (.c .qV),ndM S d' g' 0 [] v' w' 0)) :
  Y L Cs zj (some [6,0]) 4 [(6,.w (.c (fnN f))),(0,.w (Pt 0))] (tlM S d (ZoH k) v 0 g c es w u (inC x))=some (.exit 1,[(43,.w (Bo false)),(6,.w (.c .qV)),(0,.w (Pt 0))],tlM S d' g' v' w' g c es w u (inC x)):=by
 obtain⟨s0,s1,s2,s3,s4,na,ini,p⟩:=g;obtain⟨r0,r1,r2,r3,r4,ma,jni,p'⟩:=g';simp only at hi;subst hi;rw[ZfM zj.eq_1];simp[ndM,ndC,rgC,mpB,bxv,ZoH]at hR;cases ini<;>simp[hR,hv,hw,Zly,zr,ZoH]<;>rw[ZfM zj.eq_1]<;>simp[Zly]
structure LM(k:Nat)(S:StV)(d:NdV)(g:RgV)(c:Int)(es:List Zou)(v w u p q:Nat)(M:Mem):Prop where
 nd:M[k]?=some (bxv v 46 (ndX S d p q))
 rg:M[p]?=some (bxv w 12 (rgC p g))
 mp:M[q]?=some (mpB c es u)
 kp:k≠p
 kq:k≠q
 pq:p≠q
variable{k:Nat}{S:StV}{d d':NdV}{g g':RgV}{c c':Int}{es es':List Zou}{v v' w w' u u' p q:Nat}{M:Mem}
theorem LM.len(h:LM k S d g c es v w u p q M):k<M.length/\p<M.length/\q<M.length:=⟨(jV.1 h.nd).1,(jV.1 h.rg).1,(jV.1 h.mp).1⟩
theorem LM.drop(h:LM k S d g c es v w u p q M){n:Nat}(hn:k<n)(E:Env):LM k S d g c es v w u p q (kK n E M):=by
 unfold kK;split
 ·exact h
 ·split
  ·rename_i hb;simp only[jh]at hb;have hb:=hb.2;have h1:(M.take n)[k]?=some (bxv v 46 (ndX S d p q)):=by rw[kW hn];exact h.nd
   have h2:([ndX S d p q]:List (List Cl)).all (fun r=>r.all (Eng.below n))=true:=jy.1 hb _ (kJ h1);have h3:=jy.1 h2 _ (jq ..);have h4:Eng.below n (.ptr p 0 0 0)=true:=jy.1 h3 _ (by simp);have h5:Eng.below n (.map q true)=true:=jy.1 h3 _ (by simp);have h4:p+1<=n:=of_decide_eq_true h4;have h5:q+1<=n:=of_decide_eq_true h5;exact⟨h1,by rw[kW (by omega)];exact h.rg,by rw[kW (by omega)];exact h.mp,h.kp,h.kq,h.pq⟩
  ·exact h
theorem Zo5{ρ:Nat->Option Nat}{id:Nat}{ids:List Nat}{b b' b0:Blk}{Ms M M1:Mem}{ch:List Nat}(h0:M[id]?=some (some b0))(hr:zhj ρ b=some b')(he:b.ver=b0.ver->b'=b0)(hb:back ρ ids Ms M=some (M1,ch))(h1:M1[id]?=some (some b0)) :
  ∃ch',back ρ (id::ids) (some b::Ms) M=some (M1.set id (some b'),ch'):=by
 unfold back;simp only[h0];by_cases c:b.ver=b0.ver
 ·rw[if_pos c,hb,he c];refine⟨ch,?_⟩;obtain⟨hl,e⟩:=jV.1 h1;rw[<-e,List.set_getElem_self]
 ·rw[if_neg c,hr,hb];exact⟨_,rfl⟩
theorem LM.on(h:LM k S d g c es v w u p q M){f:Nat}{xs:List Cl}(hxs:xs=[]\/∃x:Zjo,xs=inC x){r:AV}{Ms:Mem}(hR:R L Cs f (Pt 0::if xs=[] then [] else [.a xs]) (ndM S d g c es v w u)=some (r,Ms)) :
  zx (R L Cs) ⟨true⟩ (.c (.fn f [] [])) (Pt k::if xs=[] then [] else [.a xs]) M=uR [k,p,q] M r Ms:=by
 obtain⟨h1,h2,h3,n1,n2,n3⟩:=h;have hc:collect M zfj [k] []=[k,p,q]:=by
  cases hi:g.ini<;>simp[collect,zpw,h1,h2,h3,Blk.ids,CK,hi,n1,n2,n3,n1.symm,n2.symm,n3.symm]
 have ht:zck M (zd3 [k,p,q]) [k,p,q]=some (ndM S d g c es v w u):=by
  cases hi:g.ini<;>simp[zck,h1,h2,h3,zhj,zd3,n1,n2,n3,hi,Zly]
 have hnd:zku [k,p,q]=true:=by simp[zku,n1,n2,n3]
 have qP:zcG (R L Cs) f (Pt k::if xs=[] then [] else [.a xs]) M=uR [k,p,q] M r Ms:=by
  unfold zcG;have e1:(Pt k::if xs=[] then [] else [WV.a xs]).flatMap WV.ids=[k]:=by
   rcases hxs with rfl |⟨x,rfl⟩<;>simp[WV.ids]
  have e2:ziU (zd3 [k,p,q]) (Pt k::if xs=[] then [] else [WV.a xs])=some (Pt 0::if xs=[] then [] else [WV.a xs]):=by
   rcases hxs with rfl |⟨x,rfl⟩<;>simp[zd3]
  rw[e1,hc];simp only[hnd,if_true,e2,ht,hR]
 have hfz:zla M (Pt k::if xs=[] then [] else [WV.a xs])=some (Pt k::if xs=[] then [] else [WV.a xs]):=by
  rcases hxs with rfl |⟨x,rfl⟩<;>simp
 have hsl:(Pt k::if xs=[] then [] else [WV.a xs]).flatMap WV.sls=[]:=by
  rcases hxs with rfl |⟨x,rfl⟩<;>simp
 have hhd:zl2 f (Pt k::if xs=[] then [] else [WV.a xs])=true:=rfl;unfold zx;simp only[callee,qj,je,qd,if_true,hfz,hsl,hhd,Bool.or_true,List.isEmpty_nil];rw[qP]
abbrev ZpO(k p q:Nat)(X:List Cl)(v:Nat)(g:RgV)(c:Int)(es:List Zou)(w u:Nat)(M:Mem):Mem:=((M.set q (mpB c es u)).set p (some { box:=true,esz:=12,rows:=[rgC p g],gen:=0,fz:=false,ver:=w })).set k (some { box:=true,esz:=46,rows:=[X],gen:=0,fz:=false,ver:=v })
theorem LM.back(h:LM k S d g c es v w u p q M){ρ:Nat->Option Nat}(r0:ρ 0=some k)(r1:ρ 1=some p)(r2:ρ 2=some q){a b:Nat}{Ms:Mem}{X:List Cl}(hX:zez ρ [ndX S d' a b]=some [X])(hv:v'=v->X=ndX S d p q)(hw:w'=w->g'=g)(hu:u'=u->c'=c/\es'=es) :
  ∃ch,Eng.back ρ [k,p,q] (some { box:=true,esz:=46,rows:=[ndX S d' a b],gen:=0,fz:=false,ver:=v' }::bxv w' 12 (rgC 1 g')::mpB c' es' u'::Ms) M=some (ZpO k p q X v' g' c' es' w' u' M,ch):=by
 obtain⟨h1,h2,h3,n1,n2,n3⟩:=h;have b3:Eng.back ρ [] Ms M=some (M,[]):=by unfold Eng.back;rfl
 obtain⟨ch2,b2⟩:=Zo5 (ρ:=ρ) (b:={ box:=true,esz:=1,rows:=[I c']::es'.map Zly,gen:=0,fz:=false,ver:=u' }) (b':={ box:=true,esz:=1,rows:=[I c']::es'.map Zly,gen:=0,fz:=false,ver:=u' }) h3 (by simp[zhj,Zly]) (fun e=>by obtain⟨rfl,rfl⟩:=hu e;have:u'=u:=e;subst this;rfl) b3 h3;obtain⟨ch1,b1⟩:=Zo5 (ρ:=ρ) (b:={ box:=true,esz:=12,rows:=[rgC 1 g'],gen:=0,fz:=false,ver:=w' }) (b':={ box:=true,esz:=12,rows:=[rgC p g'],gen:=0,fz:=false,ver:=w' }) h2 (by cases hi:g'.ini<;>simp[zhj,r1,hi]) (fun e=>by have e:w'=w:=e;have:=hw e;subst e this;rfl) b2 (by rw[jI n3.symm];exact h2);obtain⟨ch0,b0⟩:=Zo5 (ρ:=ρ) (b:={ box:=true,esz:=46,rows:=[ndX S d' a b],gen:=0,fz:=false,ver:=v' }) (b':={ box:=true,esz:=46,rows:=[X],gen:=0,fz:=false,ver:=v' }) h1 (by unfold zhj;simp only[if_true];rw[hX];rfl) (fun e=>by have e:v'=v:=e;rw[hv e,e]) b1 (by rw[jI n1.symm,jI n2.symm];exact h1);exact⟨ch0,b0⟩
def Fr(k p q p' q':Nat)(M M':Mem):Prop:=∀i,i<M.length->i≠k->i≠p->i≠q->M'[i]?=M[i]?/\i≠p'/\i≠q'
theorem Zq4{X:List Cl}:(ZpO k p q X v g c es w u M).length=M.length/\∀i,i≠k->i≠p->i≠q->(ZpO k p q X v g c es w u M)[i]?=M[i]? :=
 ⟨by simp,fun i a b c=>by rw[jI (uu a),jI (uu b),jI (uu c)]⟩
theorem LM.set(h:LM k S d g c es v w u p q M):(ZpO k p q (ndX S d' p q) v' g' c' es' w' u' M).length=M.length/\LM k S d' g' c' es' v' w' u' p q (ZpO k p q (ndX S d' p q) v' g' c' es' w' u' M):=by
 obtain⟨l1,l2,l3⟩:=h.len;obtain⟨h1,h2,h3,n1,n2,n3⟩:=h;refine⟨by simp,?_,?_,?_,n1,n2,n3⟩
 ·exact j9 (by simpa using l1)
 ·rw[jI n1];exact j9 (by simpa using l2)
 ·rw[jI n2,jI n3];exact j9 (by simpa using l3)
theorem Zo2{k p q:Nat}{M M' Ms new:Mem}{r r':AV}{ch:List Nat}{ρ:Nat->Option Nat}(hρ:∀j,ρ j=match ([k,p,q]:List Nat)[j]? with |some id=>some id |none=>some (M.length+(j-3)))(hb:Eng.back ρ [k,p,q] Ms M=some (M',ch))(hn:zgx ρ (Ms.drop 3)=some new)(hr:znn ρ r=some r'):uR [k,p,q] M r Ms=some (r',M'++new,if ch.isEmpty then .no else .wr (ch.map fun id=>(id,0,whole))):=by
 have e:ρ=(fun j=>match ([k,p,q]:List Nat)[j]? with |some id=>some id |none=>some (M.length+(j-3))):=funext hρ;have e2:uR [k,p,q] M r Ms=(match Eng.back ρ [k,p,q] Ms M,zgx ρ (Ms.drop 3),znn ρ r with
  |some (M',ch),some new,some r=>some (r,M'++new,if ch.isEmpty then .no else .wr (ch.map fun id=>(id,0,whole)))
  |_,_,_=>none):=by rw[e];rfl
 rw[e2,hb,hn,hr]
theorem LM.call(h:LM k S d g c es v w u p q M){f:Nat}{xs:List Cl}(hxs:xs=[]\/∃x:Zjo,xs=inC x){r:AV}(hr:(∃a b,r=.t [W a,W b])\/(∃n,r=.w (W n))\/(∃k,r=.w (.a (zG k)))\/(∃y,r=.w (.a (zJ4 y)))\/(∃l,r=.w (.a [.jb (zu l)])))
  (hv:v'=v->d'=d) (hw:w'=w->g'=g) (hu:u'=u->c'=c/\es'=es)
  (hR:R L Cs f (Pt 0::if xs=[] then [] else [.a xs]) (ndM S d g c es v w u)=some (r,ndM S d' g' c' es' v' w' u')) :
  ∃M' fp,zx (R L Cs) ⟨true⟩ (.c (.fn f [] [])) (Pt k::if xs=[] then [] else [.a xs]) M=some (r,M',fp)/\LM k S d' g' c' es' v' w' u' p q M'/\M'.length=M.length/\Fr k p q p q M M':=by
 obtain⟨ρ,hρ⟩:∃ρ:Nat->Option Nat,∀j,ρ j=match ([k,p,q]:List Nat)[j]? with|some id=>some id|none=>some (M.length+(j-3)):=⟨_,fun _=>rfl⟩
 have r1:ρ 1=some p:=hρ 1;have r2:ρ 2=some q:=hρ 2;obtain⟨ch,hb⟩:=h.back (d':=d') (v':=v') (hρ 0) r1 r2 (a:=1) (b:=2) (Ms:=[]) (X:=ndX S d' p q) (by simp[r1,r2]) (fun e=>by rw[hv e]) hw hu;have hrA:znn ρ r=some r:=by
  rcases hr with⟨a,b,rfl⟩ |⟨n,rfl⟩ |⟨y,rfl⟩ |⟨⟨y1,y2,y3⟩,rfl⟩ |⟨l,rfl⟩<;>simp[zG,zJ4,zJY]
 have hl:=Zo2 hρ hb (new:=[]) rfl hrA;rw[qd]at hl;obtain⟨s1,s2⟩:=h.set (d':=d') (g':=g') (c':=c') (es':=es') (v':=v') (w':=w') (u':=u');exact⟨_,_,(h.on hxs hR).trans hl,s2,s1,fun i _ a b c=>⟨Zq4.2 i a b c,b,c⟩⟩
theorem LM.lose(h:LM k S d g c es v w u p q M){x:Zjo}{r:Int}{g1:RgV}{c1:Int}{es1:List Zou}{w1 u1:Nat}(hv:v<v')(hw:w1=w->g1=g)(hu:u1=u->c1=c/\es1=es)(hi:g'.ini=false)
  (hR:R L Cs Zh5 [Pt 0,.a (inC x)] (ndM S d g c es v w u)=some (.t [W r,W 0],[bxv v' 46 (ndX S d' 3 4),bxv w1 12 (rgC 1 g1),mpB c1 es1 u1,bxv 2 12 (rgC 3 g'),mpB 0 [] 0])) :
  ∃M' fp,zx (R L Cs) ⟨true⟩ (.c (.fn Zh5 [] [])) [Pt k,.a (inC x)] M=some (.t [W r,W 0],M',fp)/\LM k S d' g' 0 [] v' 2 0 M.length (M.length+1) M'/\M.length<=M'.length/\Fr k p q M.length (M.length+1) M M':=by
 obtain⟨ρ,hρ⟩:∃ρ:Nat->Option Nat,∀j,ρ j=match ([k,p,q]:List Nat)[j]? with|some id=>some id|none=>some (M.length+(j-3)):=⟨_,fun _=>rfl⟩
 have r1:ρ 1=some p:=hρ 1;have r2:ρ 2=some q:=hρ 2;have r3:ρ 3=some M.length:=hρ 3;have r4:ρ 4=some (M.length+1):=hρ 4;obtain⟨ch,hb⟩:=h.back (d':=d') (v':=v') (hρ 0) r1 r2 (a:=3) (b:=4) (Ms:=[bxv 2 12 (rgC 3 g'),mpB 0 [] 0]) (X:=ndX S d' M.length (M.length+1)) (by simp[r3,r4]) (fun e=>by omega) hw hu;obtain⟨l1,l2,l3⟩:=h.len;have hl:=Zo2 hρ hb (new:=[bxv 2 12 (rgC M.length g'),mpB 0 [] 0]) (by simp[zgx,zhj,hi,r3]) (r:=.t [W r,W 0]) (r':=.t [W r,W 0]) (by simp);have hlen:(ZpO k p q (ndX S d' M.length (M.length+1)) v' g1 c1 es1 w1 u1 M).length=M.length:=by simp
 have hk0:(ZpO k p q (ndX S d' M.length (M.length+1)) v' g1 c1 es1 w1 u1 M)[k]?=some (bxv v' 46 (ndX S d' M.length (M.length+1))):=j9 (by simpa using l1);have hfr:=(Zq4 (k:=k) (p:=p) (q:=q) (X:=ndX S d' M.length (M.length+1)) (v:=v') (g:=g1) (c:=c1) (es:=es1) (w:=w1) (u:=u1) (M:=M)).2;generalize ZpO k p q (ndX S d' M.length (M.length+1)) v' g1 c1 es1 w1 u1 M=M1 at *;exact⟨_,_,(h.on (.inr ⟨x,rfl⟩) hR).trans hl,⟨by rw[jw (by omega)];exact hk0,by rw[ka (by omega),hlen];simp,by rw[ka (by omega),hlen];simp,by omega,by omega,by omega⟩,by simp;omega,fun i hi a b c=>⟨by rw[jw (by omega)];exact hfr i a b c,by omega,by omega⟩⟩
end Go.TrRun
namespace Go.TrRun
open Go Go.Eng
def Znm(S:StV)(zs:List Zon)(ss:List Sgn)(k:zci)(p:List Int):Bool×Int×Int:=zOk S.m zs ss S.r S.car k p S.sig
theorem ZmB{S:StV}{zs:List Zon}{ss:List Sgn}(hS:z6u S zs ss)(d:NdV)(g:RgV)(c:Int)(es:List Zou)(v w u:Nat)(hk:d.k9.jZ.length<=100000000000)(hp:d.told.length<=1000)(hin:∀a∈d.told,zk0 a) :
  R L Cs ZlZ [Pt 0] (ndM S d g c es v w u)=some (.w (.a (zJ4 (Znm S zs ss d.k9 d.told))),ndM S d g c es v w u):=by
 have h0:=ZkQ S d g c es v w u;have hr2:=zlP hS.full.full.yl hS.vE;have h1:=zOJ hS.full S.r (by omega) S.car d.k9 hk d.told hin hp S.sig;unfold Znm;generalize zOk S.m zs ss S.r S.car d.k9 d.told S.sig=y at *;obtain⟨y1,y2,y3⟩:=y;obtain⟨s0,s1,s2,s3,s4,n,ini,p⟩:=g;simp only[zf,Pl.kR,zG,zJ4,zJY]at h1;rw[zUa Zl0 rfl];cases ini<;>simp[ndM,ndC,rgC,mpB,bxv]at h0<;>simp[ZiC,h0,h1,zJ4,zJY,Zly]
def Znp(S:StV)(zs:List Zon)(ss:List Sgn)(d:NdV):Bool:=decide (d.mode=2)&&decide (d.k9.ego.vhi=0)&&(Znm S zs ss d.k9 d.told).1
theorem ZmP{S:StV}{zs:List Zon}{ss:List Sgn}(hS:z6u S zs ss)(d:NdV)(g:RgV)(c:Int)(es:List Zou)(v w u:Nat)(hk:d.k9.jZ.length<=100000000000)(hp:d.told.length<=1000)(hin:∀a∈d.told,zk0 a) :
  R L Cs Zmc [Pt 0] (ndM S d g c es v w u)=some (if Znp S zs ss d then(.w (W 0),ndM S { d with mode:=1,last:=d.now } g c es (v+2) w u) else(.w (W 10),ndM S d g c es v w u)):=by
 have h0:=ZkQ S d g c es v w u;have h1:=ZmB hS d g c es v w u hk hp hin;unfold Znp;generalize Znm S zs ss d.k9 d.told=y at *;obtain⟨y1,y2,y3⟩:=y;obtain⟨s0,s1,s2,s3,s4,n,ini,p⟩:=g;simp only[zJ4,zJY]at h1;rw[zUa Zmf rfl];by_cases c1:d.mode=2
 ·by_cases c2:d.k9.ego.vhi=0
  ·cases y1<;>cases ini<;>simp[ndM,ndC,rgC,mpB,bxv,c1,c2]at h0 h1<;>simp[ZiW,h0,h1,c1,c2,Zly]
  ·cases ini<;>simp[ndM,ndC,rgC,mpB,bxv,c1]at h0 h1<;>simp[ZiW,h0,h1,c1,c2,Zly]
 ·cases ini<;>simp[ndM,ndC,rgC,mpB,bxv]at h0 h1<;>simp[ZiW,h0,h1,c1,Zly]
set_option maxRecDepth 100000
open Go Go.Eng Go.PlanLaw
def Zn5(m:zD)(zs:List Zon)(l:List Int):Bool:=!(decide (l.headD 0∈zbK m 0 m.jd)&&decide (zaK m (l.headD 0)=1))||((zKh m zs 0 l).all (fun p=>decide (10250<p.lo))&&decide (10250<=zmd m 0 l))
theorem Zn4(k:Nat)(hk:k<7)(lim r o1 o2 o3 v:Int)(ws:List zCP):zTx (zq k lim r o1 o2 o3 v ws) (Zn5 (zq k lim r o1 o2 o3 v ws) (zsP k r))=true:=match k,hk with
 |0,_=>by kernel_rfl
 |1,_=>by kernel_rfl
 |2,_=>by kernel_rfl
 |3,_=>by kernel_rfl
 |4,_=>by kernel_rfl
 |5,_=>by kernel_rfl
 |6,_=>by kernel_rfl
structure ZnL(m:zD)(zs:List Zon)(ss:List Sgn):Prop where
 full:zKj m zs ss
 con:∀l,zdA m l=0->∀z:Nat,z<zs.length->zTY (zKh m zs 0 l) z=true
 k0:zaK m ((zDT m 0).headD 0)=1
 wl:∀w∈m.kF,0<=w.ut
 beg:∀k,zaK m ((zDT m k).headD 0)=1->(∀p∈zKh m zs 0 (zDT m k),10250<p.lo)/\10250<=zmd m 0 (zDT m k)
theorem ZnA(n:Int):∃m zs ss,ZnL m zs ss/\R L Cs zY [W n] []=some (.w (.a (zf m)),[]):=by
 obtain⟨k,lim,r,o1,o2,o3,v,ws,hk,nu,hR⟩:=zA5 n;have hF:=zTs k hk nu;refine⟨_,_,_,⟨hF,fun l hr z hz=>?_,zT3 k hk lim r o1 o2 o3 v ws,fun x hx=>?_,fun j hj=>?_⟩,hR⟩
 ·exact jy.1 (zTp hF.full.yl (zT6 k hk lim r o1 o2 o3 v ws) hr) z (qz.2 hz)
 ·obtain⟨j,hj,_,_,_,_,_,_,_,h7,_⟩:=nu.wv x hx;exact h7
 ·have hr:=zE5 hF.full hF.pos j;have hb:=zTp hF.full.yl (Zn4 k hk lim r o1 o2 o3 v ws) hr;have hne:=zFr hF.full.yl hF.pos;have hin:(zDT (zq k lim r o1 o2 o3 v ws) j).headD 0∈zbK (zq k lim r o1 o2 o3 v ws) 0 (zq k lim r o1 o2 o3 v ws).jd:=by
   have hlen:0<(zbK (zq k lim r o1 o2 o3 v ws) 0 (zq k lim r o1 o2 o3 v ws).jd).length:=kP.2 hne;unfold zDT;rw[if_neg hne,List.headD_cons];have hi:=uc (j % 1048576).toNat hlen;rw[jv,jr hi];exact jf hi
  unfold Zn5 at hb;simp only[hin,hj,decide_true,Bool.and_self,Bool.not_true,ux,jh,decide_eq_true_eq,jy]at hb;exact hb
def Zns(m:zD)(k bu si dl s sp ln ac br ra:Int)(sg:Bool):StV :=
 ⟨m,zDT m k,⟨300+ln % 4700,1+ac % 30,50+br % 41,20+ra % 101,dl % 6⟩,⟨300+ln % 4700+1+s % 5000,300+ln % 4700+1+s % 5000+sp % 250,0,0⟩,0,bu % 9,si % 12,sg⟩
theorem ZnR{m:zD}{zs:List Zon}{ss:List Sgn}(hM:ZnL m zs ss){k:Int}(hk:k=0\/zaK m ((zDT m k).headD 0)=1)(bu si dl s sp ln ac br ra:Int)(sg:Bool) :
  z6u (Zns m k bu si dl s sp ln ac br ra sg) zs ss/\Zlr (Zns m k bu si dl s sp ln ac br ra sg) zs:=by
 have hkd:zaK m ((zDT m k).headD 0)=1:=by
  rcases hk with rfl|h
  ·exact hM.k0
  ·exact h
 obtain⟨b1,b2⟩:=hM.beg k hkd;have hro:=zE5 hM.full.full hM.full.pos k;unfold Zns;refine⟨⟨hM.full,hro,?_,?_,?_⟩,⟨⟨rfl,rfl⟩,?_,?_,?_,?_,hkd,?_⟩⟩
 ·unfold Car.ok;simp only;omega
 all_goals simp only
 all_goals first |omega |skip
 intro p hp;have:=b1 p hp;omega
theorem ZnS(n r dl bu si s sp ln ac br ra:Int)(sg:Bool):∃m zs ss k,ZnL m zs ss/\(k=0\/zaK m ((zDT m k).headD 0)=1) /\
  R L Cs ZlI [.a [I n,I r,I dl,I bu,I si,I s,I sp,I ln,I ac,I br,I ra,.bool sg]] []=some (.w (.a (ZlR (Zns m k bu si dl s sp ln ac br ra sg))),[]):=by
 obtain⟨m,zs,ss,hM,hR⟩:=ZnA n;obtain⟨k,hk,hRt⟩:=zT8 hM.full.full.qD r;refine⟨m,zs,ss,k,hM,hk,?_⟩;have e1:=zEW bu 9 (by omega) (by omega);have e2:=zEW si 12 (by omega) (by omega);have e3:=zEW dl 6 (by omega) (by omega);have e4:=zD0 ln 4700 (by omega) (by omega);have e5:=zD0 ac 30 (by omega) (by omega);have e6:=zD0 br 41 (by omega) (by omega);have e7:=zD0 ra 101 (by omega) (by omega);have e8:=zD0 s 5000 (by omega) (by omega);have e9:=zD0 sp 250 (by omega) (by omega);have w1:=zTd (300+ln % 4700) (by omega) (by omega);have w2:=zTd (1+ac % 30) (by omega) (by omega);have w3:=zTd (50+br % 41) (by omega) (by omega);have w4:=zTd (20+ra % 101) (by omega) (by omega);have w5:=zTd (300+ln % 4700+1) (by omega) (by omega);have w6:=zTd (300+ln % 4700+1+s % 5000) (by omega) (by omega);have w7:=zTd (300+ln % 4700+1+s % 5000+sp % 250) (by omega) (by omega);rw[zUa ZlV rfl];simp only[zf]at hR hRt;unfold Zns;simp[Zil,hR,hRt,e1,e2,e3,e4,e5,e6,e7,e8,e9,w1,w2,w3,w4,w5,w6,w7]
set_option maxRecDepth 10000
open Go Go.Eng
theorem zUJ(x tick:Int){lo lo' hi hi':Int}(hl:lo'<=lo)(hh:hi<=hi'):∀(l:List zCP) (n n':Int),n'<=n->l.foldl (zOx x lo' hi' tick) n'<=l.foldl (zOx x lo hi tick) n
 |[],n,n',h=>h
 |w::l,n,n',h=>by
  refine zUJ x tick hl hh l _ _ ?_
  grind [zOx,zQf]
theorem zUw(x lo hi tick:Int):∀(l:List zCP) (n:Int),(∀w∈l,0<=w.ut)->0<=n->0<=l.foldl (zOx x lo hi tick) n
 |[],n,_,h=>h
 |w::l,n,hw,h=>by
  refine zUw x lo hi tick l _ (fun y hy=>hw y (jA _ hy)) ?_
  grind [List.mem_cons_self,zOx]
theorem zUo{m:zD}(h:zcp m)(x:Int):0<=zLS m x:=by
 unfold zLS;by_cases c:x.toNat<m.jd.length
 ·have:=h.ut _ (jf c)
  grind
 grind
abbrev zVB(o o':Int):Prop:=o=-1\/(0<=o'/\o'<=o)
theorem zUS{m:zD}(h:zcp m)(hw:∀w∈m.kF,0<=w.ut){fr fr' to to' tick:Int}(hf:fr'<=fr)(ht:to<=to'):∀(r:List Int) (a o o':Int),zVB o o'->(o'=-1\/0<=o')->zVB (zNU m fr to tick a o r) (zNU m fr' to' tick a o' r)
 |[],a,o,o',hr,_=>hr
 |x::r,a,o,o',hr,h0=>by
  unfold zNU;have hn:=zUw x (max 0 (fr'-a)) (min (to'-a) (z8 m x)) tick m.kF (zLS m x) hw (zUo h x);have hm:=zUJ x tick (show max 0 (fr'-a)<=max 0 (fr-a) by omega) (show min (to-a) (z8 m x)<=min (to'-a) (z8 m x) by omega) m.kF (zLS m x) (zLS m x) (jS _);generalize hA:m.kF.foldl (zOx x (max 0 (fr-a)) (min (to-a) (z8 m x)) tick) (zLS m x)=A at *;generalize hB:m.kF.foldl (zOx x (max 0 (fr'-a)) (min (to'-a) (z8 m x)) tick) (zLS m x)=B at *;have e1:zNi m fr to tick a o x=if max 0 (fr-a)>min (to-a) (z8 m x) then o else if o<0\/A<o then A else o:=by grind [zNi]
  have e2:zNi m fr' to' tick a o' x=if max 0 (fr'-a)>min (to'-a) (z8 m x) then o' else if o'<0\/B<o' then B else o':=by grind [zNi]
  rw[e1,e2];have key:zVB (if max 0 (fr-a)>min (to-a) (z8 m x) then o else if o<0\/A<o then A else o) (if max 0 (fr'-a)>min (to'-a) (z8 m x) then o' else if o'<0\/B<o' then B else o')/\((if max 0 (fr'-a)>min (to'-a) (z8 m x) then o' else if o'<0\/B<o' then B else o')=-1\/0<=(if max 0 (fr'-a)>min (to'-a) (z8 m x) then o' else if o'<0\/B<o' then B else o')):=by
   grind
  exact zUS h hw hf ht r _ _ _ key.1 key.2
theorem zUH{m:zD}(h:zcp m)(hw:∀w∈m.kF,0<=w.ut){fr to tick:Int}:∀(r:List Int) (a o:Int),0<=o->0<=zNU m fr to tick a o r
 |[],a,o,ho=>ho
 |x::r,a,o,ho=>by
  refine zUH h hw r _ _ ?_;have hn:=zUw x (max 0 (fr-a)) (min (to-a) (z8 m x)) tick m.kF (zLS m x) hw (zUo h x)
  grind [zNi]
theorem zUI{m:zD}(h:zcp m)(hw:∀w∈m.kF,0<=w.ut){fr to tick:Int}(hft:fr<=to):∀(r:List Int) (a:Int),zj2 m r->a<=fr->to<=zmd m a r->r≠[]->0<=zNU m fr to tick a (-1) r
 |[],a,_,_,_,hne=>absurd rfl hne
 |x::r,a,hon,ha,ht,_=>by
  unfold zNU;have hn:=zUw x (max 0 (fr-a)) (min (to-a) (z8 m x)) tick m.kF (zLS m x) hw (zUo h x);by_cases c:fr<=a+z8 m x
  ·refine zUH h hw r _ _ ?_
   grind [zNi]
  ·have e:zNi m fr to tick a (-1) x=-1:=by grind [zNi]
   rw[e];cases r with
   |nil=>grind [zmd]
   |cons y r=>exact zUI h hw hft (y::r) _ (fun z hz=>hon z (jA _ hz)) (by omega) ht (by simp)
theorem zVj{m:zD}(h:zcp m)(hw:∀w∈m.kF,0<=w.ut){r:List Int}(hon:zj2 m r)(hne:r≠[]){x y:zci}(hI:InK x y)(h0:0<=x.ego.slo)(hle:x.ego.slo<=x.ego.shi)(he:x.ego.shi<=zmd m 0 r)(hs:zMt m r y=0):zMt m r x=0:=by
 unfold zMt at hs ⊢;have e1:=hI.ego.slo;have e2:=hI.ego.shi;have e4:=hI.ego.vhi;have hr:=zUS h hw (tick:=y.tick) e1 e2 r 0 (-1) (-1) (.inl rfl) (.inl rfl);have hh:=zUI h hw (tick:=y.tick) hle r 0 hon h0 he hne;rw[hI.tick]
 grind
theorem zU8{m:zD}{r:List Int}{x y:zci}(hI:InK x y)(h0:0<=x.ego.vhi){sw sw':List Swp}(hS:zVA sw sw')(hs:zMF m r y sw'=0):zMF m r x sw=0:=by
 unfold zMF at hs ⊢;have e2:=hI.ego.shi;have e4:=hI.ego.vhi;by_cases c:x.ego.vhi=0
 ·grind
 ·rw[if_neg c,if_neg];intro ha;obtain⟨s,hsm,hp⟩:=jU.1 ha;obtain⟨t,ht,hst⟩:=hS s hsm;have:sw'.any (apP m r y.ego.shi)=true:=by
   refine jU.2 ⟨t,ht,?_⟩;unfold apP at hp ⊢;rw[<-hst.lane];cases hi:zgo r s.lane with
   |none=>grind
   |some i =>
    rw[hi]at hp;simp only[jh,kL,decide_eq_true_eq]at hp ⊢;refine⟨?_,by have:=hst.lo;omega⟩;cases hc:t.cap with
    |false=>rfl
    |true=>rw[hst.cap hc]at hp;grind
  grind
theorem zVv{p:Prt}{s t:Swp}(h:InS s t)(hs:inS p s=true):inS p t=true:=by
 unfold inS at hs ⊢;simp only[jh,kL,decide_eq_true_eq]at hs ⊢;have h1:=h.lane;have h2:=h.lo;have h3:=h.hi;refine⟨⟨⟨?_,by grind⟩,by omega⟩,by omega⟩;cases hc:t.cap with
 |false=>rfl
 |true=>rw[h.cap hc]at hs;grind
theorem zUD{sw sw':List Swp}(h:zVA sw sw')(e:Int):∀(l:List Prt) (i:Nat),zNK sw e i l=true->zNK sw' e i l=true
 |[],i,ht=>ht
 |p::l,i,ht=>by
  unfold zNK at ht ⊢;simp only[uO,jh]at ht ⊢;rcases ht with⟨h1,h2⟩|h1
  ·grind [List.any_eq_true,zVv]
  ·exact .inr (zUD h e l _ h1)
theorem zU9{zs:List Zon}{len:Int}{ps:List Pss}{vs:List Vis}{w1 w2 x y:zci}(hw:InK w1 w2)(hI:InK x y){sw sw':List Swp}(hS:zVA sw sw')(hs:zMG zs len ps vs w2 y sw'=0):zMG zs len ps vs w1 x sw=0:=by
 unfold zMG at hs ⊢;rw[if_neg];intro ha;obtain⟨v,hv,hp⟩:=jU.1 ha;have:vs.any (alP zs ps sw' y.ego.shi (w2.ego.slo-len))=true:=by
  refine jU.2 ⟨v,hv,?_⟩;unfold alP zNf at hp ⊢;rw[jh]at hp ⊢;refine⟨?_,zUD hS _ _ _ hp.2⟩;obtain⟨p,hpm,h⟩:=jU.1 hp.1;unfold zM4 at h ⊢;have:=hI.ego.shi;have:=hw.ego.slo
  grind
 grind
theorem zVa{zs:List Zon}{ss:List Sgn}{vs:List Vis}{w1 w2 x y:zci}(hw:InK w1 w2)(hI:InK x y)(hs:zMH zs ss vs w2 y=0):zMH zs ss vs w1 x=0:=by
 unfold zMH at hs ⊢;rw[if_neg];intro ha;obtain⟨v,hv,hp⟩:=jU.1 ha;have:vs.any (zNj zs ss y.ego.shi w2.ego.slo w2.tick)=true:=by
  unfold zNj zP1 at hp ⊢;rw[hw.tick]at hp;have:=hI.ego.shi;have:=hw.ego.slo
  grind
 grind
theorem zUu{len:Int}{vs:List Vis}{x y:zci}(hI:InK x y)(h0:0<=x.ego.vhi)(hs:zLQ len vs y=true):zLQ len vs x=true:=by
 unfold zLQ at hs ⊢;have e1:=hI.ego.slo;have e2:=hI.ego.shi;have e4:=hI.ego.vhi
 grind [zOS,List.any_eq_true]
theorem zU7{a b c d e:Int}:zKs [a,b,c,d,e]=0<->a=0/\b=0/\c=0/\d=0/\e=0:=by
 grind [zKs]
open Go Go.Eng Go.PlanLaw
theorem zVq{m:zD}{zs:List Zon}{ss:List Sgn}(h:zcp m)(hw:∀w∈m.kF,0<=w.ut){r:List Int}(hon:zj2 m r)(hne:r≠[]){len:Int}{ps:List Pss}{vs:List Vis}{w1 w2 x y:zci}(hW:InK w1 w2)(hI:InK x y)(hx:znd x.ego){sw sw':List Swp}(hS:zVA sw sw')(hs:zMi m zs ss r len ps vs w2 y sw'=0):zMi m zs ss r len ps vs w1 x sw=0:=by
 obtain⟨⟨e1,e2,e3⟩,⟨e4,e5,e6⟩⟩:=hx;unfold zMi at hs ⊢;rw[zU7]at hs ⊢;obtain⟨h1,h2,h3,h4,h5⟩:=hs;have ho:x.ego.shi<=zmd m 0 r:=by
  unfold onW at h1;split at h1
  ·grind
  ·have:=hI.ego.shi;omega
 refine⟨by simp_all [onW,if_neg],zVj h hw hon hne hI e1 e2 ho h2,zU8 hI (by omega) hS h3,zU9 hW hI hS h4,zVa hW hI h5⟩
theorem zUs{m:zD}{zs:List Zon}{ss:List Sgn}(hf:zmq m zs ss)(hw:∀w∈m.kF,0<=w.ut){r:List Int}(hr:zdA m r=0)(len:Int)(ps:List Pss)(vs:List Vis)(signals:Bool):∀(t:List Int) (n n':Nat) (a b:zci),InK a b->zdf m a=0->zdf m b=0->(zKr m zs ss r len ps vs signals t n b).1=none->fbF m r t b.tick b.ego=none ->
  (zKr m zs ss r len ps vs signals t n' a).1=none/\fbF m r t a.tick a.ego=none/\InK (zKr m zs ss r len ps vs signals t n' a).2 (zKr m zs ss r len ps vs signals t n b).2/\zdf m (zKr m zs ss r len ps vs signals t n' a).2=0
 |[],n,n',a,b,hI,ha,hb,h1,h2=>⟨rfl,rfl,hI,ha⟩
 |x::t,n,n',a,b,hI,ha,hb,h1,h2=>by
  have h:=hf.qD;obtain⟨hon,hne,hl8⟩:=zg1 h hr;unfold zKr at h1;split at h1
  ·rename_i hwy;have hon':=zNe hwy;have hbad:¬BE m r b.tick b.ego x:=by
    intro hbd
    simp_all [fbF,if_pos]
   unfold fbF at h2;have hsh:(zaN m r b.ego x).shi<=zmd m 0 r:=hon';have h2:fbF m r t (b.tick+1) (zaN m r b.ego x)=none:=by
    simp_all
   obtain⟨hN,hS⟩:=zVi hf r len hI ha hb x signals;have hE:=zUz m r hI.ego x;have e2:=hE.shi;have htk:=hI.tick;unfold TrRun.BE at hbad;have cb:zdf m (zEt m zs ss r len signals b x)=0:=zEH hf hr len b x signals hb (by omega) (by omega);have ca:zdf m (zEt m zs ss r len signals a x)=0:=zEH hf hr len a x signals ha (by omega) (by omega);have hwa:=zVq h hw hon hne (len:=len) (ps:=ps) (vs:=vs) (zs:=zs) (ss:=ss) hI hN (zte ca).1 hS hwy;obtain⟨g1,g2,g3,g4⟩:=zUs hf hw hr len ps vs signals t (n+1) (n'+1) _ _ hN ca cb h1 h2;have v1:zKr m zs ss r len ps vs signals (x::t) n' a=zKr m zs ss r len ps vs signals t (n'+1) (zEt m zs ss r len signals a x):=by rw[zKr,if_pos hwa]
   have v2:zKr m zs ss r len ps vs signals (x::t) n b=zKr m zs ss r len ps vs signals t (n+1) (zEt m zs ss r len signals b x):=by rw[zKr,if_pos hwy]
   unfold fbF;rw[if_neg (by grind [TrRun.BE]),if_neg (by omega)];have g2:fbF m r t (a.tick+1) (zaN m r a.ego x)=none:=g2
   grind
  grind
theorem zUm(m:zD)(zs:List Zon)(ss:List Sgn)(r:List Int)(c:zK8)(k:zci)(p:List Int)(signals:Bool):(zOk m zs ss r c k p signals).1=true <->
  zKW m r c k=true/\qE c p=0/\(zKr m zs ss r c.len (zKh m zs 0 r) (pvV m zs r) signals p 0 k).1=none/\fbF m r p k.tick k.ego=none/\zLQ c.len (pvV m zs r) (zKr m zs ss r c.len (zKh m zs 0 r) (pvV m zs r) signals p 0 k).2=true:=by
 unfold zOk;by_cases h:zKW m r c k=true/\qE c p=0
 ·rw[if_pos h];unfold zNw zLH;generalize zKr m zs ss r c.len (zKh m zs 0 r) (pvV m zs r) signals p 0 k=V;obtain⟨v1,v2⟩:=V;cases v1 with
  |none =>
   by_cases hs:zLQ c.len (pvV m zs r) v2=true
   ·rw[if_pos hs];cases fbF m r p k.tick k.ego with
    |none=>grind [zKX]
    |some b=>simp[zKX]
   ·rw[if_neg hs];cases fbF m r p k.tick k.ego with
    |none=>grind [zKX]
    |some b=>simp[zKX]
  |some x =>
   cases fbF m r p k.tick k.ego with
   |none=>simp[zKX]
   |some b =>
    grind [zKX]
 grind
theorem zUV{m:zD}{r:List Int}{c:zK8}{k k':zci}(h:zKW m r c k=true)(hk:zdf m k'=0):zKW m r c k'=true:=by
 simp_all [zKW,jh,decide_eq_true_eq]
theorem zUC{m:zD}{zs:List Zon}{ss:List Sgn}(hf:zmq m zs ss)(hw:∀w∈m.kF,0<=w.ut){r:List Int}{c:zK8}{a b:zci}(hI:InK a b)(ha:zdf m a=0){p:List Int}{signals:Bool}(h:(zOk m zs ss r c b p signals).1=true):(zOk m zs ss r c a p signals).1=true:=by
 rw[zUm]at h ⊢;obtain⟨h1,h2,h3,h4,h5⟩:=h;obtain⟨hr,_,_,hb⟩:=zNz h1;obtain⟨g1,g2,g3,g4⟩:=zUs hf hw hr c.len _ _ signals p 0 0 a b hI ha hb h3 h4;exact⟨zUV h1 ha,h2,g1,g2,zUu g3 (by have:=(zte g4).1.v;omega) h5⟩
theorem zUX{c:zK8}{a:Int}{t:List Int}(h:qE c (a::t)=0)(hne:t≠[]):qE c t=0:=by
 obtain⟨b,t,rfl⟩:∃b s,t=b::s:=by cases t with|nil=>grind|cons b s=>grind
 unfold qE at h ⊢;split at h
 ·grind
 ·rename_i c1;rw[if_neg c1,if_neg (by simp)];split at h
  ·grind
  ·rw[if_neg (by grind)];split at h
   ·grind
   ·rw[if_neg (by grind)];split at h
    ·grind
    ·split at h
     ·grind
     ·simp_all [Go.PlanLaw.BF,Bool.or_true]
theorem zUY{c:zK8}{a:Int}(h:qE c [a]=0):a<=0:=by
 grind [qE]
theorem zVh{m:zD}{zs:List Zon}{ss:List Sgn}(hF:zKj m zs ss)(hw:∀w∈m.kF,0<=w.ut){r:List Int}(hcon:∀z:Nat,z<zs.length->zTY (zKh m zs 0 r) z=true){c:zK8}{k:zci}{a:Int}{t:List Int}{signals:Bool}(htk:k.tick<1099511627775)(h:(zOk m zs ss r c k (a::t) signals).1=true) :
  zm6 m r c.len k a=0/\zdf m (zEt m zs ss r c.len signals k a)=0/\(zOk m zs ss r c (zEt m zs ss r c.len signals k a) (Pl.vD (a::t)) signals).1=true:=by
 have hf:=hF.full;rw[zUm]at h;obtain⟨h1,h2,h3,h4,h5⟩:=h;obtain⟨hr,hkd,hc,hb⟩:=zNz h1;obtain⟨hon,hne,hl8⟩:=zg1 hf.qD hr;have hEb:=zFu hf.qD r hl8 hon;unfold zKr at h3;split at h3
 ·rename_i hwy;have hon':(zaN m r k.ego a).shi<=zmd m 0 r:=zNe hwy;have hbad:¬TrRun.BE m r k.tick k.ego a:=by
   intro hbd
   simp_all [fbF,if_pos]
  unfold fbF at h4;have h4:fbF m r t (k.tick+1) (zaN m r k.ego a)=none:=by
   simp_all
  have cn:zdf m (zEt m zs ss r c.len signals k a)=0:=zEH hf hr c.len k a signals hb (by omega) (by omega);have hst:zm6 m r c.len k a=0:=by
   obtain⟨q1,q2,_⟩:=hc
   grind [zm6]
  refine⟨hst,cn,?_⟩;have v1:zKr m zs ss r c.len (zKh m zs 0 r) (pvV m zs r) signals (a::t) 0 k=zKr m zs ss r c.len (zKh m zs 0 r) (pvV m zs r) signals t (0+1) (zEt m zs ss r c.len signals k a):=by rw[zKr,if_pos hwy]
  rw[v1]at h5;by_cases ht:t=[]
  ·subst ht;have e:Pl.vD [a]=[a]:=by simp[Pl.vD]
   have h5:zLQ c.len (pvV m zs r) (zEt m zs ss r c.len signals k a)=true:=h5;unfold zLQ at h5;simp only[jh,decide_eq_true_eq,kL]at h5;obtain⟨⟨e1,e2,e3⟩,⟨e4,e5,e6⟩⟩:=(zte cn).1;have hlen:=hc.1;have hnt:(zEt m zs ss r c.len signals k a).tick=k.tick+1:=rfl;have hsl:(zEt m zs ss r c.len signals k a).ego.shi<=zmd m 0 r:=hon';have hlaw:=fun(htk:(zEt m zs ss r c.len signals k a).tick<1099511627776)=>zTU hF hr hkd hcon hc (zEt m zs ss r c.len signals k a) cn ⟨by omega,h5.1⟩ hsl htk (by omega) signals a (zUY h2) h2
   have hca:=zT2 hF hcon c.len (zEt m zs ss r c.len signals k a).ego.shi (zEt m zs ss r c.len signals k a).ego.slo hlen e2
   grind [zRZ]
  ·have e:Pl.vD (a::t)=t:=by
    simp_all [Pl.vD,if_pos]
   rw[e,zUm];obtain⟨g1,g2,g3,g4⟩:=zUs hf hw hr c.len (zKh m zs 0 r) (pvV m zs r) signals t (0+1) 0 _ _ (InK.refl _) cn cn h3 h4;exact⟨zUV h1 cn,zUX h2 ht,g1,g2,zUu g3 (by have:=(zte g4).1.v;omega) h5⟩
 grind
def Zjt(S:StV)(zs:List Zon)(ss:List Sgn)(k:zci)(p:List Int):Bool:=(zOk S.m zs ss S.r S.car k p S.sig).1
structure ZkT(S:StV)(zs:List Zon)(ss:List Sgn):Prop where
 ok:z6u S zs ss
 be:Zlr S zs
 con:∀z:Nat,z<zs.length->zTY (zKh S.m zs 0 S.r) z=true
 wl:∀w∈S.m.kF,0<=w.ut
theorem InE.trans{a b c:Ego}(h:InE a b)(g:InE b c):InE a c:=⟨by have:=h.slo;have:=g.slo;omega,by have:=h.shi;have:=g.shi;omega,by have:=h.vlo;have:=g.vlo;omega,by have:=h.vhi;have:=g.vhi;omega⟩
theorem InE.refl(a:Ego):InE a a:=⟨jS _,jS _,jS _,jS _⟩
theorem InK.trans{a b c:zci}(h:InK a b)(g:InK b c):InK a c:=⟨h.tick.trans g.tick,h.ego.trans g.ego,h.bl.trans g.bl⟩
theorem KNd.le{m:zD}{k:zci}(h:KNd m k):Le k.jZ:=fun x hx=>(h.j.vb x hx).le
theorem ZjX(l:List zk):Sub l l:=fun p hp=>⟨p,hp,.refl p⟩
theorem Zke{S:StV}{k:zci}(h:KNd S.m k):InK (Zhv S k) k:=⟨rfl,.refl _,(zVd S.m k.ego S.car.len S.r h.le).1⟩
theorem Zle{m:zD}{k:zci}(h:KNd m k)(x:zZP):InK (Zib m k x) k:=⟨rfl,.refl _,z0e h.le⟩
theorem Zlh(k:zci)(a b c:Int):InK (z9f k a b c).1 k:=by
 unfold z9f;split
 ·exact InK.refl k
 ·split
  ·exact InK.refl k
  ·exact⟨rfl,⟨jS _,jS _,Int.le_max_left ..,Int.min_le_left ..⟩,ZjX _⟩
theorem Zln(k:zci)(a b c:Int):InK (Zag k a b c).1 k:=by
 unfold Zag;split
 ·exact InK.refl k
 ·split
  ·exact InK.refl k
  ·exact⟨rfl,⟨Int.le_max_left ..,Int.min_le_left ..,jS _,jS _⟩,ZjX _⟩
theorem ZkD:∀(l:List Mrk) (k:zci) (b:Bool),InK (ZhZ l (k,b)).1 k
 |[],k,b=>InK.refl k
 |x::l,k,b=>(ZkD l (z9f k x.st x.lo x.hi).1 (b&&(z9f k x.st x.lo x.hi).2)).trans (Zlh ..)
theorem Zkq:∀(l:List Mrk) (k:zci) (b:Bool),InK (Zis l (k,b)).1 k
 |[],k,b=>InK.refl k
 |x::l,k,b=>(Zkq l (Zag k x.st x.lo x.hi).1 (b&&(Zag k x.st x.lo x.hi).2)).trans (Zln ..)
theorem ZkE{S:StV}:∀(l:List zZP) {k:zci} (b:Bool),KNd S.m k->InK (ZiH S l (k,b)).1 k
 |[],k,b,_=>InK.refl k
 |x::l,k,b,h=>(ZkE l (b&&ZiS S.m (Zhv S (Zib S.m k x)) x.pts) (h.upd x).own).trans ((Zke (h.upd x)).trans (Zle h x))
theorem ZkZ{S:StV}{k:zci}(h:KNd S.m k)(q:Option Hrd):InK (znE S q k).1 k:=by
 cases q with
 |none=>exact Zke h
 |some y =>
  obtain⟨h1,_⟩:=KNd.spds y.jR true h;have h1':KNd S.m (ZhZ y.jR (k,true)).1:=h1;obtain⟨h2,_⟩:=KNd.fixs y.ki (ZhZ y.jR (k,true)).2 h1';exact(ZkE y.kg _ h2.own).trans ((Zke h2).trans ((Zkq y.ki _ _).trans (ZkD y.jR k true)))
theorem ZnC{S:StV}{zs:List Zon}{ss:List Sgn}{k:zci}{p:List Int}(h:Zjt S zs ss k p=true):p≠[]/\p.length<=200:=by
 unfold Zjt at h;rw[zUm]at h;obtain⟨_,h2,h3⟩:=zVR h.2.1;exact⟨h2,h3⟩
theorem ZmO(a:Int)(t:List Int):Pl.uD (a::t) 0=a:=by
 unfold Pl.uD;rw[if_neg (by simp)];have:(max 0 (min (0:Int) (((a::t).length:Nat)-1))).toNat=0:=by
  simp only[jl];omega
 rw[this];rfl
theorem ZnB{S:StV}{zs:List Zon}{ss:List Sgn}(hL:ZkT S zs ss){k:zci}(hk:KB S.m k)(ht:k.tick<100000){p:List Int}(h:Zjt S zs ss k p=true)(q:Option Hrd) :
  Zjt S zs ss (znE S q (ZhP S zs ss k (Pl.uD p 0))).1 (Pl.vD p)=true:=by
 obtain⟨hne,_⟩:=ZnC h;obtain⟨a,t,rfl⟩:∃a t,p=a::t:=by cases p with|nil=>exact absurd rfl hne|cons a t=>exact⟨a,t,rfl⟩
 rw[ZmO];obtain⟨k1,_⟩:=hk.step (zs:=zs) (ss:=ss) hL.ok ht a;obtain⟨_,_,h3⟩:=zVh hL.ok.full hL.wl hL.con (by omega) h;exact zUC hL.ok.full.full hL.wl (ZkZ k1.nd q) (k1.nd.Ax q).1.chk h3
theorem Zkn(kQ:Int)(ok:List Int->Bool):∀(t:List (List Int)) (i:Nat),0<=(zK5 kQ ok t i).1->∃j,j<t.length/\(zK5 kQ ok t i).1=((i+j:Nat):Int)/\ok (t.getD j [])=true
 |[],i,h=>by simp[zK5]at h
 |p::t,i,h=>by
  unfold zK5 at h ⊢;split
  ·rename_i c;rw[if_pos c]at h;simp at h
  ·rename_i c;rw[if_neg c]at h;split
   ·rename_i c2;exact⟨0,by simp,by simp,by simpa using c2⟩
   ·rename_i c2;rw[if_neg c2]at h;obtain⟨j,h1,h2,h3⟩:=Zkn kQ ok t (i+1) h;exact⟨j+1,by simp;omega,by rw[h2];omega,by simpa using h3⟩
theorem ZkW{S:StV}{zs:List Zon}{ss:List Sgn}(hc:S.car.ok)(d:NdV)(h:0<=(Zkd S zs ss d).1):Zjt S zs ss d.k9 (ZiG S zs ss d).kU=true/\(ZiG S zs ss d).kU.length<=125:=by
 unfold ZiG;simp only[if_pos h];unfold Zkd zOU at h ⊢;obtain⟨j,h1,h2,h3⟩:=Zkn _ _ _ 0 h;unfold zMT;rw[h2,if_neg (by omega),show(((0+j:Nat):Int)).toNat=j by omega];constructor
 ·unfold okC at h3;simp only[jh,decide_eq_true_eq]at h3;obtain⟨⟨h4,h5⟩,h6⟩:=h3;unfold Zjt zOk;rw[if_pos ⟨h4,h5⟩];exact h6
 ·have hl:=fun up hold=>zOt hc (Zh2 d S.car.um.toNat) d.qN (max 0 (min d.k9.ego.vhi 2000)) up hold (by omega)
  have hm:(zLj S.car (Zh2 d S.car.um.toNat) d.qN d.k9).getD j []∈zLj S.car (Zh2 d S.car.um.toNat) d.qN d.k9:=by
   rw[jv,jr h1];exact jf h1
  generalize (zLj S.car (Zh2 d S.car.um.toNat) d.qN d.k9).getD j []=p at *;simp only[zLj,Pl.yu,jK,qe,or_false]at hm;rcases hm with rfl|rfl|rfl|rfl|rfl|rfl|rfl|rfl
  ·have:=hl 6 4;omega
  ·have:=hl 6 0;omega
  ·have:=hl 3 4;omega
  ·have:=hl 3 0;omega
  ·have:=hl 1 4;omega
  ·have:=hl 1 0;omega
  ·have:=hl 0 4;omega
  ·have:=hl 0 0;omega
theorem Zp6{a b:zci}(h:InK a b){st lo hi:Int}(ok:(z9f a st lo hi).2=true):InK (z9f a st lo hi).1 (z9f b st lo hi).1:=by
 obtain⟨h1,⟨h2,h3,h4,h5⟩,h6⟩:=h;unfold z9f at ok ⊢;by_cases c:st=a.tick
 ·rw[if_neg (by simpa using c)]at ok ⊢;rw[if_neg (show ¬st≠b.tick by rw[<-h1];simpa using c)];by_cases d:max a.ego.vlo lo>min a.ego.vhi hi
  ·rw[if_pos d]at ok;cases ok
  ·rw[if_neg d,if_neg (by omega)];exact⟨h1,⟨h2,h3,by simp only;omega,by simp only;omega⟩,h6⟩
 ·rw[if_pos c,if_pos (by rw[<-h1];exact c)];exact⟨h1,⟨h2,h3,h4,h5⟩,h6⟩
theorem ZpR{a b:zci}(h:InK a b){st lo hi:Int}(ok:(Zag a st lo hi).2=true):InK (Zag a st lo hi).1 (Zag b st lo hi).1:=by
 obtain⟨h1,⟨h2,h3,h4,h5⟩,h6⟩:=h;unfold Zag at ok ⊢;by_cases c:st=a.tick
 ·rw[if_neg (by simpa using c)]at ok ⊢;rw[if_neg (show ¬st≠b.tick by rw[<-h1];simpa using c)];by_cases d:max a.ego.slo lo>min a.ego.shi hi
  ·rw[if_pos d]at ok;cases ok
  ·rw[if_neg d,if_neg (by omega)];exact⟨h1,⟨by simp only;omega,by simp only;omega,h4,h5⟩,h6⟩
 ·rw[if_pos c,if_pos (by rw[<-h1];exact c)];exact⟨h1,⟨h2,h3,h4,h5⟩,h6⟩
theorem uC{S:StV}{a b:zci}(h:InK a b)(ha:KNd S.m a):InK (Zhv S a) (Zhv S b):=⟨h.tick,h.ego,zUG S.m h.ego S.car.len S.r h.bl ha.le⟩
theorem ZpY{m:zD}{a b:zci}(h:InK a b)(ha:KNd m a)(x:zZP):InK (Zib m a x) (Zib m b x):=⟨h.tick,h.ego,z0n h.bl ha.le⟩
theorem ZpD:∀(l:List Mrk) (k:zci) (b:Bool),(ZhZ l (k,b)).2=true->b=true
 |[],k,b,h=>h
 |x::l,k,b,h=>by
  have:=ZpD l _ (b&&(z9f k x.st x.lo x.hi).2) h;simp only[jh]at this;exact this.1
theorem Zpu{p q:List Mrk}(h:p.Sublist q):∀{a b:zci} (x y:Bool),InK a b->(ZhZ q (a,x)).2=true->InK (ZhZ q (a,x)).1 (ZhZ p (b,y)).1:=by
 induction h with
 |slnil=>exact fun _ _ h _=>h
 |@cons p q z _ ih=>exact fun x y h ok=>ih (x&&_) y ((Zlh _ z.st z.lo z.hi).trans h) ok
 |@cons_cons p q z _ ih =>
  intro a b x y h ok;have:=ZpD q _ (x&&(z9f a z.st z.lo z.hi).2) ok;simp only[jh]at this;exact ih (x&&(z9f a z.st z.lo z.hi).2) (y&&(z9f b z.st z.lo z.hi).2) (Zp6 h this.2) ok
theorem Zo9:∀(l:List Mrk) (k:zci) (b:Bool),(Zis l (k,b)).2=true->b=true
 |[],k,b,h=>h
 |x::l,k,b,h=>by
  have:=Zo9 l _ (b&&(Zag k x.st x.lo x.hi).2) h;simp only[jh]at this;exact this.1
theorem Zpk{p q:List Mrk}(h:p.Sublist q):∀{a b:zci} (x y:Bool),InK a b->(Zis q (a,x)).2=true->InK (Zis q (a,x)).1 (Zis p (b,y)).1:=by
 induction h with
 |slnil=>exact fun _ _ h _=>h
 |@cons p q z _ ih=>exact fun x y h ok=>ih (x&&_) y ((Zln _ z.st z.lo z.hi).trans h) ok
 |@cons_cons p q z _ ih =>
  intro a b x y h ok;have:=Zo9 q _ (x&&(Zag a z.st z.lo z.hi).2) ok;simp only[jh]at this;exact ih (x&&(Zag a z.st z.lo z.hi).2) (y&&(Zag b z.st z.lo z.hi).2) (ZpR h this.2) ok
theorem Zp5{S:StV}:∀(l:List zZP) (k:zci) (b:Bool),(ZiH S l (k,b)).2=true->b=true
 |[],k,b,h=>h
 |x::l,k,b,h=>by
  have:=Zp5 l _ (b&&ZiS S.m (Zhv S (Zib S.m k x)) x.pts) h;simp only[jh]at this;exact this.1
theorem Zpx{S:StV}{p q:List zZP}(h:p.Sublist q):∀{a b:zci} (x y:Bool),InK a b->KNd S.m a->InK (ZiH S q (a,x)).1 (ZiH S p (b,y)).1:=by
 induction h with
 |slnil=>exact fun _ _ h _=>h
 |@cons p q z _ ih=>exact fun x y h ha=>ih (x&&_) y (((Zke (ha.upd z)).trans (Zle ha z)).trans h) (ha.upd z).own
 |@cons_cons p q z _ ih=>exact fun x y h ha=>ih (x&&_) (y&&_) (uC (ZpY h ha z) (ha.upd z)) (ha.upd z).own
structure HLe(p q:Hrd):Prop where
 sp:p.jR.Sublist q.jR
 fx:p.ki.Sublist q.ki
 sc:p.kg.Sublist q.kg
theorem HLe.refl(p:Hrd):HLe p p:=⟨.refl _,.refl _,.refl _⟩
theorem HLe.trans{p q r:Hrd}(h:HLe p q)(g:HLe q r):HLe p r:=⟨h.sp.trans g.sp,h.fx.trans g.fx,h.sc.trans g.sc⟩
theorem ZoU(S:StV)(es:List Zou)(t:Int)(k:zci):znE S (znB t es) k=znE S (some (Ziq es t)) k:=by
 unfold Ziq;cases znB t es<;>rfl
theorem Zql{S:StV}{h:Hrd}{k:zci}(ok:(znE S (some h) k).2=true):(ZhZ h.jR (k,true)).2=true/\(Zis h.ki (ZhZ h.jR (k,true))).2=true:=by
 have h1:(Zis h.ki (ZhZ h.jR (k,true))).2=true:=Zp5 h.kg _ _ ok;exact⟨Zo9 h.ki (ZhZ h.jR (k,true)).1 (ZhZ h.jR (k,true)).2 h1,h1⟩
theorem Zo4{S:StV}{p q:Hrd}(hq:HLe p q){a b:zci}(h:InK a b)(ha:KNd S.m a)(ok:(znE S (some q) a).2=true):InK (znE S (some q) a).1 (znE S (some p) b).1:=by
 obtain⟨o1,o2⟩:=Zql ok;obtain⟨k1,_⟩:=KNd.spds q.jR true ha;obtain⟨k2,_⟩:=KNd.fixs q.ki (ZhZ q.jR (a,true)).2 k1;exact Zpx hq.sc _ _ (uC (Zpk hq.fx _ _ (Zpu hq.sp true true h o1) o2) k2) (KNd.own k2)
theorem Zqa{S:StV}{zs:List Zon}{ss:List Sgn}{es:List Zou}:∀(l:List Int) (k:zci) (b:Bool),(chN S zs ss es l (k,b)).2=true->b=true
 |[],k,b,h=>h
 |x::l,k,b,h=>by
  have:=Zqa l _ (b&&(znE S (znB (k.tick+1) es) (ZhP S zs ss k x)).2) h;simp only[jh]at this;exact this.1
theorem Zpt{S:StV}{zs:List Zon}{ss:List Sgn}(hS:z6u S zs ss){a b:zci}(h:InK a b)(ha:KNd S.m a)(hb:KNd S.m b)(x:Int):InK (ZhP S zs ss a x) (ZhP S zs ss b x):=(zVi hS.full.full S.r S.car.len h ha.chk hb.chk x S.sig).1
theorem ZpL{S:StV}{zs:List Zon}{ss:List Sgn}(hS:z6u S zs ss){es es2:List Zou}:∀(l:List Int) {a b:zci} (x y:Bool),InK a b->KB S.m a->KB S.m b->(∀t,a.tick<t->HLe (Ziq es t) (Ziq es2 t))->a.tick+l.length<=100000 ->
  (chN S zs ss es2 l (a,x)).2=true->InK (chN S zs ss es2 l (a,x)).1 (chN S zs ss es l (b,y)).1
 |[],a,b,x,y,h,_,_,_,_,_=>h
 |z::l,a,b,x,y,h,ha,hb,hle,ht,ok=>by
  simp only[jl]at ht;have et:a.tick=b.tick:=h.tick;obtain⟨a1,a2⟩:=ha.step (zs:=zs) (ss:=ss) hS (by omega) z;obtain⟨b1,b2⟩:=hb.step (zs:=zs) (ss:=ss) hS (by omega) z;have o:=Zqa l _ (x&&(znE S (znB (a.tick+1) es2) (ZhP S zs ss a z)).2) ok;simp only[jh]at o;have o2:=o.2;rw[ZoU]at o2;have hf:=Zo4 (hle (a.tick+1) (by omega)) (Zpt (zs:=zs) (ss:=ss) hS h ha.nd hb.nd z) a1.nd o2;rw[<-ZoU,<-ZoU]at hf;obtain⟨a3,a4⟩:=a1.Ax (znB (a.tick+1) es2);obtain⟨b3,_⟩:=b1.Ax (znB (a.tick+1) es);have e:b.tick+1=a.tick+1:=by omega
  have:=ZpL hS (es:=es) (es2:=es2) l (x&&(znE S (znB (a.tick+1) es2) (ZhP S zs ss a z)).2) (y&&(znE S (znB (a.tick+1) es) (ZhP S zs ss b z)).2) hf a3 b3 (fun t ht=>hle t (by omega)) (by rw[a4,a2];omega) ok;show InK _ (chN S zs ss es l ((znE S (znB (b.tick+1) es) (ZhP S zs ss b z)).1,y&&(znE S (znB (b.tick+1) es) (ZhP S zs ss b z)).2)).1;rw[e];exact this
set_option maxRecDepth 100000
open Go Go.Eng
structure Zoz(n:Nat)(c:Int)(es:List Zou):Prop where
 few:es.length<=n
 lt:∀b∈es.map (·.born),b<c
 nb:(es.map (·.born)).Nodup
 nk:(es.map (·.key)).Nodup
 Cb:∀k∈es.map (·.key),zk0 k
theorem Zoz.nil(c:Int):Zoz 0 c []:=⟨jm _,by simp,by simp,by simp,by simp⟩
theorem Zoz.mono{n m:Nat}{c:Int}{es:List Zou}(h:Zoz n c es)(hm:n<=m):Zoz m c es:=⟨jP h.few hm,h.lt,h.nb,h.nk,h.Cb⟩
theorem Zpg{t:Int}:∀{es:List Zou} {i:Nat},ZiR t es i=none->t∉es.map (·.key)
 |[],i,_=>by simp
 |e::es,i,h=>by
  unfold ZiR at h;split at h
  ·cases h
  ·rename_i hc;simp only[kC,jK,not_or];exact⟨hc,Zpg h⟩
theorem Zpf{t:Int}{y:Hrd}:∀{es:List Zou} {i j:Nat},ZiR t es i=some (j,y)->∃k,j=i+k/\(es.map (·.key))[k]?=some t
 |[],i,j,h=>by simp[ZiR]at h
 |e::es,i,j,h=>by
  unfold ZiR at h;split at h
  ·rename_i hc;cases h;exact⟨0,rfl,by simp[hc]⟩
  ·obtain⟨k,h1,h2⟩:=Zpf h;exact⟨k+1,by omega,by simpa using h2⟩
theorem ZoN{α β:Type}{f:α->α}{g:α->β}:∀(l:List α) (i:Nat),(∀a,l[i]?=some a->g (f a)=g a)->(l.modify i f).map g=l.map g
 |[],i,_=>by simp
 |a::l,0,h=>by simp[h a rfl]
 |a::l,i+1,h=>by simp[ZoN l i (fun b hb=>h b (by simpa using hb))]
theorem Zoz.put{n:Nat}{q:Int×List Zou}(h:Zoz n q.1 q.2){t:Int}(ht:zk0 t)(y:Hrd):Zoz (n+1) (ZiZ t y q).1 (ZiZ t y q).2:=by
 obtain⟨c,es⟩:=q;obtain⟨h1,h2,h3,h4,h5⟩:=h;simp only at h1 h2 h3 h4 h5;unfold ZiZ;simp only;cases hf:ZiR t es 0 with
 |none =>
  simp only;have hn:=Zpg hf;refine⟨by simp;omega,fun b hb=>?_,?_,?_,fun k hk=>?_⟩
  ·simp only[qp,kC,qj,jH,js]at hb;rcases hb with hb|rfl
   ·have:=h2 b hb;omega
   ·omega
  ·simp only[qp,kC,qj];refine List.nodup_append.2 ⟨h3,by simp,fun a ha b hb=>?_⟩;rw[js.1 hb];have:=h2 a ha;omega
  ·simp only[qp,kC,qj];refine List.nodup_append.2 ⟨h4,by simp,fun a ha b hb=>?_⟩;rw[js.1 hb];exact fun e=>hn (e ▸ ha)
  ·simp only[qp,kC,qj,jH,js]at hk;rcases hk with hk|rfl
   ·exact h5 k hk
   ·exact ht
 |some r =>
  obtain⟨j,y'⟩:=r;simp only;obtain⟨k,hj,hk⟩:=Zpf hf;obtain rfl:j=k:=by omega
  have eb:(es.modify j fun e=>(⟨e.born,t,y⟩:Zou)).map (·.born)=es.map (·.born):=ZoN _ _ (fun a _=>rfl);have ek:(es.modify j fun e=>(⟨e.born,t,y⟩:Zou)).map (·.key)=es.map (·.key):=ZoN _ _ (fun a ha=>by
   rw[kG,ha]at hk;simpa using hk.symm)
  exact⟨by simp;omega,by simp only[eb];exact h2,by simp only[eb];exact h3,by simp only[ek];exact h4,by simp only[ek];exact h5⟩
theorem Zoz.del{n:Nat}{c:Int}{es:List Zou}(h:Zoz n c es)(t:Int):Zoz n c (ZjP t es):=by
 unfold ZjP;split
 ·rename_i i _ _;have hs:=List.eraseIdx_sublist es i;have hb:=hs.map (fun e:Zou=>e.born);have hk:=hs.map (fun e:Zou=>e.key);exact⟨jP hs.length_le h.few,fun b m=>h.lt b (hb.subset m),h.nb.sublist hb,h.nk.sublist hk,fun k m=>h.Cb k (hk.subset m)⟩
 ·exact h
theorem Zoz.fgt{n:Nat}{c:Int}(t:Int):∀(ks:List Int) {es:List Zou},Zoz n c es->Zoz n c (Zh0 t ks es)
 |[],es,h=>h
 |k::ks,es,h=>by
  show Zoz n c (Zh0 t ks (if k<t then ZjP k es else es));split
  ·exact Zoz.fgt t ks (h.del k)
  ·exact Zoz.fgt t ks h
theorem ZpF{d:NdV}(hn:0<=d.now/\d.now<=100000){st:Int}(h:Zjv d st=true):zk0 st:=by
 unfold Zjv at h;simp only[jh,decide_eq_true_eq]at h;unfold zk0;omega
theorem Zoz.he1{n:Nat}{d:NdV}(hn:0<=d.now/\d.now<=100000){q:Int×List Zou}(h:Zoz n q.1 q.2)(y:Mrk):Zoz (n+1) (he1 d q y).1 (he1 d q y).2:=by
 unfold Go.TrRun.he1;split
 ·rename_i c;exact h.put (ZpF hn c) _
 ·exact h.mono (kO n)
theorem Zoz.he2{n:Nat}{d:NdV}(hn:0<=d.now/\d.now<=100000){q:Int×List Zou}(h:Zoz n q.1 q.2)(y:Mrk):Zoz (n+1) (he2 d q y).1 (he2 d q y).2:=by
 unfold Go.TrRun.he2;split
 ·rename_i c;exact h.put (ZpF hn c) _
 ·exact h.mono (kO n)
theorem Zoz.he3{n:Nat}{d:NdV}(hn:0<=d.now/\d.now<=100000){q:Int×List Zou}(h:Zoz n q.1 q.2)(y:zZP):Zoz (n+1) (he3 d q y).1 (he3 d q y).2:=by
 unfold Go.TrRun.he3;split
 ·rename_i c;exact h.put (ZpF hn c) _
 ·exact h.mono (kO n)
theorem Zoz.fold{α:Type}{F:Int×List Zou->α->Int×List Zou}(hF:∀n q y,Zoz n q.1 q.2->Zoz (n+1) (F q y).1 (F q y).2):∀(l:List α) {n:Nat} {q:Int×List Zou},Zoz n q.1 q.2->Zoz (n+l.length) (l.foldl F q).1 (l.foldl F q).2
 |[],n,q,h=>h
 |y::l,n,q,h=>(Zoz.fold hF l (hF n q y h)).mono (by simp;omega)
theorem Zoz.heS:∀(l:List zZP) {n:Nat} {d:NdV} (hn:0<=d.now/\d.now<=100000) {q:Int×List Zou},Zoz n q.1 q.2->Zoz (n+l.length) (heS l (d,q)).2.1 (heS l (d,q)).2.2
 |[],n,d,hn,q,h=>h
 |y::l,n,d,hn,q,h=>(Zoz.heS l (d:=heD d y) (by rw[Zkp];exact hn) (h.he3 hn y)).mono (by simp;omega)
theorem Zoz.hear{n:Nat}{d:NdV}(hn:0<=d.now/\d.now<=100000){q:Int×List Zou}(h:Zoz n q.1 q.2)(x:Zjo):Zoz (n+(x.jR.length+x.ki.length+x.kg.length)) (ZiQ d q x).2.1 (ZiQ d q x).2.2:=by
 have h1:=Zoz.fold (F:=Go.TrRun.he1 d) (fun n q y h=>h.he1 hn y) x.jR h;have h2:=Zoz.fold (F:=Go.TrRun.he2 d) (fun n q y h=>h.he2 hn y) x.ki h1;exact(Zoz.heS x.kg hn h2).mono (by omega)
def ksE(es:List Zou):List Int:=zfI (es.map (·.key))
theorem Zpe:∀es:List Zou,Zo0 (es.map Zly)=some (es.map fun e=>(e.born,e.key))
 |[]=>rfl
 |e::es=>by simp[Zo0,Zly,Zpe es]
theorem Zpz{n:Nat}{c:Int}{es:List Zou}(h:Zoz n c es)(hn:n<=1000):ZjC c es (ksE es):=fun u=>by
 have e1:(es.map fun e=>(e.born,e.key)).map (·.1)=es.map (·.born):=by simp
 have e2:(es.map fun e=>(e.born,e.key)).map (·.2)=es.map (·.key):=by simp
 have u6:((es.map fun e=>(e.born,e.key)).all fun p=>decide (p.1<c/\-9223372036854775808<=p.2/\p.2<9223372036854775808))=true:=by
  rw[jy];intro p hp;obtain⟨e,he,rfl⟩:=jX.1 hp;have:=h.Cb e.key (qJ he);exact decide_eq_true ⟨h.lt e.born (qJ he),by unfold zk0 at this;omega⟩
 have hl:(es.map fun e=>(e.born,e.key)).length<=1000000:=by have:=h.few;simp;omega
 have hm:=Zia (M:=[bx 1 [.map 1 true],mpB c es u]) (id:=1) rfl;rw[zrP (by kernel_rfl)];have hcs:Cs.lookup Zit=some (0,64*Zhd+1,false):=by kernel_rfl
 unfold uw;rw[hcs];have hk:ZpA Zhd (.fn Zhd [] [.ptr 0 0 0 0]) [bx 1 [.map 1 true],mpB c es u]=some (.w (.c (.jb (zu (ksE es)))),[bx 1 [.map 1 true],mpB c es u]):=by
  unfold ZpA;simp only[show Eng.look [bx 1 [.map 1 true],mpB c es u] 0 0=some { box:=true,esz:=1,rows:=[[.map 1 true]],gen:=0,fz:=false,ver:=0 } from rfl,hm,Zpe];rw[e1,e2,if_pos ⟨trivial,trivial,hl,u6,h.nb,h.nk⟩];rfl
 exact hk
theorem ZpB(x:Int):∀l:List Int,(zwP x l).length=l.length+1
 |[]=>rfl
 |y::l=>by
  unfold zwP;split
  ·rfl
  ·simp[ZpB x l]
theorem Zo1:∀l:List Int,(zfI l).length=l.length
 |[]=>rfl
 |x::l=>by simp[zfI,ZpB,Zo1 l]
theorem Zqi{n:Nat}{c:Int}{es:List Zou}(h:Zoz n c es):(ksE es).length<=n:=by
 unfold ksE;rw[Zo1,ko];exact h.few
set_option maxRecDepth 10000
open Go Go.Eng
def Zpr(S:StV)(zs:List Zon)(ss:List Sgn)(d2:NdV)(g1:RgV):NdV:=ZjL (ZiF S (ZoO S zs ss d2 g1))
def Zp7(S:StV)(zs:List Zon)(ss:List Sgn)(d2:NdV)(g1:RgV):RgV:=ZhJ (ZoH (ZoJ S zs ss d2 g1)) (Pl.uD d2.kU 0)
abbrev Zqz(S:StV)(d:NdV)(g':RgV)(v w':Nat)(g:RgV)(c:Int)(es:List Zou)(w u:Nat):Mem:=[bxv v 46 (ndX S d 3 4),bxv w 12 (rgC 1 g),mpB c es u,bxv w' 12 (rgC 3 g'),mpB 0 [] 0]
theorem Zqo{S:StV}{zs:List Zon}{ss:List Sgn}(hS:z6u S zs ss){d:NdV}{g:RgV}{es:List Zou}{n:Nat}(h:Zk7 S d g es n)(hn:n+300<=1000)(c:Int)(v w u:Nat)(ks:List Int)(hK:ZjC c es ks)(hks:ks.length<=1000){x:Zjo}(hx:Zlc x)(hx8:x.kg.length<=8/\x.jR.length<=8/\x.ki.length<=8)(ht:x.tick=d.now)
  {d2:NdV} {c2:Int} {es2:List Zou} (e2:hrN S zs ss d g c es ks x=(d2,(c2,es2))) (eK:(Zkz S zs ss (Zhl S zs ss es g) es2).2=false) :
  ∃v' w1 u1,(v<v'/\(w<=w1/\(w1=w->Zhl S zs ss es g=g))/\(u<=u1/\(u1=u->c2=c/\es2=es))) /\
   R L Cs Zh5 [Pt 0,.a (inC x)] (ndM S d g c es v w u)=some (.t [W (Zlu S (Zpr S zs ss d2 (Zhl S zs ss es g))),W 0],Zqz S (Zpr S zs ss d2 (Zhl S zs ss es g)) (Zp7 S zs ss d2 (Zhl S zs ss es g)) v' 2 (Zhl S zs ss es g) c2 es2 w1 u1):=by
 have hh:=h;obtain⟨hg,ha,hk,BJ,Df,BA,yA,hplan⟩:=h;have hk0:=hk.nd.t;obtain⟨g1,g2,g3,g4,g5⟩:=ZkX (zs:=zs) (ss:=ss) hS hh;have h0:=ZkQ S d g c es v w u;obtain⟨w1,u1,m1,m2,h1⟩:=Zkk hS d hg ha hk BJ (by omega) c es (BA.ok (by omega)) v w u ks hK hks;have Bx:=BA.fgt (Zhl S zs ss es g).jO.tick ks;obtain⟨v2,u2,⟨m3,m4⟩,Aa,h2⟩:=ZkR (S:=S) d (Zhl S zs ss es g) (c,Zh0 (Zhl S zs ss es g).jO.tick ks es) v w1 u1 n (by omega) x hx Bx hn;rw[show ZiQ d (c,Zh0 (Zhl S zs ss es g).jO.tick ks es) x=(d2,(c2,es2)) from e2]at h2 Aa m3 m4;simp only at h2 Aa m3 m4;have hd:=Zla x.kg d (x.ki.foldl (he2 d) (x.jR.foldl (he1 d) (c,Zh0 (Zhl S zs ss es g).jO.tick ks es)));have hl2:=Zj2 x.kg d (x.ki.foldl (he2 d) (x.jR.foldl (he1 d) (c,Zh0 (Zhl S zs ss es g).jO.tick ks es))) yA (by omega);rw[show heS x.kg (d,x.ki.foldl (he2 d) (x.jR.foldl (he1 d) (c,Zh0 (Zhl S zs ss es g).jO.tick ks es)))=(d2,(c2,es2)) from e2]at hd hl2;simp only at hd hl2;obtain⟨y7,yp,-⟩:=hd;have h3:=Zkj hS d2 g1 g3 g4 (by omega) c2 es2 (Aa.ok (by omega)) v2 w1 u2;rw[eK]at h3;simp only[jG,if_false]at h3;have s1:=ZjB S d2 _ (Zhl S zs ss es g) c2 es2 v2 (v2+1) w1 u2 _ _ x (by omega) h3;have h4:=ZpJ (zs:=zs) (ss:=ss) hS { d2 with k9:=(Zkz S zs ss (Zhl S zs ss es g) es2).1 } g1 g3 g4 (by omega) (by simp only[y7];omega) c2 es2 (v2+1) w1 u2;have s2:=Zqd x h4;have eL:ZoO S zs ss { d2 with k9:=(Zkz S zs ss (Zhl S zs ss es g) es2).1 } (Zhl S zs ss es g)=ZoO S zs ss d2 (Zhl S zs ss es g):=rfl;have eK2:ZoJ S zs ss { d2 with k9:=(Zkz S zs ss (Zhl S zs ss es g) es2).1 } (Zhl S zs ss es g)=ZoJ S zs ss d2 (Zhl S zs ss es g):=rfl;rw[eL,eK2]at s2;have hLnow:(ZoO S zs ss d2 (Zhl S zs ss es g)).now=d.now:=y7;have DJ:(ZoO S zs ss d2 (Zhl S zs ss es g)).last=d2.last:=rfl;have hLplan:(ZoO S zs ss d2 (Zhl S zs ss es g)).kU=d.kU:=yp;obtain⟨v5,m5,h5⟩:=ZjV S (ZoO S zs ss d2 (Zhl S zs ss es g)) (ZoH (ZoJ S zs ss d2 (Zhl S zs ss es g))) 0 [] (v2+1+5) 0 0 (by rw[hLnow];omega) (by rw[DJ];exact hl2);have hmode:¬(ZiF S (ZoO S zs ss d2 (Zhl S zs ss es g))).mode=1:=by
  unfold ZiF ZoO;split<;>simp
 rw[if_neg hmode]at h5;have s3:=Zqc (g:=Zhl S zs ss es g) (c:=c2) (es:=es2) (w:=w1) (u:=u2) x (by omega) h5;have hWnow:(ZiF S (ZoO S zs ss d2 (Zhl S zs ss es g))).now=d.now:=y7;have CT:(ZiF S (ZoO S zs ss d2 (Zhl S zs ss es g))).kU=d.kU:=yp;have h6:=Zkl S (ZiF S (ZoO S zs ss d2 (Zhl S zs ss es g))) (g:=ZoH (ZoJ S zs ss d2 (Zhl S zs ss es g))) ⟨show 0<=5 by decide,fun _=>rfl⟩ (show 0<=4 by decide) 0 [] v5 0 0 (by rw[hWnow];omega) (by rw[CT];omega);have s4:=Zqe (g:=Zhl S zs ss es g) (c:=c2) (es:=es2) (w:=w1) (u:=u2) x (by omega) (by omega) rfl h6;have hlp:=s1.trans (s2.trans (s3.trans s4));rw[show ZhJ (ZoH (ZoJ S zs ss d2 (Zhl S zs ss es g))) (Pl.uD (ZiF S (ZoO S zs ss d2 (Zhl S zs ss es g))).kU 0)=Zp7 S zs ss d2 (Zhl S zs ss es g) from rfl,show ZjL (ZiF S (ZoO S zs ss d2 (Zhl S zs ss es g)))=Zpr S zs ss d2 (Zhl S zs ss es g) from rfl]at hlp;have hA:=Pl.C6 (Zpr S zs ss d2 (Zhl S zs ss es g)).told (show(ZiF S (ZoO S zs ss d2 (Zhl S zs ss es g))).kU.length<=1000 by rw[CT];omega) S.car.um;have hi9:(Zp7 S zs ss d2 (Zhl S zs ss es g)).ini=false:=rfl;refine⟨v5+4,w1,u2,⟨by omega,m1,by omega,fun e=>?_⟩,?_⟩
 ·have e1:=m3.2 (by omega);have e2':=m2.2 (by omega);rw[e2']at e1;exact⟨congrArg Prod.fst e1,congrArg Prod.snd e1⟩
 have c1:¬8<max (x.kg.length:Int) (max x.jR.length x.ki.length):=by omega
 have c2':¬(1099511626776:Int)<=d.now:=by omega
 obtain⟨fp1,hc1⟩:=Zko (f:=Zhz) (xs:=[]) (X:=inC x) (.inl rfl) ⟨x,rfl⟩ (fun _=>rfl) m1.2 (fun q=>⟨rfl,m2.2 q⟩) (by simpa using h1);obtain⟨fp2,hc2⟩:=Zko (f:=Zh4) (xs:=inC x) (X:=inC x) (.inr ⟨x,rfl⟩) ⟨x,rfl⟩ m4.2 (fun _=>rfl) (fun q=>by
  have:=m3.2 q;exact⟨congrArg Prod.fst this,congrArg Prod.snd this⟩) (by simpa using h2)
 have hc0:zx (R L Cs) ⟨true⟩ (.c (.fn Zh3 [] [])) [Pt 0] (ndM S d g c es v w u++[bx 4 (inC x)])=some (.w (Bo false),ndM S d g c es v w u++[bx 4 (inC x)],.no):=by
  obtain⟨s0,s1,s2,s3,s4,na,ini,p⟩:=g;cases ini<;>simp[ndM,ndC,rgC,mpB,bxv]at h0<;>simp[h0,Zly]
 have hcA:∀M,zx (R L Cs) ⟨true⟩ (.c (.fn zGR [] [])) [.a [.jb (zu (Zpr S zs ss d2 (Zhl S zs ss es g)).told)],W S.car.um] M=some (.w (W (Pl.uD (Zpr S zs ss d2 (Zhl S zs ss es g)).told S.car.um)),M,.no):=fun M=>by
  simp[hA]
 unfold Zlu;generalize Pl.uD (Zpr S zs ss d2 (Zhl S zs ss es g)).told S.car.um=cc at *;generalize Zp7 S zs ss d2 (Zhl S zs ss es g)=g9 at *;generalize Zpr S zs ss d2 (Zhl S zs ss es g)=d6 at *;generalize Zh0 (Zhl S zs ss es g).jO.tick ks es=es1 at *;generalize Zhl S zs ss es g=g' at *;clear hg ha hk BJ BA Bx Aa g1 g2 g3 g4 g5 h0 h1 h2 h3 h4 h5 h6 hK hh e2 hA m1 m2 m3 m4 m5 hl2 s1 s2 s3 s4 eL eK2 hLnow DJ hLplan hmode hWnow CT eK;obtain⟨xt,xsc,xsp,xfx⟩:=x;simp only at ht c1;subst ht;obtain⟨r0,r1,r2,r3,r4,ma,jni,p'⟩:=g9;simp only at hi9;subst hi9;obtain⟨s0,s1,s2,s3,s4,na,ini,p⟩:=g';simp only[inC,List.cons_ne_nil,reduceCtorEq,if_false,if_true,ndM,ji,je]at hc0 hc1 hc2 hlp;rw[zUa Zji rfl];cases ini<;>simp[-zx,ZhG,hc0,hc1,hc2,hlp,hcA,c1,c2',Zly,zr,tlM,rg3]
open Go Go.Eng Go.PlanLaw
theorem Zo7{n t:Int}(h:t≠n):∀(es:List Zou) (k j:Nat) (y:Hrd),ZiR n es k=some (j,y)->k<=j/\znB t (es.eraseIdx (j-k))=znB t es
 |[],k,j,y,e=>by simp[ZiR]at e
 |x::es,k,j,y,e=>by
  unfold ZiR at e;split at e
  ·rename_i c;cases e;rw[yK];refine⟨jm _,?_⟩;show znB t es=if t=x.key then _ else _
   rw[if_neg (by rw[<-c];exact h)]
  ·obtain⟨h1,h2⟩:=Zo7 h es (k+1) j y e;refine⟨by omega,?_⟩;obtain⟨m,hm⟩:∃m,j-k=m+1:=⟨j-k-1,by omega⟩;have e2:j-(k+1)=m:=by omega
   rw[e2]at h2;rw[hm,List.eraseIdx_cons_succ];unfold znB;rw[h2]
theorem ZpT{n t:Int}(h:t≠n)(es:List Zou):znB t (ZjP n es)=znB t es:=by
 unfold ZjP;cases hf:ZiR n es 0 with
 |none=>rfl
 |some r =>
  obtain⟨j,y⟩:=r;exact(Zo7 h es 0 j y hf).2
theorem Zpl{T t:Int}(h:T<=t):∀(ks:List Int) (es:List Zou),znB t (Zh0 T ks es)=znB t es
 |[],es=>rfl
 |k::ks,es=>by
  show znB t (Zh0 T ks (if k<T then ZjP k es else es))=_;rw[Zpl h ks];split
  ·exact ZpT (by omega) es
  ·rfl
theorem Zqv(d:NdV)(q:Int×List Zou)(y:Mrk)(t:Int):HLe (Ziq q.2 t) (Ziq (he1 d q y).2 t):=by
 unfold he1;split
 ·rw[Zo3];split
  ·rename_i e;subst e;exact⟨vK ..,.refl _,.refl _⟩
  ·exact .refl _
 ·exact .refl _
theorem Zqu(d:NdV)(q:Int×List Zou)(y:Mrk)(t:Int):HLe (Ziq q.2 t) (Ziq (he2 d q y).2 t):=by
 unfold he2;split
 ·rw[Zo3];split
  ·rename_i e;subst e;exact⟨.refl _,vK ..,.refl _⟩
  ·exact .refl _
 ·exact .refl _
theorem Zqt(d:NdV)(q:Int×List Zou)(y:zZP)(t:Int):HLe (Ziq q.2 t) (Ziq (he3 d q y).2 t):=by
 unfold he3;split
 ·rw[Zo3];split
  ·rename_i e;subst e;exact⟨.refl _,.refl _,vK ..⟩
  ·exact .refl _
 ·exact .refl _
theorem Zps{α:Type}{F:Int×List Zou->α->Int×List Zou}(t:Int)(hF:∀q y,HLe (Ziq q.2 t) (Ziq (F q y).2 t)):∀(l:List α) (q:Int×List Zou),HLe (Ziq q.2 t) (Ziq (l.foldl F q).2 t)
 |[],q=>.refl _
 |y::l,q=>(hF q y).trans (Zps t hF l (F q y))
theorem Zp8(t:Int):∀(l:List zZP) (d:NdV) (q:Int×List Zou),HLe (Ziq q.2 t) (Ziq (heS l (d,q)).2.2 t)
 |[],d,q=>.refl _
 |y::l,d,q=>(Zqt d q y t).trans (Zp8 t l (heD d y) (he3 d q y))
theorem Zqk(d:NdV)(q:Int×List Zou)(x:Zjo)(t:Int):HLe (Ziq q.2 t) (Ziq (ZiQ d q x).2.2 t) :=
 ((Zps t (fun q y=>Zqv d q y t) x.jR q).trans (Zps t (fun q y=>Zqu d q y t) x.ki _)).trans (Zp8 t x.kg d _)
theorem EsN.fold{α:Type}{F:Int×List Zou->α->Int×List Zou}{P:α->Prop}(hF:∀n q y,P y->EsN n q.2->EsN (n+1) (F q y).2):∀(l:List α) {n:Nat} {q:Int×List Zou},(∀y∈l,P y)->EsN n q.2->EsN (n+l.length) (l.foldl F q).2
 |[],n,q,_,h=>h
 |y::l,n,q,hp,h=>(EsN.fold hF l (fun z hz=>hp z (jA _ hz)) (hF n q y (hp y (jq ..)) h)).mono (by simp;omega)
theorem EsN.heS:∀(l:List zZP) {n:Nat} {d:NdV} {q:Int×List Zou},(∀y∈l,y.seen.length<=5000/\y.pts.length<=1000)->EsN n q.2->EsN (n+l.length) (heS l (d,q)).2.2
 |[],n,d,q,_,h=>h
 |y::l,n,d,q,hp,h=>(EsN.heS l (d:=heD d y) (fun z hz=>hp z (jA _ hz)) (EsN.he3 (d:=d) h (hp y (jq ..)))).mono (by simp;omega)
theorem EsN.hear{n:Nat}{d:NdV}{q:Int×List Zou}(h:EsN n q.2){x:Zjo}(hx:Zlc x):EsN (n+(x.jR.length+x.ki.length+x.kg.length)) (ZiQ d q x).2.2:=by
 have h1:=EsN.fold (F:=Go.TrRun.he1 d) (P:=fun _=>True) (fun n q y _ h=>h.he1 y) x.jR (fun _ _=>trivial) h;have h2:=EsN.fold (F:=Go.TrRun.he2 d) (P:=fun _=>True) (fun n q y _ h=>h.he2 y) x.ki (fun _ _=>trivial) h1;exact(EsN.heS x.kg hx.sc h2).mono (by omega)
def Zju(h:Hrd):List Zou:=[⟨0,0,h⟩]
def Zlb(h:Hrd):Prop:=h.jR=[]/\h.ki=[]/\∀s∈h.kg,s.pts=[]
theorem ZjS{S:StV}:∀(l:List zZP) (k:zci),(∀s∈l,s.pts=[])->(ZiH S l (k,true)).2=true
 |[],k,_=>rfl
 |x::l,k,h=>by
  have e:ZiH S (x::l) (k,true)=ZiH S l (Zhv S (Zib S.m k x),true):=by
   show ZiH S l (Zhv S (Zib S.m k x),true&&ZiS S.m (Zhv S (Zib S.m k x)) x.pts)=_;rw[h x (jq ..)];rfl
  rw[e];exact ZjS l _ fun s hs=>h s (jA _ hs)
theorem Zkg{S:StV}{h:Hrd}(q:Zlb h)(k:zci):(znE S (some h) k).2=true:=by
 obtain⟨h1,h2,h3⟩:=q;unfold znE;simp only[h1,h2];exact ZjS h.kg (Zhv S k) h3
set_option maxRecDepth 100000
open Go Go.Eng Go.PlanLaw
theorem ZkF(c:Int):ZjC c [] []:=Zpz (Zoz.nil c) (by decide)
set_option maxRecDepth 10000
open Go Go.Eng Go.PlanLaw
theorem ZkU{S:StV}{zs:List Zon}{ss:List Sgn}{k:zci}{p:List Int}(h:Zjt S zs ss k p=true):qE S.car p=0:=by
 unfold Zjt at h;exact((zUm ..).1 h).2.1
structure ZoP(p:List Int):Prop where
 Cb:∀a∈p,zk0 a
 len:p.length<=125
theorem ZoP.tail{p:List Int}(h:ZoP p):ZoP (Pl.vD p):=by
 unfold Pl.vD;split
 ·exact⟨fun a ha=>h.Cb a (qm ha),by simp;have:=h.len;omega⟩
 grind
theorem ZoP.act{p:List Int}(h:ZoP p)(i:Int):zk0 (Pl.uD p i):=by
 unfold Pl.uD;split
 ·unfold zk0;omega
 ·cases hq:p[(max 0 (min i (p.length-1))).toNat]? with
  |none=>unfold zk0;simp
  |some x=>exact h.Cb x (kJ hq)
structure Drv0(S:StV)(d:NdV)(g:RgV)(c:Int)(es:List Zou)(n:Nat):Prop where
 nd:Zk7 S d g es n
 ent:Zoz n c es
 kb:KB S.m d.k9
 kU:ZoP d.kU
 told:ZoP d.told
variable{S:StV}{zs:List Zon}{ss:List Sgn}
structure PlN(S:StV)(d d':NdV):Prop where
 lat:d'.qN=Pl.uD d'.told 0
 pln:d'.kU=Pl.vD d'.told
 told:d'.told=d.kU\/∃v up hold,(0<=v/\v<=2000)/\up<=20/\hold<=20/\d'.told=zJ2 S.car (Zh2 d S.car.um.toNat) d.qN v up hold
theorem Zra(d:NdV)(K:zci):(goN S zs ss d K).kU=d.kU\/∃v up hold,(0<=v/\v<=2000)/\up<=20/\hold<=20/\(goN S zs ss d K).kU=zJ2 S.car (Zh2 d S.car.um.toNat) d.qN v up hold:=by
 unfold goN;by_cases hm:(ZiF S { d with k9:=K }).mode=1
 ·rw[if_pos hm];by_cases h:0<=(Zkd S zs ss (ZiF S { d with k9:=K })).1
  ·right;unfold ZiG;simp only[if_pos h];unfold Zkd zOU at h ⊢;obtain⟨j,h1,h2,h3⟩:=Zkn _ _ _ 0 h;unfold zMT;rw[h2,if_neg (by omega),show(((0+j:Nat):Int)).toNat=j by omega];have yy:=jf h1;simp only[jv,jr h1,uj];refine⟨max 0 (min K.ego.vhi 2000),?_⟩;simp only[Pl.yu,jK,qe,or_false]at yy;rcases yy with h|h|h|h|h|h|h|h<;>exact⟨_,_,by omega,by decide,by decide,h⟩
  ·left;unfold ZiG;simp only[if_neg h];rfl
 ·rw[if_neg hm];exact .inl rfl
theorem Zq8(d d2:NdV)(K:zci)(hp:d2.kU=d.kU)(hl:d2.qN=d.qN):PlN S d (ZjL (goN S zs ss d2 K)):=by
 refine⟨rfl,rfl,?_⟩;have h:=Zra (S:=S) (zs:=zs) (ss:=ss) d2 K;unfold Zh2 at h ⊢;rw[hp,hl]at h;exact h
theorem Zqh(hS:z6u S zs ss){d:NdV}{g:RgV}(hg:ZjQ g)(hk:KB S.m g.jO)(hn:d.now=g.jO.tick+g.na)(ht:d.now<=100000):KB S.m (ZoJ S zs ss d g)/\(ZoJ S zs ss d g).tick=d.now:=by
 have hacts:g.jL.length=g.na:=by simp[RgV.jL];have:=hg.few;omega
 obtain⟨k1,k2⟩:=Zpn (zs:=zs) (ss:=ss) hS g.jL g.jO hk (by omega);have h0:=hk.nd.t;have hkn:KNd S.m ⟨d.now,zTA 0 S.m.jd,(ZoW S zs ss g.jL g.jO).ego⟩:=⟨⟨fun b hb=>(zTQ hS.full.full.qD S.m.jd 0 rfl b hb).1,zTX hS.full.full.qD S.m.jd 0 rfl,k1.nd.j.ego⟩,by grind⟩;have hf:=k1.far;refine⟨⟨KNd.own hkn,?_,?_⟩,rfl⟩
 ·show(ZoW S zs ss g.jL g.jO).ego.shi<=1000000000+2000*d.now
  grind
 ·show d.now<=100000
  grind
theorem Zrd(hS:z6u S zs ss){d:NdV}{K:zci}(hp:ZoP d.kU) :
  (goN S zs ss d K).now=d.now/\(goN S zs ss d K).k9=K/\(goN S zs ss d K).last=d.last/\ZoP (goN S zs ss d K).kU:=by
 unfold goN;by_cases hm:(ZiF S { d with k9:=K }).mode=1
 ·rw[if_pos hm];by_cases hf:0<=(Zkd S zs ss (ZiF S { d with k9:=K })).1
  ·obtain⟨v1,v2⟩:=ZkW hS.car (ZiF S { d with k9:=K }) hf;exact⟨rfl,rfl,rfl,(zNC (ZkU v1)).1,v2⟩
  ·have e:(ZiG S zs ss (ZiF S { d with k9:=K })).kU=d.kU:=by
    unfold ZiG;simp only[if_neg hf];rfl
   exact⟨rfl,rfl,rfl,by rw[e];exact hp⟩
 ·rw[if_neg hm];exact⟨rfl,rfl,rfl,hp⟩
def ZqB(S:StV)(d:NdV)(g:RgV)(c:Int)(es:List Zou)(v w u:Nat)(x:Zjo)(r:Int)(d':NdV)(g':RgV)(c':Int)(es':List Zou):Prop :=
 (∃v' w' u',(v<v'/\w<w'/\(u<=u'/\(u'=u->c'=c/\es'=es)))/\R L Cs Zh5 [Pt 0,.a (inC x)] (ndM S d g c es v w u)=some (.t [W r,W 0],ndM S d' g' c' es' v' w' u')) \/
 (c'=0/\es'=[]/\g'.ini=false/\∃g1 c1 es1 v' w1 u1,(v<v'/\(w<=w1/\(w1=w->g1=g))/\(u<=u1/\(u1=u->c1=c/\es1=es)))/\R L Cs Zh5 [Pt 0,.a (inC x)] (ndM S d g c es v w u)=some (.t [W r,W 0],Zqz S d' g' v' 2 g1 c1 es1 w1 u1))
def TkD(S:StV)(zs:List Zon)(ss:List Sgn)(d:NdV)(g:RgV)(c:Int)(es:List Zou)(x:Zjo)(d':NdV)(g':RgV)(c':Int)(es':List Zou):Prop :=
 (∃d2 K,hrN S zs ss d g c es (ksE es) x=(d2,c',es')/\Zkz S zs ss (Zhl S zs ss es g) es'=(K,true)/\K.tick=d.now/\KB S.m K/\d2.now=d.now/\d2.kU=d.kU/\d2.mode=d.mode/\d'=ZjL (goN S zs ss d2 K)/\g'=ZhJ (Zhl S zs ss es g) (Pl.uD (goN S zs ss d2 K).kU 0)) \/
 (∃d2 c2 es2,hrN S zs ss d g c es (ksE es) x=(d2,c2,es2)/\(Zkz S zs ss (Zhl S zs ss es g) es2).2=false/\KB S.m (ZoJ S zs ss d2 (Zhl S zs ss es g))/\(ZoJ S zs ss d2 (Zhl S zs ss es g)).tick=d.now/\d2.now=d.now/\d'=Zpr S zs ss d2 (Zhl S zs ss es g)/\g'=Zp7 S zs ss d2 (Zhl S zs ss es g)/\c'=0/\es'=[])
theorem Drv0.tick(hS:z6u S zs ss){d:NdV}{g:RgV}{c:Int}{es:List Zou}{n:Nat}(H:Drv0 S d g c es n)(hn:n+300<=1000)(hd:d.now<=1000){x:Zjo}(hx:Zlc x)(hx8:x.kg.length<=8/\x.jR.length<=8/\x.ki.length<=8)(ht:x.tick=d.now)(v w u:Nat) :
  ∃d' g' c' es',Drv0 S d' g' c' es' (n+24)/\d'.now=d.now+1/\PlN S d d'/\TkD S zs ss d g c es x d' g' c' es'/\ZqB S d g c es v w u x (Zlu S d') d' g' c' es':=by
 have hK:=Zpz H.ent (by omega);have hks:(ksE es).length<=1000:=jP (Zqi H.ent) (by omega);obtain⟨r1,r2,r3,r4,r5⟩:=ZkX (zs:=zs) (ss:=ss) hS H.nd;have hk0:=r4.nd.t;have hal:(Zhl S zs ss es g).jL.length=(Zhl S zs ss es g).na:=by grind [RgV.jL]
 have hd0:0<=d.now:=by omega
 have Bz:=(H.ent.fgt (Zhl S zs ss es g).jO.tick (ksE es)).hear (d:=d) ⟨hd0,by omega⟩ (q:=(c,Zh0 (Zhl S zs ss es g).jO.tick (ksE es) es)) x;have C1:=EsN.hear (d:=d) (q:=(c,Zh0 (Zhl S zs ss es g).jO.tick (ksE es) es)) (H.nd.ents.fgt (Zhl S zs ss es g).jO.tick (ksE es)) hx;have hdd:=Zla x.kg d (x.ki.foldl (he2 d) (x.jR.foldl (he1 d) (c,Zh0 (Zhl S zs ss es g).jO.tick (ksE es) es)));have hll:=Zj2 x.kg d (x.ki.foldl (he2 d) (x.jR.foldl (he1 d) (c,Zh0 (Zhl S zs ss es g).jO.tick (ksE es) es))) H.nd.last (by omega);change _ at Bz;have eh:ZiQ d (c,Zh0 (Zhl S zs ss es g).jO.tick (ksE es) es) x=hrN S zs ss d g c es (ksE es) x:=rfl;have eh':heS x.kg (d,x.ki.foldl (he2 d) (x.jR.foldl (he1 d) (c,Zh0 (Zhl S zs ss es g).jO.tick (ksE es) es)))=hrN S zs ss d g c es (ksE es) x:=rfl;rw[eh]at Bz C1;rw[eh']at hdd hll;obtain⟨⟨d2,c2,es2⟩,e2⟩:∃y,hrN S zs ss d g c es (ksE es) x=y:=⟨_,rfl⟩;rw[e2]at Bz C1 hdd hll;simp only at Bz C1 hdd hll;obtain⟨y7,yp,d_first,CU,DL,d_told,d_know⟩:=hdd;have hent:Zoz (n+24) c2 es2:=Bz.mono (by omega);have hesn:EsN (n+24) es2:=C1.mono (by omega);have Bu:ZoP d2.kU:=by rw[yp];exact H.kU
 by_cases hok:(Zkz S zs ss (Zhl S zs ss es g) es2).2=true
 ·obtain⟨K,eK⟩:∃K,Zkz S zs ss (Zhl S zs ss es g) es2=(K,true):=⟨_,Prod.ext rfl hok⟩;obtain⟨v',w',u',hvw,_,hR⟩:=Zlp hS H.nd hn c v w u (ksE es) hK hks hx hx8 ht e2 eK;obtain⟨k1,k2⟩:=r4.Ax (S:=S) (znB (Zhl S zs ss es g).jO.tick es2);have Ap:=ZkP (zs:=zs) (ss:=ss) hS es2 (Zhl S zs ss es g).jL (znE S (znB (Zhl S zs ss es g).jO.tick es2) (Zhl S zs ss es g).jO).1 (znE S (znB (Zhl S zs ss es g).jO.tick es2) (Zhl S zs ss es g).jO).2 k1 (by grind);have Ap:KB S.m (Zkz S zs ss (Zhl S zs ss es g) es2).1/\(Zkz S zs ss (Zhl S zs ss es g) es2).1.tick=(znE S (znB (Zhl S zs ss es g).jO.tick es2) (Zhl S zs ss es g).jO).1.tick+(Zhl S zs ss es g).jL.length:=Ap;rw[eK]at Ap;simp only at Ap;have hKt:K.tick=d.now:=by grind
  obtain⟨q1,q2,q3,q4⟩:=Zrd (zs:=zs) (ss:=ss) (K:=K) hS Bu;obtain⟨a1,a2,a3,a4,a5⟩:=ZjF (g:=Zhl S zs ss es g) (by omega) (Pl.uD (goN S zs ss d2 K).kU 0);refine⟨ZjL (goN S zs ss d2 K),ZhJ (Zhl S zs ss es g) (Pl.uD (goN S zs ss d2 K).kU 0),c2,es2,⟨⟨a4,fun a ha=>?_,by grind,?_,?_,hesn,?_,?_⟩,hent,?_,q4.tail,q4⟩,?_,Zq8 d d2 K yp DL,.inl ⟨d2,K,e2,eK,hKt,Ap.1,y7,yp,CU,rfl,rfl⟩,.inl ⟨v',w',u',hvw,hR⟩⟩
  ·rw[a1]at ha;rcases jH.1 ha with ha|ha
   ·grind
   ·rw[js.1 ha];exact q4.act 0
  ·show(goN S zs ss d2 K).now+1=_
   grind
  ·show(goN S zs ss d2 K).now+1<=_
   grind
  ·show 0<=(goN S zs ss d2 K).last/\(goN S zs ss d2 K).last<=_
   grind
  ·exact jP q4.tail.len (by simp)
  ·show KB S.m (goN S zs ss d2 K).k9
   grind
  ·show(goN S zs ss d2 K).now+1=_
   grind
 ·obtain⟨v',w1,u1,hvw,hR⟩:=Zqo (zs:=zs) (ss:=ss) hS H.nd hn c v w u (ksE es) hK hks hx hx8 ht e2 (by grind);obtain⟨l1,l2⟩:=Zqh (zs:=zs) (ss:=ss) hS (d:=d2) r1 r4 (by grind) (by grind);have e0:(ZoH (ZoJ S zs ss d2 (Zhl S zs ss es g))).jL=[]:=rfl;obtain⟨a1,a2,a3,a4,a5⟩:=ZjF (g:=ZoH (ZoJ S zs ss d2 (Zhl S zs ss es g))) (show 0<=4 by simp) (Pl.uD d2.kU 0);rw[e0]at a1;refine⟨Zpr S zs ss d2 (Zhl S zs ss es g),Zp7 S zs ss d2 (Zhl S zs ss es g),0,[],⟨⟨a4,fun a ha=>?_,?_,?_,?_,.nil _,hll,?_⟩,(Zoz.nil 0).mono (by omega),l1,Bu.tail,Bu⟩,?_,⟨rfl,rfl,.inl yp⟩,.inr ⟨d2,c2,es2,e2,by grind,l1,l2.trans y7,y7,rfl,rfl,rfl,rfl⟩,.inr ⟨rfl,rfl,a5,_,_,_,v',w1,u1,hvw,hR⟩⟩
  ·have ha:a∈(ZhJ (ZoH (ZoJ S zs ss d2 (Zhl S zs ss es g))) (Pl.uD d2.kU 0)).jL:=ha;rw[a1]at ha;rw[js.1 ha];exact Bu.act 0
  ·show KB S.m (ZhJ (ZoH (ZoJ S zs ss d2 (Zhl S zs ss es g))) (Pl.uD d2.kU 0)).jO;rw[a3];exact l1
  ·show d2.now+1=(ZhJ (ZoH (ZoJ S zs ss d2 (Zhl S zs ss es g))) (Pl.uD d2.kU 0)).jO.tick+(ZhJ (ZoH (ZoJ S zs ss d2 (Zhl S zs ss es g))) (Pl.uD d2.kU 0)).na;rw[a3,a2];show d2.now+1=(ZoJ S zs ss d2 (Zhl S zs ss es g)).tick+((0+1:Nat):Int)
   grind
  ·show d2.now+1<=_
   grind
  ·exact jP Bu.tail.len (by simp)
  ·show d2.now+1=_
   grind
end Go.TrRun
namespace Go.TrRun
open Go Go.Eng Go.PlanLaw
structure Drv(S:StV)(zs:List Zon)(ss:List Sgn)(d:NdV)(g:RgV)(c:Int)(es:List Zou)(n:Nat):Prop extends Drv0 S d g c es n where
 st:(g.na=0/\g.jO=d.k9/\d.told=d.kU)\/(d.qN=Pl.uD d.told 0/\d.kU=Pl.vD d.told/\d.k9.tick+1=d.now/\∃A,g.jL=A++[d.qN]/\InK (chN S zs ss es A (znE S (znB g.jO.tick es) g.jO)).1 d.k9)
 ver:d.mode=1->Zjt S zs ss d.k9 d.told=true
variable{S:StV}{zs:List Zon}{ss:List Sgn}
theorem ZpM(es:List Zou):∀(l:List Int) (k:zci) (x y:Bool),(chN S zs ss es l (k,x)).1=(chN S zs ss es l (k,y)).1
 |[],k,x,y=>rfl
 |a::l,k,x,y=>ZpM es l _ _ _
theorem Zqb(es:List Zou)(l:List Int)(a:Int)(x:zci×Bool):chN S zs ss es (l++[a]) x=((znE S (znB ((chN S zs ss es l x).1.tick+1) es) (ZhP S zs ss (chN S zs ss es l x).1 a)).1,(chN S zs ss es l x).2&&(znE S (znB ((chN S zs ss es l x).1.tick+1) es) (ZhP S zs ss (chN S zs ss es l x).1 a)).2):=by
 unfold chN;rw[List.foldl_append];rfl
theorem Drv.fgt(hS:z6u S zs ss){d:NdV}{g:RgV}{c:Int}{es:List Zou}{n:Nat}(H:Drv S zs ss d g c es n){A:List Int}(hA:g.jL=A++[d.qN])(hi:InK (chN S zs ss es A (znE S (znB g.jO.tick es) g.jO)).1 d.k9) :
  ∃A',(Zhl S zs ss es g).jL=A'++[d.qN]/\InK (chN S zs ss es A' (znE S (znB (Zhl S zs ss es g).jO.tick es) (Zhl S zs ss es g).jO)).1 d.k9:=by
 unfold Zhl;by_cases c5:g.na=5
 ·rw[if_pos c5];have hg:=H.nd.rg;have hi0:g.ini=false:=by
   cases hi:g.ini with
   |false=>rfl
   |true=>have:=hg.ini hi;omega
  have BJ:=H.nd.now;have Df:=H.nd.few;have hk0:=H.nd.jO.nd.t;obtain⟨b1,b2,b3,b4,b5,b6⟩:=Zj0 (zs:=zs) (ss:=ss) hS hg.few (by omega) hi0 H.nd.jO (by omega) es;have hact:g.jL=[g.s0,g.s1,g.s2,g.s3,g.s4]:=by unfold RgV.jL;rw[c5];rfl
  obtain⟨A',rfl⟩:∃A',A=g.s0::A':=by
   rw[hact]at hA
   match A,hA with
   |[],h=>simp at h
   |x::A',h =>
    simp only[ji,yz]at h;exact⟨A',by rw[h.1]⟩
  refine⟨A',by rw[b3,hA];rfl,?_⟩;rw[b4];obtain⟨k1,k2⟩:=H.nd.jO.Ax (znB g.jO.tick es);obtain⟨k3,k4⟩:=k1.step (zs:=zs) (ss:=ss) hS (by rw[k2];omega) g.s0;have e:chN S zs ss es (g.s0::A') (znE S (znB g.jO.tick es) g.jO)=chN S zs ss es A' ((znE S (znB ((znE S (znB g.jO.tick es) g.jO).1.tick+1) es) (ZhP S zs ss (znE S (znB g.jO.tick es) g.jO).1 g.s0)).1,(znE S (znB g.jO.tick es) g.jO).2&&(znE S (znB ((znE S (znB g.jO.tick es) g.jO).1.tick+1) es) (ZhP S zs ss (znE S (znB g.jO.tick es) g.jO).1 g.s0)).2):=rfl;rw[e,ZpM es A' _ _ (znE S (znB ((znE S (znB g.jO.tick es) g.jO).1.tick+1) es) (ZhP S zs ss (znE S (znB g.jO.tick es) g.jO).1 g.s0)).2]at hi;rw[k4];exact hi
 ·rw[if_neg c5];exact⟨A,hA,hi⟩
theorem Drv.next(hL:ZkT S zs ss){d:NdV}{g:RgV}{c:Int}{es:List Zou}{n:Nat}(H:Drv S zs ss d g c es n){es2:List Zou}(hes:∀t,(Zhl S zs ss es g).jO.tick<=t->HLe (Ziq es t) (Ziq es2 t)){K:zci}(eK:Zkz S zs ss (Zhl S zs ss es g) es2=(K,true))(hm:d.mode=1):Zjt S zs ss K d.kU=true:=by
 have hS:=hL.ok;have hv:=H.ver hm;obtain⟨r1,r2,r3,r4,r5⟩:=ZkX (zs:=zs) (ss:=ss) hS H.nd;have Df:=H.nd.few;rcases H.st with⟨h0,hp,ht⟩ |⟨hl,hpl,hkt,A,hA,hi⟩
 ·have e:Zhl S zs ss es g=g:=by unfold Zhl;rw[if_neg (by omega)]
  rw[e]at eK;have ea:g.jL=[]:=by simp[RgV.jL,h0]
  unfold Zkz at eK;rw[ea]at eK;have eK:znE S (znB g.jO.tick es2) g.jO=(K,true):=eK;have hin:=ZkZ (S:=S) H.nd.jO.nd (znB g.jO.tick es2);have hkb:=(H.nd.jO.Ax (S:=S) (znB g.jO.tick es2)).1;rw[eK]at hin hkb;rw[<-ht];rw[hp]at hin;exact zUC hL.ok.full.full hL.wl hin hkb.nd.chk hv
 ·obtain⟨A',hA',hi'⟩:=H.fgt hS hA hi;generalize Zhl S zs ss es g=g1 at *;unfold Zkz at eK;rw[hA',Zqb]at eK;have hal:g1.jL.length<=g1.na:=by simp[RgV.jL];omega
  have hal':A'.length+1<=g1.na:=by rw[hA']at hal;simpa using hal
  obtain⟨k1,k2⟩:=r4.Ax (S:=S) (znB g1.jO.tick es2);obtain⟨k1',k2'⟩:=r4.Ax (S:=S) (znB g1.jO.tick es);have Ap:=ZkP (zs:=zs) (ss:=ss) hS es2 A' (znE S (znB g1.jO.tick es2) g1.jO).1 (znE S (znB g1.jO.tick es2) g1.jO).2 k1 (by rw[k2];omega);have o1:=congrArg Prod.snd eK;simp only[jh]at o1;obtain⟨o1,o2⟩:=o1;have o3:=Zqa A' (znE S (znB g1.jO.tick es2) g1.jO).1 (znE S (znB g1.jO.tick es2) g1.jO).2 o1;have hf:InK (znE S (znB g1.jO.tick es2) g1.jO).1 (znE S (znB g1.jO.tick es) g1.jO).1:=by
   rw[ZoU]at o3 ⊢;rw[ZoU S es];exact Zo4 (hes _ (jS _)) (InK.refl _) r4.nd o3
  have hc:=ZpL (zs:=zs) (ss:=ss) hS (es:=es) (es2:=es2) A' (znE S (znB g1.jO.tick es2) g1.jO).2 (znE S (znB g1.jO.tick es) g1.jO).2 hf k1 k1' (fun t ht=>hes t (by rw[k2]at ht;omega)) (by rw[k2];omega) o1;have hin:InK (chN S zs ss es2 A' (znE S (znB g1.jO.tick es2) g1.jO)).1 d.k9:=InK.trans hc hi';have Ap:KB S.m (chN S zs ss es2 A' (znE S (znB g1.jO.tick es2) g1.jO)).1/\(chN S zs ss es2 A' (znE S (znB g1.jO.tick es2) g1.jO)).1.tick=(znE S (znB g1.jO.tick es2) g1.jO).1.tick+A'.length:=Ap;generalize chN S zs ss es2 A' (znE S (znB g1.jO.tick es2) g1.jO)=y at *;have eK1:=congrArg Prod.fst eK;simp only at eK1;obtain⟨y1,y2⟩:=y;simp only at eK1 Ap hin o2;obtain⟨q1,q2⟩:=Ap.1.step (zs:=zs) (ss:=ss) hS (by rw[Ap.2,k2];omega) d.qN;have hst:=Zpt (zs:=zs) (ss:=ss) hS hin Ap.1.nd H.kb.nd d.qN;have hK:InK K (Zhv S (ZhP S zs ss d.k9 d.qN)):=by
   rw[<-eK1,ZoU];rw[ZoU]at o2;exact Zo4 (p:=⟨[],[],[]⟩) ⟨Ai _,Ai _,Ai _⟩ hst q1.nd o2
  have hn:=ZnB hL H.kb (by omega) hv none;rw[<-hl,<-hpl]at hn;have hKB:=(q1.Ax (S:=S) (znB (y1.tick+1) es2)).1;rw[eK1]at hKB;exact zUC hL.ok.full.full hL.wl hK hKB.nd.chk hn
end Go.TrRun
namespace Go.TrRun
open Go Go.Eng Go.PlanLaw
variable{S:StV}{zs:List Zon}{ss:List Sgn}
theorem Zrf(hS:z6u S zs ss){d:NdV}{K:zci}(hv:d.mode=1->Zjt S zs ss K d.kU=true):(goN S zs ss d K).mode=1->Zjt S zs ss K (goN S zs ss d K).kU=true:=by
 have hm1:(ZiF S { d with k9:=K }).mode=1->d.mode=1:=by
  unfold ZiF;simp only;split
  ·intro h;cases h
  ·exact id
 unfold goN;by_cases hm:(ZiF S { d with k9:=K }).mode=1
 ·rw[if_pos hm];have hv:=hv (hm1 hm);by_cases hf:0<=(Zkd S zs ss (ZiF S { d with k9:=K })).1
  ·exact fun _=>(ZkW hS.car (ZiF S { d with k9:=K }) hf).1
  ·have e:(ZiG S zs ss (ZiF S { d with k9:=K })).kU=d.kU:=by
    unfold ZiG;simp only[if_neg hf];rfl
   exact fun _=>by rw[e];exact hv
 ·rw[if_neg hm];exact fun h=>absurd h hm
theorem Drv.DR(hL:ZkT S zs ss){d d':NdV}{g g':RgV}{c c':Int}{es es':List Zou}{n n':Nat}{x:Zjo}(H:Drv S zs ss d g c es n)(H':Drv0 S d' g' c' es' n')(hT:TkD S zs ss d g c es x d' g' c' es'):Drv S zs ss d' g' c' es' n':=by
 have hS:=hL.ok;obtain⟨r1,r2,r3,r4,r5⟩:=ZkX (zs:=zs) (ss:=ss) hS H.nd;rcases hT with⟨d2,K,e2,eK,hKt,hKB,y7,yp,CU,rfl,rfl⟩ |⟨d2,c2,es2,e2,hf,l1,l2,y7,rfl,rfl,rfl,rfl⟩
 ·have hle:∀t,(Zhl S zs ss es g).jO.tick<=t->HLe (Ziq es t) (Ziq es' t):=fun t ht=>by
   have e:Ziq (Zh0 (Zhl S zs ss es g).jO.tick (ksE es) es) t=Ziq es t:=by unfold Ziq;rw[Zpl ht]
   have hh:=Zqk d (c,Zh0 (Zhl S zs ss es g).jO.tick (ksE es) es) x t;have eh:ZiQ d (c,Zh0 (Zhl S zs ss es g).jO.tick (ksE es) es) x=hrN S zs ss d g c es (ksE es) x:=rfl;rw[eh,e2]at hh;rw[<-e];exact hh
  have q5:=Zrf (zs:=zs) (ss:=ss) (d:=d2) (K:=K) hS fun q=>by
   rw[yp];exact H.next hL hle eK (by rw[<-CU];exact q)
  have hp2:ZoP d2.kU:=by rw[yp];exact H.kU
  obtain⟨q1,q2,q3,q4⟩:=Zrd (zs:=zs) (ss:=ss) (K:=K) hS hp2;obtain⟨a1,a2,a3,a4,a5⟩:=ZjF (g:=Zhl S zs ss es g) (by omega) (Pl.uD (goN S zs ss d2 K).kU 0);refine⟨H',.inr ⟨rfl,rfl,?_,(Zhl S zs ss es g).jL,a1,?_⟩,fun hm=>?_⟩
  ·show(goN S zs ss d2 K).k9.tick+1=(goN S zs ss d2 K).now+1;rw[q2,q1,hKt,y7]
  ·rw[a3];show InK (Zkz S zs ss (Zhl S zs ss es g) es').1 (goN S zs ss d2 K).k9;rw[eK,q2];exact .refl _
  ·show Zjt S zs ss (goN S zs ss d2 K).k9 (goN S zs ss d2 K).kU=true;rw[q2];exact q5 hm
 ·have e0:(ZoH (ZoJ S zs ss d2 (Zhl S zs ss es g))).jL=[]:=rfl;obtain⟨a1,a2,a3,a4,a5⟩:=ZjF (g:=ZoH (ZoJ S zs ss d2 (Zhl S zs ss es g))) (show 0<=4 by decide) (Pl.uD d2.kU 0);rw[e0]at a1;refine⟨H',.inr ⟨rfl,rfl,?_,[],a1,?_⟩,fun hm=>?_⟩
  ·show(ZoJ S zs ss d2 (Zhl S zs ss es g)).tick+1=d2.now+1;rw[l2,y7]
  ·show InK (znE S (znB (ZhJ (ZoH (ZoJ S zs ss d2 (Zhl S zs ss es g))) (Pl.uD d2.kU 0)).jO.tick []) (ZhJ (ZoH (ZoJ S zs ss d2 (Zhl S zs ss es g))) (Pl.uD d2.kU 0)).jO).1 (ZoJ S zs ss d2 (Zhl S zs ss es g));rw[a3];exact ZkZ (S:=S) l1.nd _
  ·exfalso;have hm:(ZiF S (ZoO S zs ss d2 (Zhl S zs ss es g))).mode=1:=hm;revert hm;unfold ZiF ZoO;split<;>simp
end Go.TrRun
namespace Go.TrRun
open Go Go.Eng
variable{k:Nat}{S:StV}{zs:List Zon}{ss:List Sgn}{d:NdV}{g:RgV}{c:Int}{es:List Zou}{v w u p q:Nat}{M:Mem}
theorem ZpX(S:StV)(d:NdV)(g:RgV)(c:Int)(es:List Zou)(v w u:Nat)(x:Zjo)(hn:0<=d.now/\d.now<=100000)(hx:x.tick=d.now->8<x.kg.length\/8<x.jR.length\/8<x.ki.length) :
  ∃e,(e=0->False)/\(x.tick=d.now->e=8)/\R L Cs Zh5 [Pt 0,.a (inC x)] (ndM S d g c es v w u)=some (.t [W 0,W e],ndM S d g c es v w u):=by
 have h0:=ZkQ S d g c es v w u;have hc0:zx (R L Cs) ⟨true⟩ (.c (.fn Zh3 [] [])) [Pt 0] (ndM S d g c es v w u++[bx 4 (inC x)])=some (.w (Bo false),ndM S d g c es v w u++[bx 4 (inC x)],.no):=by
  obtain⟨s0,s1,s2,s3,s4,na,ini,p⟩:=g;cases ini<;>simp[ndM,ndC,rgC,mpB,bxv]at h0<;>simp[h0,Zly]
 obtain⟨xt,xsc,xsp,xfx⟩:=x;simp only at hx;simp only[inC,ndM,ji,je]at hc0;by_cases ht:xt=d.now
 ·subst ht;have c1:8<max (xsc.length:Int) (max xsp.length xfx.length):=by have:=hx rfl;omega
  refine⟨8,by omega,fun _=>rfl,?_⟩;rw[zUa Zji rfl];obtain⟨s0,s1,s2,s3,s4,na,ini,p⟩:=g;cases ini<;>simp[-zx,ZhG,hc0,c1,Zly,zr]
 ·refine⟨11,by omega,fun e=>absurd e ht,?_⟩;rw[zUa Zji rfl];obtain⟨s0,s1,s2,s3,s4,na,ini,p⟩:=g;cases ini<;>simp[-zx,ZhG,hc0,ht,Zly,zr]
theorem LM.same(h:LM k S d g c es v w u p q M){f:Nat}{r:AV}(hr:(∃n,r=.w (W n))\/(∃k,r=.w (.a (zG k)))\/(∃y,r=.w (.a (zJ4 y)))\/(∃l,r=.w (.a [.jb (zu l)])))
  (hR:R L Cs f [Pt 0] (ndM S d g c es v w u)=some (r,ndM S d g c es v w u)) :
  zx (R L Cs) ⟨true⟩ (.c (.fn f [] [])) [Pt k] M=some (r,M,.no):=by
 refine(h.on (.inl rfl) hR).trans ?_;obtain⟨h1,h2,h3,n1,n2,n3⟩:=h;obtain⟨ρ,hρ⟩:∃ρ:Nat->Option Nat,∀j,ρ j=match ([k,p,q]:List Nat)[j]? with|some id=>some id|none=>some (M.length+(j-3)):=⟨_,fun _=>rfl⟩
 have hrA:znn ρ r=some r:=by
  rcases hr with⟨n,rfl⟩ |⟨y,rfl⟩ |⟨⟨y1,y2,y3⟩,rfl⟩ |⟨l,rfl⟩<;>simp[zG,zJ4,zJY]
 have hb:Eng.back ρ [k,p,q] (ndM S d g c es v w u) M=some (M,[]):=by simp[Eng.back,h1,h2,h3]
 have hl:=Zo2 hρ hb (new:=[]) rfl hrA
 rwa [qd]at hl
theorem Zrr(hS:z6u S zs ss){n:Nat}(H:Drv0 S d g c es n)(hn:n+300<=1000)(hd:d.now<=1000){x:Zjo}(hx:Zlc x)(h:LM k S d g c es v w u p q M)(ht:x.tick=d.now)(h8:x.kg.length<=8/\x.jR.length<=8/\x.ki.length<=8) :
  ∃d' g' c' es' v' w' u' p' q' M' fp,Drv0 S d' g' c' es' (n+24)/\LM k S d' g' c' es' v' w' u' p' q' M'/\M.length<=M'.length/\zx (R L Cs) ⟨true⟩ (.c (.fn Zh5 [] [])) [Pt k,.a (inC x)] M=some (.t [W (Zlu S d'),W 0],M',fp) /\
   d'.now=d.now+1/\PlN S d d'/\TkD S zs ss d g c es x d' g' c' es'/\Fr k p q p' q' M M':=by
 obtain⟨d',g',c',es',H',CY,hP,hD,hT⟩:=H.tick (zs:=zs) (ss:=ss) hS hn hd hx h8 ht v w u;rcases hT with⟨v',w',u',hvw,hR⟩ |⟨rfl,rfl,hi,g1,c1,es1,v',w1,u1,⟨hv,hw,hu⟩,hR⟩
 ·obtain⟨M',fp,hC,hM,hl,hF⟩:=h.call (v':=v') (w':=w') (u':=u') (f:=Zh5) (xs:=inC x) (.inr ⟨x,rfl⟩) (.inl ⟨_,_,rfl⟩) (fun e=>absurd e (by omega)) (fun e=>absurd e (by omega)) hvw.2.2.2 (by simpa using hR);exact⟨d',g',c',es',v',w',u',p,q,M',fp,H',hM,by omega,by simpa using hC,CY,hP,hD,hF⟩
 ·obtain⟨M',fp,hC,hM,hl,hF⟩:=h.lose hv hw.2 hu.2 hi hR;exact⟨d',g',0,[],_,_,_,_,_,M',fp,H',hM,hl,hC,CY,hP,hD,hF⟩
theorem Zru{n:Nat}(H:Drv0 S d g c es n){x:Zjo}(h:LM k S d g c es v w u p q M)(hno:¬(x.tick=d.now/\x.kg.length<=8/\x.jR.length<=8/\x.ki.length<=8)) :
  ∃e M' fp,LM k S d g c es v w u p q M'/\M'.length=M.length/\zx (R L Cs) ⟨true⟩ (.c (.fn Zh5 [] [])) [Pt k,.a (inC x)] M=some (.t [W 0,W e],M',fp)/\e≠0/\(x.tick=d.now->e=8)/\Fr k p q p q M M':=by
 have BJ:0<=d.now/\d.now<=100000:=by
  have h1:=H.nd.now;have h2:=H.nd.jO.nd.t;have h3:=H.nd.few;omega
 obtain⟨e,he,he8,hR⟩:=ZpX S d g c es v w u x BJ (fun ht=>by omega);obtain⟨M',fp,hC,hM,hl,hF⟩:=h.call (v':=v) (w':=w) (u':=u) (f:=Zh5) (xs:=inC x) (.inr ⟨x,rfl⟩) (.inl ⟨_,_,rfl⟩) (fun _=>rfl) (fun _=>rfl) (fun _=>⟨rfl,rfl⟩) (by simpa using hR);exact⟨e,M',fp,hM,hl,by simpa using hC,he,he8,hF⟩
theorem Drv0.mono{n m:Nat}(H:Drv0 S d g c es n)(h:n<=m):Drv0 S d g c es m:=⟨⟨H.nd.rg,H.nd.jL,H.nd.jO,H.nd.now,H.nd.few,H.nd.ents.mono h,H.nd.last,H.nd.kU⟩,H.ent.mono h,H.kb,H.kU,H.told⟩
theorem ZpW(hS:z6u S zs ss){n:Nat}(H:Drv0 S d g c es n)(hn:n+300<=1000)(hd:d.now<=1000){x:Zjo}(hx:Zlc x)(h:LM k S d g c es v w u p q M) :
  ∃r e d' g' c' es' v' w' u' p' q' M' fp,Drv0 S d' g' c' es' (n+24)/\d'.now<=d.now+1/\LM k S d' g' c' es' v' w' u' p' q' M'/\M.length<=M'.length/\zx (R L Cs) ⟨true⟩ (.c (.fn Zh5 [] [])) [Pt k,.a (inC x)] M=some (.t [W r,W e],M',fp) /\
   ((e=0/\r=Zlu S d'/\d'.now=d.now+1/\PlN S d d'/\TkD S zs ss d g c es x d' g' c' es')\/(e≠0/\(x.tick=d.now->e=8)/\d'=d/\g'=g/\c'=c/\es'=es))/\Fr k p q p' q' M M':=by
 by_cases hok:x.tick=d.now/\x.kg.length<=8/\x.jR.length<=8/\x.ki.length<=8
 ·obtain⟨d',g',c',es',v',w',u',p',q',M',fp,H',hM,hl,hC,CY,hP,hD,hF⟩:=Zrr (zs:=zs) (ss:=ss) hS H hn hd hx h hok.1 hok.2;exact⟨_,_,d',g',c',es',v',w',u',p',q',M',fp,H',by omega,hM,hl,hC,.inl ⟨rfl,rfl,CY,hP,hD⟩,hF⟩
 ·obtain⟨e,M',fp,hM,hl,hC,he,he8,hF⟩:=Zru H h hok;exact⟨_,_,d,g,c,es,v,w,u,p,q,M',fp,H.mono (by omega),by omega,hM,by omega,hC,.inr ⟨he,he8,rfl,rfl,rfl,rfl⟩,hF⟩
theorem ZpI(hL:ZkT S zs ss){n:Nat}(H:Drv S zs ss d g c es n)(h:LM k S d g c es v w u p q M) :
  ∃e d' v' M' fp,Drv S zs ss d' g c es n/\d'.now=d.now/\LM k S d' g c es v' w u p q M'/\M'.length=M.length/\zx (R L Cs) ⟨true⟩ (.c (.fn Zmc [] [])) [Pt k] M=some (.w (W e),M',fp)/\(e=0->d'.mode=1):=by
 have hb:d.k9.jZ.length<=100000000000:=by have:=H.kb.nd.len hL.ok;omega
 have hR:=ZmP hL.ok d g c es v w u hb (by have:=H.told.len;omega) H.told.Cb;by_cases hr:Znp S zs ss d=true
 ·rw[if_pos hr]at hR;unfold Znp at hr;simp only[jh,decide_eq_true_eq]at hr;obtain⟨M',fp,hC,hM,hl,hF⟩:=h.call (v':=v+2) (w':=w) (u':=u) (f:=Zmc) (xs:=[]) (.inl rfl) (.inr (.inl ⟨_,rfl⟩)) (fun e=>absurd e (by omega)) (fun _=>rfl) (fun _=>⟨rfl,rfl⟩) hR;have hn:=H.nd.now;have h2:=H.nd.jO.nd.t;have hf:=H.nd.few;exact⟨0,{ d with mode:=1,last:=d.now },v+2,M',fp,⟨⟨⟨H.nd.rg,H.nd.jL,H.nd.jO,H.nd.now,H.nd.few,H.nd.ents,by simp only;omega,H.nd.kU⟩,H.ent,H.kb,H.kU,H.told⟩,H.st,fun _=>hr.2⟩,rfl,hM,hl,by simpa using hC,fun _=>rfl⟩
 ·rw[if_neg hr]at hR;obtain⟨M',fp,hC,hM,hl,hF⟩:=h.call (v':=v) (w':=w) (u':=u) (f:=Zmc) (xs:=[]) (.inl rfl) (.inr (.inl ⟨_,rfl⟩)) (fun _=>rfl) (fun _=>rfl) (fun _=>⟨rfl,rfl⟩) hR;exact⟨10,d,v,M',fp,H,rfl,hM,hl,by simpa using hC,fun e=>by omega⟩
end Go.TrRun
namespace Go.TrRun
open Go Go.Eng
abbrev ZoM(l:List Zjo):List (List Cl):=l.map inC
def Zpi(y:zZP):Bool:=decide (y.seen.length<=8)&&decide (y.pts.length<=20)
def ZpQ(x:Zjo):Bool:=decide (x.kg.length<=10)&&(decide (x.jR.length<=10)&&(decide (x.ki.length<=10)&&x.kg.all Zpi))
def smB(l:List Zjo):Bool:=decide (l.length<=8)&&l.all ZpQ
theorem ZoY{α:Type}{l r:List α}{x:α}{i:Nat}(h:l.drop i=x::r):∃hi:i<l.length,l[i]=x/\l.drop (i+1)=r:=by
 have hi:i<l.length:=by
  have:=congrArg List.length h;simp at this;omega
 rw[Go.jx hi]at h;exact⟨hi,(j6 h).1,(j6 h).2⟩
theorem ZoS{α:Type}{l:List α}{i:Nat}(h:l.drop i=[])(hi:i<=l.length):i=l.length:=by
 have:=congrArg List.length h;simp at this;omega
theorem Zpw(l:List Zjo)(i:Nat)(hi:i<l.length)(hs:l[i].kg.length<=10):∀(r:List zZP) (k:Nat),l[i].kg.drop k=r->k<=l[i].kg.length ->
  Y L Cs ZoD (some [0,3,4]) 0 [(0,.w (.c (.jb (ZoM l)))),(3,.w (W i)),(4,.w (W k))] [] =
    if r.all Zpi then some (.exit 2,[(46,.w (Bo false)),(3,.w (W i)),(0,.w (.c (.jb (ZoM l)))),(4,.w (W l[i].kg.length))],[]) else some (.ret,[(2,.w (Bo false))],[])
 |[],k,hd,hk=>by
  obtain rfl:=ZoS hd hk;rw[ZfM ZoD.eq_1];simp[hi,ZlG]
 |y::r,k,hd,hk=>by
  obtain⟨hk1,hy,hd'⟩:=ZoY hd;have hw:=zB (i:=k) (by omega);have ih:=Zpw l i hi hs r (k+1) hd' (by omega);have hck:(k:Int)<l[i].kg.length:=by omega
  rw[qG];rw[ZfM ZoD.eq_1];by_cases c1:y.seen.length<=8
  ·by_cases c2:y.pts.length<=20
   ·have e:Zpi y=true:=by simp[Zpi,c1,c2]
    rw[e,qT,<-ih];have d1:¬(8:Int)<y.seen.length:=by omega
    have d2:¬(20:Int)<y.pts.length:=by omega
    simp[hi,ZlG,hck,hk1,hy,hw,zX6,zWx,zWs,d1,d2]
   ·have e:Zpi y=false:=by simp[Zpi,c2]
    rw[e,yU,if_neg (by simp)];have d1:¬(8:Int)<y.seen.length:=by omega
    have d2:(20:Int)<y.pts.length:=by omega
    simp[hi,ZlG,hck,hk1,hy,zX6,zWx,zWs,d1,d2]
  ·have e:Zpi y=false:=by simp[Zpi,c1]
   rw[e,yU,if_neg (by simp)];have d1:(8:Int)<y.seen.length:=by omega
   simp[hi,ZlG,hck,hk1,hy,zX6,zWx,zWs,d1]
theorem Zpv(l:List Zjo)(hl:l.length<=8):∀(r:List Zjo) (i:Nat),l.drop i=r->i<=l.length ->
  Y L Cs ZoC (some [3,0]) 0 [(3,.w (W i)),(0,.w (.c (.jb (ZoM l))))] [] =
    if r.all ZpQ then some (.exit 0,[(11,.w (Bo false)),(3,.w (W l.length)),(0,.w (.c (.jb (ZoM l))))],[]) else some (.ret,[(2,.w (Bo false))],[])
 |[],i,hd,hi=>by
  obtain rfl:=ZoS hd hi;rw[ZfM ZoC.eq_1];simp
 |x::r,i,hd,hi=>by
  obtain⟨hi1,hx,hd'⟩:=ZoY hd;have hw:=zB (i:=i) (by omega);have ih:=Zpv l hl r (i+1) hd' (by omega);have hci:(i:Int)<l.length:=by omega
  rw[qG];rw[ZfM ZoC.eq_1];unfold ZpQ;by_cases c1:x.kg.length<=10
  ·have d1:¬(10:Int)<x.kg.length:=by omega
   by_cases c2:x.jR.length<=10
   ·have d2:¬(10:Int)<x.jR.length:=by omega
    by_cases c3:x.ki.length<=10
    ·have d3:¬(10:Int)<x.ki.length:=by omega
     have h1:=Zpw l i hi1 (by rw[hx];exact c1) x.kg 0 (by rw[hx];rfl) (jp _);simp only[jg]at h1;simp only[c1,c2,c3,decide_true,qT];by_cases c4:x.kg.all Zpi=true
     ·rw[if_pos c4]at h1;rw[c4,qT];unfold ZpQ at ih;rw[<-ih];simp[hi1,hx,hci,hw,d1,d2,d3,ZlG,zb,h1]
     ·rw[if_neg c4]at h1;simp only[Al]at c4;rw[c4,yU,if_neg (by simp)];simp[hi1,hx,hci,hw,d1,d2,d3,ZlG,zb,h1]
    ·have d3:(10:Int)<x.ki.length:=by omega
     simp[c3,hi1,hx,hci,hw,d1,d2,d3,ZlG,zb]
   ·have d2:(10:Int)<x.jR.length:=by omega
    simp[c2,hi1,hx,hci,hw,d1,d2,ZlG,zb]
  ·have d1:(10:Int)<x.kg.length:=by omega
   simp[c1,hi1,hx,hci,hw,d1,ZlG,zb]
theorem Zqn(l:List Zjo):R L Cs ZoI [.c (.jb (ZoM l))] []=some (.w (Bo (smB l)),[]):=by
 rw[zUa ZoV rfl];unfold smB;by_cases h:l.length<=8
 ·have h2:=Zpv l h l 0 rfl (jp _);simp only[jg]at h2;have d:¬(8:Int)<l.length:=by omega
  rw[decide_eq_true h,qT];by_cases c:l.all ZpQ=true
  ·rw[if_pos c]at h2;rw[c];simp[ZoB,d,h2]
  ·rw[if_neg c]at h2;simp only[Al]at c;rw[c];simp[ZoB,d,h2]
 ·have d:(8:Int)<l.length:=by omega
  rw[decide_eq_false h,yU];simp[ZoB,d]
end Go.TrRun
