/- This text proves what functions of this seat's program answer, run by the evaluator; no condition. -/
import Derived.Test.YtdndkdliiojpiaaGreatLTx3
set_option maxHeartbeats 8000000
set_option linter.unusedVariables false
set_option linter.unusedSimpArgs false
set_option linter.unusedSectionVars false
set_option maxRecDepth 10000
namespace Go.TrRun
open Go Go.Eng
def znB(n:Int):List Zou->Option Hrd
 |[]=>none
 |e::r=>if n=e.key then some e.hrd else znB n r
def ZiR(n:Int):List Zou->Nat->Option (Nat×Hrd)
 |[],_=>none
 |e::r,i=>if n=e.key then some (i,e.hrd) else ZiR n r (i+1)
theorem Zkr(n:Int):∀(es:List Zou) (i:Nat),(ZiR n es i).map Prod.snd=znB n es
 |[],_=>rfl
 |e::r,i=>by
  unfold ZiR znB;split
  ·rfl
  ·exact Zkr n r (i+1)
theorem ZiE(n:Int):∀(es:List Zou) (i:Nat),zta .i64 n (List.map Zly es) i=some ((ZiR n es i).map fun q=>(q.1,Zli q.2))
 |[],_=>rfl
 |e::r,i=>by
  rw[kC];show zta .i64 n ([I e.born,I e.key,_,_,_]::_) i=_;unfold zta ZiR;by_cases h:n=e.key
  ·simp[h]
  ·simp only[↓reduceIte,h];exact ZiE n r (i+1)
theorem Zia{M:Mem}{c:Int}{es:List Zou}{u:Nat}{id:Nat}(h:M[id]?=some (mpB c es u)):zi4 M id=some ({ box:=true,esz:=1,rows:=[I c]::es.map Zly,gen:=0,fz:=false,ver:=u },c,es.map Zly):=by
 unfold zi4 Eng.look;rw[h];simp
theorem Zih{M:Mem}{c:Int}{es:List Zou}{u:Nat}{id:Nat}(h:M[id]?=some (mpB c es u))(n:Int)(z:WV):znp M false true z [.c (.map id true),.c (.int .i64 n)]=some (.w (match znB n es with |some h=>.a (Zli h) |none=>z),M,.no):=by
 unfold znp;simp only[↓reduceIte,Zia h,ZiE,<-Zkr n es 0];cases ZiR n es 0 with
 |none=>rfl
 |some q=>rfl
def znE(S:StV)(h:Option Hrd)(k:zci):zci×Bool:=match h with
 |none=>(Zhv S k,true)
 |some h=>ZiH S h.j8 (Zhv S (Zis h.kd (ZhZ h.jO (k,true))).1,(Zis h.kd (ZhZ h.jO (k,true))).2)
theorem KNd.AS{S:StV}{k:zci}(h:KNd S.m k)(q:Option Hrd):KNd S.m (znE S q k).1/\(znE S q k).1.tick=k.tick:=by
 cases q with
 |none=>exact⟨h.own,rfl⟩
 |some y =>
  obtain⟨a1,a2⟩:=h.spds y.jO true;obtain⟨b1,b2⟩:=a1.fixs y.kd (ZhZ y.jO (k,true)).2;obtain⟨c1,c2⟩:=KNd.scns (S:=S) y.j8 (Zis y.kd (ZhZ y.jO (k,true))).2 b1.own;exact⟨c1,c2.trans (b2.trans a2)⟩
theorem Zk2(ok:Bool)(M:Mem):Y L Cs Zhh (some [6,28,27,7,4,0,26,3]) 6 [(6,.w (Bo ok)),(28,.w (W 0)),(27,.w (W 0)),(7,.w (Pt 5)),(4,.w (Pt 4)),(0,.w (Pt 0)),(26,.w (.c .jc)),(3,.w (Pt 3))] M=some (.exit 0,[(29,.w (Bo false)),(6,.w (Bo ok)),(28,.w (W 0)),(27,.w (W 0)),(7,.w (Pt 5)),(4,.w (Pt 4)),(0,.w (Pt 0)),(26,.w (.c .jc)),(3,.w (Pt 3))],M):=by
 rw[ZfM Zhh.eq_1];simp
theorem Zk1(ok:Bool)(M:Mem):Y L Cs Zhg (some [6,47,46,0,4,7,45,3]) 6 [(6,.w (Bo ok)),(47,.w (W 0)),(46,.w (W 0)),(0,.w (Pt 0)),(4,.w (Pt 4)),(7,.w (Pt 5)),(45,.w (.c .jc)),(3,.w (Pt 3))] M=some (.exit 2,[(48,.w (Bo false)),(6,.w (Bo ok)),(47,.w (W 0)),(46,.w (W 0)),(0,.w (Pt 0)),(4,.w (Pt 4)),(7,.w (Pt 5)),(45,.w (.c .jc)),(3,.w (Pt 3))],M):=by
 rw[ZfM Zhg.eq_1];simp
theorem Zk0(ok:Bool)(M:Mem):Y L Cs Zhf (some [6,69,68,4,67,0,3]) 6 [(6,.w (Bo ok)),(69,.w (W 0)),(68,.w (W 0)),(4,.w (Pt 4)),(67,.w (.c .jc)),(0,.w (Pt 0)),(3,.w (Pt 3))] M=some (.exit 4,[(70,.w (Bo false)),(6,.w (Bo ok)),(69,.w (W 0)),(68,.w (W 0)),(4,.w (Pt 4)),(67,.w (.c .jc)),(0,.w (Pt 0)),(3,.w (Pt 3))],M):=by
 rw[ZfM Zhf.eq_1];simp
theorem ZjM{S:StV}{zs:List Zon}{ss:List Sgn}(hS:z6u S zs ss)(d:NdV)(g:RgV)(c:Int)(es:List Zou)(v w u:Nat){k:zci}(hk:KNd S.m k)(hh:∀h,znB k.tick es=some h->Zld h k.tick) :
  R L Cs Zi4 [Pt 0,.a (zG k)] (ndM S d g c es v w u)=some (.t [.a (zG (znE S (znB k.tick es) k).1),Bo (znE S (znB k.tick es) k).2],ndM S d g c es v w u):=by
 have hG:∀(M:Mem),M[2]?=some (mpB c es u)->znp M false true (.a [.jc,.jc,.jc]) [.c (.map 2 true),.c (.int .i64 k.tick)]=_:=fun M h=>Zih h k.tick _
 cases hf:znB k.tick es with
 |none =>
  rw[hf]at hG;have hO:=ZjW hS d g c es v w u (k:=k) (by have:=hk.len hS;omega) hk.j.ego;unfold znE;simp only;generalize Zhv S k=k2 at *;obtain⟨s0,s1,s2,s3,s4,n,ini,p⟩:=g;simp only[zG]at hO;rw[zUa Zh6 rfl];cases ini<;>simp[ndM,ndC,rgC,mpB,bxv]at hO<;>simp[Zhx,hG,hO,Zk2,Zk1,Zk0,zG,Zly]
 |some y =>
  rw[hf]at hG;obtain⟨n1,n2,n3,st,se,pt⟩:=hh y hf;obtain⟨a1,a2⟩:=hk.spds y.jO true;obtain⟨b1,b2⟩:=a1.fixs y.kd (ZhZ y.jO (k,true)).2;obtain⟨v1,h1⟩:=Zj8 S d g c es v w u y.jO n1 y y.jO 0 k true 0 rfl (jp _) (by have:=hk.len hS;omega);obtain⟨v2,h2⟩:=Zj7 S d g c es v w u y.kd n2 y y.kd 0 (ZhZ y.jO (k,true)).1 (ZhZ y.jO (k,true)).2 v1 rfl (jp _) (jL (a1.len hS) (by decide));have hO:=ZjW hS d g c es v w u (k:=(Zis y.kd (ZhZ y.jO (k,true))).1) (jL (b1.len hS) (by decide)) b1.j.ego;obtain⟨v3,h3⟩:=Zj6 hS d g c es v w u y.j8 k.tick n3 st se pt y y.j8 0 (Zhv S (Zis y.kd (ZhZ y.jO (k,true))).1) (Zis y.kd (ZhZ y.jO (k,true))).2 (v2+1) rfl (jp _) b1.own (b2.trans a2);unfold znE;simp only;generalize ZhZ y.jO (k,true)=q1 at *;obtain⟨k1,o1⟩:=q1;simp only at *;generalize Zis y.kd (k1,o1)=q2 at *;obtain⟨k2,o2⟩:=q2;simp only at *;generalize Zhv S k2=k3 at *;generalize ZiH S y.j8 (k3,o2)=q4 at *;obtain⟨k4,o4⟩:=q4;obtain⟨s0,s1,s2,s3,s4,n,ini,p⟩:=g;simp only[zG,jg]at hO h1 h2 h3;simp only[Zlm,Zll,Zlk,fuM,ndM,ji,je,zG,jg]at h1 h2 h3;rw[zUa Zh6 rfl];cases ini<;>simp[ndM,ndC,rgC,mpB,bxv]at hO<;>simp[Zhx,hG,hO,h1,h2,h3,zG,Zly]
def Zjv(d:NdV)(st:Int):Bool:=decide (st<=d.now)&&decide (max d.first (d.now-4)<=st)
theorem ZiY(S:StV)(d:NdV)(g:RgV)(c:Int)(es:List Zou)(v w u:Nat)(hn:0<=d.now/\d.now<=1099511627776)(st:Int):R L Cs ZiJ [Pt 0,W st] (ndM S d g c es v w u)=some (.w (Bo (Zjv d st)),ndM S d g c es v w u):=by
 have hw:IntKind.i64.wrap (d.now-4)=d.now-4:=zTd _ (by omega) (by omega);obtain⟨s0,s1,s2,s3,s4,n,ini,p⟩:=g;rw[zUa ZiN rfl];unfold Zjv;by_cases h1:st<=d.now
 ·by_cases h2:max d.first (d.now-4)<=st
  ·cases ini<;>simp[Zhm,h1,h2,hw]
  ·cases ini<;>simp[Zhm,h1,h2,hw]
 ·cases ini<;>simp[Zhm,h1]
theorem Zij(l:List Mrk)(hl:l.length<=100000):R L Cs ZhV [.c (.jb (zb l))] []=some (.w (.c (sl 0 3 (zb l))),[some (own 3 (zb l))]):=by
 have hr:l.length*24<=140737488355328:=by omega
 have h3:∀x,x∈zb l->x.length=3:=by
  intro x hx;obtain⟨y,_,rfl⟩:=jX.1 hx;rfl
 have hL:Cs.lookup ZhV=some (3,24,false):=by kernel_rfl
 rw[zrP rfl];simp[ux,hL,zuh,hr];exact h3
theorem ZjJ(l:List zZP)(hl:l.length<=100000):R L Cs ZhU [.c (.jb (ZlG l))] []=some (.w (.c (sl 0 3 (ZlG l))),[some (own 3 (ZlG l))]):=by
 have hr:l.length*56<=140737488355328:=by omega
 have h3:∀x,x∈ZlG l->x.length=3:=by
  intro x hx;obtain⟨y,_,rfl⟩:=jX.1 hx;rfl
 have hL:Cs.lookup ZhU=some (3,56,false):=by kernel_rfl
 rw[zrP rfl];simp[ux,hL,zuh,hr];exact h3
theorem Zkh(l:List Spn)(hl:l.length<=100000):R L Cs ZhT [.c (.jb (zWx l))] []=some (.w (.c (.jb (zWx l))),[]):=by
 have hr:l.length*24<=140737488355328:=by omega
 have h3:∀x,x∈zWx l->x.length=3:=by
  intro x hx;obtain⟨y,_,rfl⟩:=jX.1 hx;rfl
 have hL:Cs.lookup ZhT=some (3,24,true):=by kernel_rfl
 rw[zrP rfl];simp[ux,hL,zuh,hr];exact h3
theorem Zkb(l:List Pnt)(hl:l.length<=100000):R L Cs ZhQ [.c (.jb (zWs l))] []=some (.w (.c (.jb (zWs l))),[]):=by
 have hr:l.length*24<=140737488355328:=by omega
 have h3:∀x,x∈zWs l->x.length=3:=by
  intro x hx;obtain⟨y,_,rfl⟩:=jX.1 hx;rfl
 have hlen:(zWs l).length=l.length:=by simp[zWs]
 have hL:Cs.lookup ZhQ=some (3,24,true):=by kernel_rfl
 rw[zrP rfl];simp[ux,hL,zuh,hr,hlen];exact h3
def Ziq(es:List Zou)(n:Int):Hrd:=(znB n es).getD ⟨[],[],[]⟩
def ZiZ(n:Int)(h:Hrd)(q:Int×List Zou):Int×List Zou:=match ZiR n q.2 0 with
 |some (i,_)=>(q.1,q.2.modify i fun e=>⟨e.born,n,h⟩)
 |none=>(q.1+1,q.2++[⟨q.1,n,h⟩])
theorem ZhM{M:Mem}{c:Int}{es:List Zou}{u:Nat}{id:Nat}(h:M[id]?=some (mpB c es u))(n:Int)(H:Hrd):zoJ M true [.c (.map id true),.c (.int .i64 n),.a [.jb (zb H.jO),.jb (zb H.kd),.jb (ZlG H.j8)]]=some (.u,M.set id (mpB (ZiZ n H (c,es)).1 (ZiZ n H (c,es)).2 (u+1)),.wr [(id,0,whole)]):=by
 unfold zoJ ZiZ;simp only[↓reduceIte,Zia h,ZiE,okW,zlW];cases ZiR n es 0 with
 |none=>simp[Zly,mpB]
 |some q =>
  have e:(List.map Zly es).modify q.1 (fun row=>row.take 1++.int .i64 n::[.jb (zb H.jO),.jb (zb H.kd),.jb (ZlG H.j8)])=List.map Zly (es.modify q.1 fun e=>⟨e.born,n,H⟩):=by
   apply qZ;intro i;simp only[List.getElem?_modify,kG];by_cases hi:q.1=i
   ·simp only[hi,if_true];cases es[i]?<;>simp[Zly]
   ·simp only[hi,if_false];cases es[i]?<;>simp[Zly]
  simp[WV.cells,mpB,e]
@[simp] theorem ZiP(a b:List Mrk):zb (a++b)=zb a++zb b:=by simp[zb]
@[simp] theorem ZjN(a b:List zZP):ZlG (a++b)=ZlG a++ZlG b:=by simp[ZlG]
abbrev Zkx(t:Int)(sc:List zZP)(sp fx:List Mrk):List Cl:=[I t,.jb (ZlG sc),.jb (zb sp),.jb (zb fx)]
abbrev heM(S:StV)(d:NdV)(g:RgV)(q:Int×List Zou)(v w u:Nat)(X:List Cl):Mem:=ndM S d g q.1 q.2 v w u++[bx 4 X]
def he1(d:NdV)(q:Int×List Zou)(y:Mrk):Int×List Zou:=if Zjv d y.st then ZiZ y.st { Ziq q.2 y.st with jO:=(Ziq q.2 y.st).jO++[y] } q else q
def he2(d:NdV)(q:Int×List Zou)(y:Mrk):Int×List Zou:=if Zjv d y.st then ZiZ y.st { Ziq q.2 y.st with kd:=(Ziq q.2 y.st).kd++[y] } q else q
def he3(d:NdV)(q:Int×List Zou)(y:zZP):Int×List Zou:=if Zjv d y.qi then ZiZ y.qi { Ziq q.2 y.qi with j8:=(Ziq q.2 y.qi).j8++[y] } q else q
def Zlq(n:Nat)(es:List Zou):Prop:=∀t,(Ziq es t).jO.length<=n/\(Ziq es t).kd.length<=n/\(Ziq es t).j8.length<=n
theorem ZpS(n t:Int)(h:Hrd)(q:Int×List Zou):znB t (ZiZ n h q).2=if t=n then some h else znB t q.2:=by
 obtain⟨c,es⟩:=q;unfold ZiZ;have key:∀(es:List Zou) (k:Nat),match ZiR n es k with
   |some (i,_)=>k<=i/\znB t (es.modify (i-k) fun e=>⟨e.born,n,h⟩)=if t=n then some h else znB t es
   |none=>znB t (es++[⟨c,n,h⟩])=if t=n then some h else znB t es:=by
  intro es;induction es with
  |nil =>
   intro k;simp[ZiR,znB]
  |cons e r ih =>
   intro k;unfold ZiR;by_cases hk:n=e.key
   ·simp only[hk,if_true];refine⟨jm _,?_⟩;simp only[yI,List.modify_cons,if_true];by_cases ht:t=e.key<;>simp[znB,ht]
   ·simp only[hk,if_false];have h1:=ih (k+1);cases hf:ZiR n r (k+1)with
    |none =>
     rw[hf]at h1;simp only[ji];simp only[znB];rw[h1];by_cases ht:t=e.key
     ·have:t≠n:=fun q=>hk (q.symm.trans ht)
      simp[ht,this];intro q;exact absurd q.symm hk
     ·simp[ht]
    |some i =>
     rw[hf]at h1;obtain⟨h2,h3⟩:=h1;refine⟨by omega,?_⟩;have e1:i.1-k=(i.1-(k+1))+1:=by omega
     rw[e1];simp only[List.modify_cons,Nat.add_eq_zero_iff,jQ,and_false,if_false,vR,znB];rw[h3];by_cases ht:t=e.key
     ·simp[ht];intro q;exact absurd q.symm hk
     ·simp[ht]
 have:=key es 0;simp only;cases hf:ZiR n es 0 with
 |none=>rw[hf]at this;exact this
 |some i=>rw[hf]at this;simpa using this.2
theorem Zo3(n t:Int)(h:Hrd)(q:Int×List Zou):Ziq (ZiZ n h q).2 t=if t=n then h else Ziq q.2 t:=by
 unfold Ziq;rw[ZpS];by_cases ht:t=n<;>simp[ht]
theorem Zie(x:Mrk):zb [x]=[[I x.st,I x.lo,I x.hi]]:=rfl
theorem ZjD(x:zZP):ZlG [x]=[[I x.qi,.jb (zWx x.seen),.jb (zWs x.pts)]]:=rfl
theorem ZiU:zb []=[]:=rfl
theorem ZiT:ZlG []=[]:=rfl
theorem Zix(l:List Mrk):(zb l).take l.length=zb l:=jA (by simp)
theorem Zid(l:List Mrk)(r:List Cl):(zb l++[r]).take (l.length+1)=zb l++[r]:=jA (by simp)
theorem Ziw(l:List zZP):(ZlG l).take l.length=ZlG l:=jA (by simp)
theorem Zic(l:List zZP)(r:List Cl):(ZlG l++[r]).take (l.length+1)=ZlG l++[r]:=jA (by simp)
abbrev ZkL(l:List Mrk)(i:Nat):Env:=[(16,.w (W i)),(15,.w (W l.length)),(3,.w (Pt 3)),(14,.w (.c (.jb (zb l)))),(0,.w (Pt 0))]
theorem ZkK{S:StV}(d:NdV)(g:RgV)(q:Int×List Zou)(v w u:Nat)(hn:0<=d.now/\d.now<=1099511627776)(X:Int×List zZP×List Mrk×List Mrk)(l:List Mrk)(hl:l.length<=1000)(i:Nat)(h1:i<l.length)(ho:Zlq 1000 q.2) :
  ∃u',(u<=u'/\(u'=u->he1 d q l[i]=q))/\Y L Cs zn2 (some [16,15,3,14,0]) 4 (ZkL l i) (heM S d g q v w u (Zkx X.1 X.2.1 X.2.2.1 X.2.2.2))=Y L Cs zn2 (some [16,15,3,14,0]) 4 (ZkL l (i+1)) (heM S d g (he1 d q l[i]) v w u' (Zkx X.1 X.2.1 X.2.2.1 X.2.2.2)):=by
 have hw:=zB (i:=i) (by omega);have hci:(i:Int)<l.length:=by omega
 have kX:(zb l)[i]?=some (ZjO l[i]):=Zif h1;generalize l[i]=x at *;obtain⟨c,es⟩:=q;have hC:=ZiY S d g c es v w u hn x.st;have hG:∀(M:Mem),M[2]?=some (mpB c es u)->znp M false true (.a [.jc,.jc,.jc]) [.c (.map 2 true),.c (.int .i64 x.st)]=_:=fun M h=>Zih h x.st _
 have hq:=ho x.st;simp only[ZjO]at kX;unfold he1;cases hb:Zjv d x.st with
 |false =>
  rw[hb]at hC;refine⟨u,⟨jm _,fun _=>by simp⟩,?_⟩;simp only[jG,if_false];obtain⟨s0,s1,s2,s3,s4,n,ini,p⟩:=g;rw[ZfM zn2.eq_1];cases hf:znB x.st es with
  |none =>
   rw[hf]at hG;cases ini<;>simp[ndM,ndC,rgC,mpB,bxv]at hC<;>simp[hci,hw,kX,hC,hG,Zly,-Int.natCast_add]
  |some y =>
   rw[hf]at hG;cases ini<;>simp[ndM,ndC,rgC,mpB,bxv]at hC<;>simp[hci,hw,kX,hC,hG,Zly,-Int.natCast_add]
 |true =>
  rw[hb]at hC;refine⟨u+1,⟨kO u,fun h=>absurd h (by omega)⟩,?_⟩;simp only[if_true];obtain⟨s0,s1,s2,s3,s4,n,ini,p⟩:=g;rw[ZfM zn2.eq_1];unfold Ziq at hq ⊢;cases hf:znB x.st es with
  |none =>
   rw[hf]at hG;have hK:=Zij [] (by decide);have hP:∀(M:Mem),M[2]?=some (mpB c es u)->zoJ M true [.c (.map 2 true),.c (.int .i64 x.st),.a [.jb (zb [x]),.jb (zb []),.jb (ZlG [])]]=_:=fun M h=>ZhM h x.st ⟨[x],[],[]⟩
   simp only[Zie,ZiU,ZiT]at hP hK;simp only[Ai,je];generalize ZiZ x.st ⟨[x],[],[]⟩ (c,es)=z at *;obtain⟨c',es'⟩:=z;cases ini<;>simp[ndM,ndC,rgC,mpB,bxv]at hC<;>simp[hci,hw,kX,hC,hG,hK,hP,Zig,zX,Zly,-Int.natCast_add]
  |some y =>
   rw[hf]at hG hq;simp only[ul]at hq ⊢;have hK:=Zij y.jO (by omega);have hr:(y.jO.length+1)*24<=140737488355328:=by omega
   have hP:∀(M:Mem),M[2]?=some (mpB c es u)->zoJ M true [.c (.map 2 true),.c (.int .i64 x.st),.a [.jb (zb (y.jO++[x])),.jb (zb y.kd),.jb (ZlG y.j8)]]=_:=fun M h=>ZhM h x.st ⟨y.jO++[x],y.kd,y.j8⟩
   simp only[ZiP,Zie]at hP;generalize ZiZ x.st ⟨y.jO++[x],y.kd,y.j8⟩ (c,es)=z at *;obtain⟨c',es'⟩:=z;cases ini<;>simp[ndM,ndC,rgC,mpB,bxv]at hC<;>simp[hci,hw,kX,hC,hG,hK,hP,hr,Zig,zX,Zly,Zix,Zid,Ziw,Zic,-Int.natCast_add]
abbrev ZkJ(l:List Mrk)(i:Nat):Env:=[(49,.w (W i)),(48,.w (W l.length)),(3,.w (Pt 3)),(47,.w (.c (.jb (zb l)))),(0,.w (Pt 0))]
theorem ZkI{S:StV}(d:NdV)(g:RgV)(q:Int×List Zou)(v w u:Nat)(hn:0<=d.now/\d.now<=1099511627776)(X:Int×List zZP×List Mrk×List Mrk)(l:List Mrk)(hl:l.length<=1000)(i:Nat)(h1:i<l.length)(ho:Zlq 1000 q.2) :
  ∃u',(u<=u'/\(u'=u->he2 d q l[i]=q))/\Y L Cs znM (some [49,48,3,47,0]) 4 (ZkJ l i) (heM S d g q v w u (Zkx X.1 X.2.1 X.2.2.1 X.2.2.2))=Y L Cs znM (some [49,48,3,47,0]) 4 (ZkJ l (i+1)) (heM S d g (he2 d q l[i]) v w u' (Zkx X.1 X.2.1 X.2.2.1 X.2.2.2)):=by
 have hw:=zB (i:=i) (by omega);have hci:(i:Int)<l.length:=by omega
 have kX:(zb l)[i]?=some (ZjO l[i]):=Zif h1;generalize l[i]=x at *;obtain⟨c,es⟩:=q;have hC:=ZiY S d g c es v w u hn x.st;have hG:∀(M:Mem),M[2]?=some (mpB c es u)->znp M false true (.a [.jc,.jc,.jc]) [.c (.map 2 true),.c (.int .i64 x.st)]=_:=fun M h=>Zih h x.st _
 have hq:=ho x.st;simp only[ZjO]at kX;unfold he2;cases hb:Zjv d x.st with
 |false =>
  rw[hb]at hC;refine⟨u,⟨jm _,fun _=>by simp⟩,?_⟩;simp only[jG,if_false];obtain⟨s0,s1,s2,s3,s4,n,ini,p⟩:=g;rw[ZfM znM.eq_1];cases hf:znB x.st es with
  |none =>
   rw[hf]at hG;cases ini<;>simp[ndM,ndC,rgC,mpB,bxv]at hC<;>simp[hci,hw,kX,hC,hG,Zly,-Int.natCast_add]
  |some y =>
   rw[hf]at hG;cases ini<;>simp[ndM,ndC,rgC,mpB,bxv]at hC<;>simp[hci,hw,kX,hC,hG,Zly,-Int.natCast_add]
 |true =>
  rw[hb]at hC;refine⟨u+1,⟨kO u,fun h=>absurd h (by omega)⟩,?_⟩;simp only[if_true];obtain⟨s0,s1,s2,s3,s4,n,ini,p⟩:=g;rw[ZfM znM.eq_1];unfold Ziq at hq ⊢;cases hf:znB x.st es with
  |none =>
   rw[hf]at hG;have hK:=Zij [] (by decide);have hP:∀(M:Mem),M[2]?=some (mpB c es u)->zoJ M true [.c (.map 2 true),.c (.int .i64 x.st),.a [.jb (zb []),.jb (zb [x]),.jb (ZlG [])]]=_:=fun M h=>ZhM h x.st ⟨[],[x],[]⟩
   simp only[Zie,ZiU,ZiT]at hP hK;simp only[Ai,je];generalize ZiZ x.st ⟨[],[x],[]⟩ (c,es)=z at *;obtain⟨c',es'⟩:=z;cases ini<;>simp[ndM,ndC,rgC,mpB,bxv]at hC<;>simp[hci,hw,kX,hC,hG,hK,hP,Zig,zX,Zly,-Int.natCast_add]
  |some y =>
   rw[hf]at hG hq;simp only[ul]at hq ⊢;have hK:=Zij y.kd (by omega);have hr:(y.kd.length+1)*24<=140737488355328:=by omega
   have hP:∀(M:Mem),M[2]?=some (mpB c es u)->zoJ M true [.c (.map 2 true),.c (.int .i64 x.st),.a [.jb (zb y.jO),.jb (zb (y.kd++[x])),.jb (ZlG y.j8)]]=_:=fun M h=>ZhM h x.st ⟨y.jO,y.kd++[x],y.j8⟩
   simp only[ZiP,Zie]at hP;generalize ZiZ x.st ⟨y.jO,y.kd++[x],y.j8⟩ (c,es)=z at *;obtain⟨c',es'⟩:=z;cases ini<;>simp[ndM,ndC,rgC,mpB,bxv]at hC<;>simp[hci,hw,kX,hC,hG,hK,hP,hr,Zig,zX,Zly,Zix,Zid,Ziw,Zic,-Int.natCast_add]
def heD(d:NdV)(y:zZP):NdV:=if Zjv d y.qi then { d with last:=max d.last y.qi } else d
abbrev ZkH(l:List zZP)(i:Nat):Env:=[(82,.w (W i)),(81,.w (W l.length)),(80,.w (.c (.jb (ZlG l)))),(0,.w (Pt 0))]
theorem ZkG{S:StV}(d:NdV)(g:RgV)(q:Int×List Zou)(v w u:Nat)(hn:0<=d.now/\d.now<=1099511627776)(X:Int×List zZP×List Mrk×List Mrk)(l:List zZP)(hl:l.length<=1000)(hse:∀x∈l,x.seen.length<=5000)(hpt:∀x∈l,x.pts.length<=1000)(i:Nat)(h1:i<l.length)(ho:Zlq 1000 q.2) :
  ∃u' v',((u<=u'/\(u'=u->he3 d q l[i]=q))/\(v<=v'/\(v'=v->heD d l[i]=d)))/\Y L Cs znK (some [82,81,80,0]) 4 (ZkH l i) (heM S d g q v w u (Zkx X.1 X.2.1 X.2.2.1 X.2.2.2))=Y L Cs znK (some [82,81,80,0]) 4 (ZkH l (i+1)) (heM S (heD d l[i]) g (he3 d q l[i]) v' w u' (Zkx X.1 X.2.1 X.2.2.1 X.2.2.2)):=by
 have hw:=zB (i:=i) (by omega);have hci:(i:Int)<l.length:=by omega
 have kX:(ZlG l)[i]?=some (zX6 l[i]):=ZjE h1;have q1:=hse _ (jf h1);have q2:=hpt _ (jf h1);generalize l[i]=x at *;obtain⟨c,es⟩:=q;have hC:=ZiY S d g c es v w u hn x.qi;have hG:∀(M:Mem),M[2]?=some (mpB c es u)->znp M false true (.a [.jc,.jc,.jc]) [.c (.map 2 true),.c (.int .i64 x.qi)]=_:=fun M h=>Zih h x.qi _
 have hS1:=Zkh x.seen (by omega);have hS2:=Zkb x.pts (by omega);have hq:=ho x.qi;simp only[zX6]at kX;unfold he3 heD;cases hb:Zjv d x.qi with
 |false =>
  rw[hb]at hC;refine⟨u,v,⟨⟨jm _,fun _=>by simp⟩,⟨jm _,fun _=>by simp⟩⟩,?_⟩;simp only[jG,if_false];obtain⟨s0,s1,s2,s3,s4,n,ini,p⟩:=g;rw[ZfM znK.eq_1];cases hf:znB x.qi es with
  |none =>
   rw[hf]at hG;cases ini<;>simp[ndM,ndC,rgC,mpB,bxv]at hC<;>simp[hci,hw,kX,hC,hG,Zly,-Int.natCast_add]
  |some y =>
   rw[hf]at hG;cases ini<;>simp[ndM,ndC,rgC,mpB,bxv]at hC<;>simp[hci,hw,kX,hC,hG,Zly,-Int.natCast_add]
 |true =>
  rw[hb]at hC;refine⟨u+1,v+1,⟨⟨kO u,fun h=>absurd h (by omega)⟩,⟨kO v,fun h=>absurd h (by omega)⟩⟩,?_⟩;simp only[if_true];obtain⟨s0,s1,s2,s3,s4,n,ini,p⟩:=g;rw[ZfM znK.eq_1];unfold Ziq at hq ⊢;cases hf:znB x.qi es with
  |none =>
   rw[hf]at hG;have hK:=ZjJ [] (by decide);have hP:∀(M:Mem),M[2]?=some (mpB c es u)->zoJ M true [.c (.map 2 true),.c (.int .i64 x.qi),.a [.jb (zb []),.jb (zb []),.jb (ZlG [x])]]=_:=fun M h=>ZhM h x.qi ⟨[],[],[x]⟩
   simp only[ZjD,ZiU,ZiT]at hP hK;simp only[Ai,je];generalize ZiZ x.qi ⟨[],[],[x]⟩ (c,es)=z at *;obtain⟨c',es'⟩:=z;cases ini<;>simp[ndM,ndC,rgC,mpB,bxv]at hC<;>simp[hci,hw,kX,hC,hG,hK,hP,hS1,hS2,Zig,zX,Zly,-Int.natCast_add]
  |some y =>
   rw[hf]at hG hq;simp only[ul]at hq ⊢;have hK:=ZjJ y.j8 (by omega);have hr:(y.j8.length+1)*56<=140737488355328:=by omega
   have hP:∀(M:Mem),M[2]?=some (mpB c es u)->zoJ M true [.c (.map 2 true),.c (.int .i64 x.qi),.a [.jb (zb y.jO),.jb (zb y.kd),.jb (ZlG (y.j8++[x]))]]=_:=fun M h=>ZhM h x.qi ⟨y.jO,y.kd,y.j8++[x]⟩
   simp only[ZjN,ZjD]at hP;generalize ZiZ x.qi ⟨y.jO,y.kd,y.j8++[x]⟩ (c,es)=z at *;obtain⟨c',es'⟩:=z;cases ini<;>simp[ndM,ndC,rgC,mpB,bxv]at hC<;>simp[hci,hw,kX,hC,hG,hK,hP,hS1,hS2,hr,Zig,zX,Zly,Zix,Zid,Ziw,Zic,-Int.natCast_add]
def ZjL(d:NdV):NdV:={ d with told:=d.kT,uw:=Pl.uS d.kT 0,kT:=Pl.yx d.kT,now:=d.now+1 }
theorem Zkl(S:StV)(d:NdV){g:RgV}(hg:ZjQ g)(h4:g.na<=4)(c:Int)(es:List Zou)(v w u:Nat)(hn:0<=d.now/\d.now<=1099511627776)(hp:d.kT.length<=1000) :
  R L Cs Zhq [Pt 0] (ndM S d g c es v w u)=some (.w (.c .qT),ndM S (ZjL d) (ZhJ g (Pl.uS d.kT 0)) c es (v+4) (w+2) u):=by
 have hA:=Pl.C5 d.kT hp 0;have hT:=Pl.R_Tail d.kT hp;have hR:=ZkC hg h4 (Pl.uS d.kT 0) w;have hi:=(ZjF h4 (Pl.uS d.kT 0)).2.2.2.2;have hw:IntKind.i64.wrap (d.now+1)=d.now+1:=zTd _ (by omega) (by omega);unfold ZjL;generalize Pl.uS d.kT 0=a at *;generalize Pl.yx d.kT=t at *;generalize ZhJ g a=g' at *;obtain⟨s0,s1,s2,s3,s4,n,ini,p⟩:=g;obtain⟨r0,r1,r2,r3,r4,n',ini',p'⟩:=g';simp only at hi;subst hi;rw[zUa ZiO rfl];cases ini<;>simp[ndM,ndC,rgC,mpB,bxv]at hR<;>simp[ZhA,hA,hT,hR,hw,zX,Zly]
def ZiF(S:StV)(d:NdV):NdV:={ d with mode:=if S.vJ<d.now-d.last then 2 else d.mode,looked:=0 }
theorem ZjV(S:StV)(d:NdV)(g:RgV)(c:Int)(es:List Zou)(v w u:Nat)(hn:0<=d.now/\d.now<=1099511627776)(hl:0<=d.last/\d.last<=1099511627776) :
  ∃v',v<v'/\R L Cs ZhK [Pt 0] (ndM S d g c es v w u)=some (.w (.c (.fn (if(ZiF S d).mode=1 then ZhB else Zhq) [.ptr 0 0 0 0] [])),ndM S (ZiF S d) g c es v' w u):=by
 have hw:IntKind.i64.wrap (d.now-d.last)=d.now-d.last:=zTd _ (by omega) (by omega);unfold ZiF;obtain⟨s0,s1,s2,s3,s4,n,ini,p⟩:=g;rw[zUa Ziv rfl];by_cases h1:S.vJ<d.now-d.last
 ·refine⟨v+2,by omega,?_⟩;simp only[h1,if_true];cases ini<;>simp[Zhk,hw,h1,Zly]
 ·refine⟨v+1,by omega,?_⟩;simp only[h1,if_false];by_cases h2:d.mode=1
  ·cases ini<;>simp[Zhk,hw,h1,h2,Zly]
  ·cases ini<;>simp[Zhk,hw,h1,h2,Zly]
open Go Go.Eng Go.PlanLaw
theorem zLx{c:zK8}{w:Int}:∀{n:Nat} {s:Drv},0<=s.v/\s.v<=2000->0<=(Drv.uI c w n s).v/\(Drv.uI c w n s).v<=2000
 |0,s,h=>h
 |n+1,s,h=>zLx (n:=n) (zG1 s.v _)
theorem zMg:∀{q:List Int} {s:Drv},0<=s.v/\s.v<=2000->0<=(Drv.queue q s).v/\(Drv.queue q s).v<=2000
 |[],s,h=>h
 |x::q,s,h=>zMg (q:=q) (zG1 s.v _)
theorem zOt{c:zK8}(hc:c.ok)(q:List Int)(last v:Int)(up hold:Nat)(hv:0<=v/\v<=2000):(zJ2 c q last v up hold).length<=115+up+hold:=by
 unfold zJ2;have h1:=zMg (q:=q.take 5) (s:=Drv.mk last v []) hv;have h2:=zLx (c:=c) (w:=c.qN) (n:=up) h1;have h3:=zLx (c:=c) (w:=0) (n:=hold) h2;have hl1:(Drv.queue (q.take 5) (Drv.mk last v [])).l.length=(q.take 5).length:=by rw[Drv.Be];simp
 have hl2:=Drv.Ae (c:=c) (w:=c.qN) (n:=up) (s:=Drv.queue (q.take 5) (Drv.mk last v []));have hl3:=Drv.Ae (c:=c) (w:=0) (n:=hold) (s:=Drv.uI c c.qN up (Drv.queue (q.take 5) (Drv.mk last v [])));generalize Drv.uI c 0 hold (Drv.uI c c.qN up (Drv.queue (q.take 5) (Drv.mk last v [])))=s at *;have h4:=(zMs hc s.last s.v h3.1 h3.2).2.2;have h5:(q.take 5).length<=5:=by simp;omega
 simp only[jz];omega
theorem zNC{c:zK8}{l:List Int}(h:uK c l=0):(∀a∈l,zk0 a)/\l.length<=200/\l≠[]:=by
 obtain⟨hc,hne,hl⟩:=zVR h;refine⟨?_,hl,hne⟩;unfold uK at h;rw[if_neg (by simp[hc]),if_neg (by simpa using hne),if_neg (by omega)]at h;split at h
 ·cases h
 split at h
 ·cases h
 rename_i hb;have hb:l.any (zLD c)=false:=by simpa using hb
 intro a ha;have h1:=yZ.1 hb a ha;obtain⟨q1,q2,q3,q4,q5,q6,q7,q8,q9,q10⟩:=hc;simp[zLD]at h1;constructor<;>omega
theorem zNa{c:zK8}(hc:c.ok)(q:List Int)(last v:Int)(hv:0<=v/\v<=2000):∀p∈Pl.yp c q last v,p.length<=200:=by
 intro p hp;have h:=fun up hold=>zOt hc q last v up hold hv
 simp only[Pl.yp,jK,qf,or_false]at hp;rcases hp with rfl|rfl|rfl|rfl|rfl|rfl|rfl|rfl
 ·have:=h 6 4;omega
 ·have:=h 6 0;omega
 ·have:=h 3 4;omega
 ·have:=h 3 0;omega
 ·have:=h 1 4;omega
 ·have:=h 1 0;omega
 ·have:=h 0 4;omega
 ·have:=h 0 0;omega
def zK5(kH:Int)(ok:List Int->Bool):List (List Int)->Nat->Int×Int
 |[],i=>(-1,i)
 |p::t,i=>if kH<=i then(-1,i) else if ok p=true then(i,(i+1:Nat)) else zK5 kH ok t (i+1)
def okC(m:zD)(zs:List Zon)(ss:List Sgn)(r:List Int)(c:zK8)(k:zci)(signals able:Bool)(p:List Int):Bool:=able&&decide (uK c p=0)&&(zNw m zs ss r c.len k p signals).1
abbrev zLh(m:zD)(c:zK8)(k:zci):Mem:=[bx 5 (zf m),bx 5 (Pl.kR c),bx 6 (zG k),bx 1 [.jc]]
abbrev seE(J:WV)(l:List (List Int))(kH:Int)(signals able:Bool)(i:Nat):Env:=[(51,.w (W i)),(50,.w (W l.length)),(49,.w (.c (.jb (Pl.uB l)))),(6,.w (W kH)),(7,.w (Bo signals)),(11,.w (Pt 2)),(23,.w J),(10,.w (Pt 1)),(22,.w (Bo able)),(21,.w (W (-1))),(19,.w (.c (.jb (Pl.uB l)))),(20,.w (W i)),(16,.w (Pt 3))]
def SeX(E:Env)(T:Mem)(l:List (List Int))(x:Int×Int):Prop:=(T=[]\/∃p,T=[bxv 1 1 [.jb (zu p)]])/\E.get 21=some (.w (W x.1))/\E.get 20=some (.w (W x.2))/\E.get 19=some (.w (.c (.jb (Pl.uB l))))/\E.get 16=some (.w (Pt 3))
theorem zOp(m:zD)(zs:List Zon)(ss:List Sgn)(r:List Int)(c:zK8)(k:zci)(signals:Bool)(kH:Int)(l:List (List Int))(hll:l.length<=100):∀(t:List (List Int)) (i:Nat),l.drop i=t->i<=l.length ->
  ∃E T,SeX E T l (zK5 kH (okC m zs ss r c k signals false) t i)/\Y L Cs zIx (some [51,50,49,6,7,11,23,10,22,21,19,20,16]) 4 (seE (.c .kW) l kH signals false i) (zLh m c k)=some (.exit 0,E,zLh m c k++T):=by
 intro t;induction t with
 |nil =>
  intro i hd hi;obtain rfl:=zUb hd hi;refine⟨(52,.w (Bo false))::seE (.c .kW) l kH signals false l.length,[],⟨.inl rfl,rfl,rfl,rfl,rfl⟩,?_⟩;rw[ZfM zIx.eq_1];simp
 |cons p t ih =>
  intro i hd hi;obtain⟨hil,hx,hd'⟩:=zL hd;have hw:=zB (i:=i) (by omega);unfold zK5;by_cases c1:kH<=(i:Int)
  ·rw[if_pos c1];refine⟨[(58,.w (Bo true)),(24,.w (W i)),(51,.w (W i)),(50,.w (W l.length)),(49,.w (.c (.jb (Pl.uB l)))),(6,.w (W kH)),(7,.w (Bo signals)),(11,.w (Pt 2)),(23,.w (.c .kW)),(10,.w (Pt 1)),(22,.w (Bo false)),(25,.w (Pt 4)),(21,.w (W (-1))),(19,.w (.c (.jb (Pl.uB l)))),(20,.w (W i)),(16,.w (Pt 3))],[bxv 1 1 [.jb (zu p)]],⟨.inr ⟨p,rfl⟩,rfl,rfl,rfl,rfl⟩,?_⟩;rw[ZfM zIx.eq_1];simp (maxSteps:=1000000) [seE,zLh,jC,zox,zh,zi,zf,zG,own,zJY,zJ4,Pl.kR,Pl.uB,hil,hx,hw,c1,zg,zH]
  ·rw[if_neg c1,if_neg (by simp[okC])];obtain⟨E,T,h1,h2⟩:=ih (i+1) hd' hil;refine⟨E,T,h1,?_⟩;rw[<-h2,ZfM zIx.eq_1];clear h2 ih;simp (maxSteps:=1000000) [seE,zLh,jC,zox,zh,zi,zf,zG,own,zJY,zJ4,Pl.kR,Pl.uB,hil,hx,hw,c1,zg,zH]
abbrev zNM(m:zD)(r:List Int)(len:Int)(ps:List Pss)(vs:List Vis)(u:Nat)(was NW:List Cl)(SW:Cl):Mem:=[bxv u 26 (jC m r len ps (.slice 5 vs.length 10 0 vs.length none) was NW SW),some (Go.Eng.own 10 (zKt vs))]
abbrev zNL(m:zD)(r:List Int)(len:Int)(ps:List Pss)(vs:List Vis)(u:Nat)(was NW:List Cl)(SW:Cl):Mem:=[bxv u 26 (jC m r len ps .jc was NW SW)]
abbrev zV0(qq:Nat)(m:zD)(r:List Int)(len:Int)(ps:List Pss)(vs:List Vis)(u:Nat)(was NW:List Cl)(SW:Cl):Mem:=if qq=0 then zNL m r len ps vs u was NW SW else zNM m r len ps vs u was NW SW
theorem zV1{m:zD}{zs:List Zon}{ss:List Sgn}(hF:zKj m zs ss){r:List Int}(hr:zdA m r=0)(c:zK8)(hc:c.ok)(k:zci)(hk:KJ m k)(ht:0<=k.tick/\k.tick<=1099511627776)(signals:Bool)(kH:Int)(vs:List Vis)(hvs:vs=pvV m zs r)(qq:Nat)(hq0:qq=0/\vs=[]\/qq=1/\vs≠[])(l:List (List Int))(hll:l.length<=100)(hl:∀p∈l,p.length<=1000):∀(t:List (List Int)) (i u:Nat) (WAS NW:List Cl) (SW:Cl),zMo WAS->zKq NW SW->l.drop i=t->i<=l.length ->
  ∃E T u' Cx NW' SW',zMo Cx/\zKq NW' SW'/\SeX E T l (zK5 kH (okC m zs ss r c k signals true) t i)/\Y L Cs zIx (some [51,50,49,6,7,11,23,10,22,21,19,20,16]) (qq+5) (seE (.c (.ptr 4 0 0 0)) l kH signals true i) (zLh m c k++zV0 qq m r c.len (zKh m zs 0 r) vs u WAS NW SW)=some (.exit 0,E,zLh m c k++zV0 qq m r c.len (zKh m zs 0 r) vs u' Cx NW' SW'++T):=by
 intro t;induction t with
 |nil =>
  intro i u WAS NW SW oW oS hd hi;obtain rfl:=zUb hd hi;refine⟨(52,.w (Bo false))::seE (.c (.ptr 4 0 0 0)) l kH signals true l.length,[],u,WAS,NW,SW,oW,oS,⟨.inl rfl,rfl,rfl,rfl,rfl⟩,?_⟩;rw[ZfM zIx.eq_1];simp
 |cons p t ih =>
  intro i u WAS NW SW oW oS hd hi;obtain⟨hil,hx,hd'⟩:=zL hd;have hpl:p∈l:=by rw[<-hx];exact jf hil
  have hw:=zB (i:=i) (by omega);have hC:=Pl.Cy c p (hl p hpl);have hcl:0<=c.len/\c.len<=20000:=by have:=hc.1;have:=hc.2.1;omega
  simp only[Pl.kR]at hC;unfold zK5;by_cases c1:kH<=(i:Int)
  ·rw[if_pos c1];clear ih;refine⟨[(58,.w (Bo true)),(24,.w (W i)),(51,.w (W i)),(50,.w (W l.length)),(49,.w (.c (.jb (Pl.uB l)))),(6,.w (W kH)),(7,.w (Bo signals)),(11,.w (Pt 2)),(23,.w (.c (.ptr 4 0 0 0))),(10,.w (Pt 1)),(22,.w (Bo true)),(25,.w (Pt (qq+5))),(21,.w (W (-1))),(19,.w (.c (.jb (Pl.uB l)))),(20,.w (W i)),(16,.w (Pt 3))],[bxv 1 1 [.jb (zu p)]],u,WAS,NW,SW,oW,oS,⟨.inr ⟨p,rfl⟩,rfl,rfl,rfl,rfl⟩,?_⟩;rw[ZfM zIx.eq_1];rcases hq0 with⟨rfl,-⟩ |⟨rfl,-⟩<;>rcases oW with rfl |⟨kw,rfl⟩<;>rcases oS with⟨rfl,rfl⟩ |⟨k0,x,rfl,rfl⟩<;>simp (maxSteps:=1000000) [seE,zLh,zV0,zNM,zNL,jC,zox,zh,zi,zf,zG,own,zJY,zJ4,Pl.kR,Pl.uB,hil,hx,hw,c1,zg,zH]
  ·rw[if_neg c1];by_cases c2:uK c p=0
   ·obtain⟨hin,hp2,hne⟩:=zNC c2;rw[c2]at hC;obtain⟨u',W',N',S',oW',oS',hu,h4⟩:=zL8 hF hr c.len hcl signals p hin (by omega) u k WAS NW SW hk ht oW oS hne;have hok:okC m zs ss r c k signals true p=(zNw m zs ss r c.len k p signals).1:=by simp[okC,c2]
    rw[hok];rw[<-hvs]at h4;generalize zNw m zs ss r c.len k p signals=y at *;obtain⟨y1,y2,y3⟩:=y;simp only[zJ3,zVW hq0]at h4;cases y1 with
    |true =>
     clear ih;rw[if_pos rfl];refine⟨[(21,.w (W i)),(19,.w (.c (.jb (Pl.uB l)))),(20,.w (W (i+1:Nat))),(16,.w (Pt 3))],[bxv 1 1 [.jb (zu p)]],u',W',N',S',oW',oS',⟨.inr ⟨p,rfl⟩,rfl,rfl,rfl,rfl⟩,?_⟩;rw[ZfM zIx.eq_1];rcases hq0 with⟨rfl,-⟩ |⟨rfl,-⟩<;>rcases oW with rfl |⟨kw,rfl⟩<;>rcases oS with⟨rfl,rfl⟩ |⟨k0,x,rfl,rfl⟩<;>rcases oW' with rfl |⟨kw',rfl⟩<;>rcases oS' with⟨rfl,rfl⟩ |⟨k0',x',rfl,rfl⟩<;>simp only[jQ,↓reduceIte,jF,Nat.reduceAdd,jC,zox,zh,zi,zf,zG,own,zJY,zJ4,Pl.kR,Pl.uB,zJZ,ji,je]at h4<;>simp (maxSteps:=1000000) [seE,zLh,zV0,zNM,zNL,jC,zox,zh,zi,zf,zG,own,zJY,zJ4,Pl.kR,Pl.uB,hil,hx,hw,c1,hC,h4,hu,zg,zH]
    |false =>
     rw[if_neg (by simp)];obtain⟨E,T,u2,W2,N2,S2,oW2,oS2,h1,h2⟩:=ih (i+1) u' W' N' S' oW' oS' hd' hil;refine⟨E,T,u2,W2,N2,S2,oW2,oS2,h1,?_⟩;rw[<-h2,ZfM zIx.eq_1];clear h1 h2 ih;rcases hq0 with⟨rfl,-⟩ |⟨rfl,-⟩<;>rcases oW with rfl |⟨kw,rfl⟩<;>rcases oS with⟨rfl,rfl⟩ |⟨k0,x,rfl,rfl⟩<;>rcases oW' with rfl |⟨kw',rfl⟩<;>rcases oS' with⟨rfl,rfl⟩ |⟨k0',x',rfl,rfl⟩<;>simp only[jQ,↓reduceIte,jF,Nat.reduceAdd,jC,zox,zh,zi,zf,zG,own,zJY,zJ4,Pl.kR,Pl.uB,zJZ,ji,je]at h4<;>simp (maxSteps:=1000000) [seE,zLh,zV0,zNM,zNL,jC,zox,zh,zi,zf,zG,own,zJY,zJ4,Pl.kR,Pl.uB,hil,hx,hw,c1,hC,h4,hu,zg,zH]
   ·have hb:(uK c p==0)=false:=by simpa using c2
    have hok:okC m zs ss r c k signals true p=false:=by simp[okC,c2]
    rw[hok,if_neg (by simp)];obtain⟨E,T,u2,W2,N2,S2,oW2,oS2,h1,h2⟩:=ih (i+1) u WAS NW SW oW oS hd' hil;refine⟨E,T,u2,W2,N2,S2,oW2,oS2,h1,?_⟩;rw[<-h2,ZfM zIx.eq_1];clear h1 h2 ih;generalize uK c p=e at *;rcases hq0 with⟨rfl,-⟩ |⟨rfl,-⟩<;>rcases oW with rfl |⟨kw,rfl⟩<;>rcases oS with⟨rfl,rfl⟩ |⟨k0,x,rfl,rfl⟩<;>simp (maxSteps:=1000000) [seE,zLh,zV0,zNM,zNL,jC,zox,zh,zi,zf,zG,own,zJY,zJ4,Pl.kR,Pl.uB,hil,hx,hw,c1,hC,hb,zg,zH]
theorem zOd(kH:Int)(ok:List Int->Bool):∀(t:List (List Int)) (i:Nat),(zK5 kH ok t i).1=-1\/((i:Int)<=(zK5 kH ok t i).1/\(zK5 kH ok t i).1<i+t.length)
 |[],i=>.inl rfl
 |p::t,i=>by
  unfold zK5;split
  ·exact .inl rfl
  ·split
   ·refine .inr ⟨by simp,by simp;omega⟩
   ·rcases zOd kH ok t (i+1)with h|h
    ·exact .inl h
    ·refine .inr ⟨by omega,by simp only[jl];omega⟩
abbrev zLj(c:zK8)(q:List Int)(last:Int)(k:zci):List (List Int):=Pl.yp c q last (max 0 (min k.ego.vhi 2000))
def zMT(l:List (List Int))(f:Int):List Int:=if f<0 then [] else l.getD f.toNat []
def zOU(m:zD)(zs:List Zon)(ss:List Sgn)(r:List Int)(c:zK8)(k:zci)(q:List Int)(last kH:Int)(signals:Bool):Int×Int :=
 zK5 kH (okC m zs ss r c k signals (zKW m r c k)) (zLj c q last k) 0
theorem zPl{m:zD}{zs:List Zon}{ss:List Sgn}(hF:zKj m zs ss)(r:List Int)(hl:r.length<=1000)(c:zK8)(hc:c.ok)(k:zci)(hk:k.jU.length<=100000000000)(q:List Int)(hq:q.length<=5)(last kH:Int)(signals:Bool) :
  R L Cs zMZ [.a (zf m),.c (.jb (zu r)),.a (Pl.kR c),.a (zG k),.c (.jb (zu q)),W last,W kH,Bo signals] [] =
    some (.t [.a [.jb (zu (zMT (zLj c q last k) (zOU m zs ss r c k q last kH signals).1))],W (zOU m zs ss r c k q last kH signals).2,Bo (decide (0<=(zOU m zs ss r c k q last kH signals).1))],[]):=by
 have h1:=zPi hF r hl c k hk;have h2:=Pl.Cf hc q hq last k.ego.vhi;have hin:=zOd kH (okC m zs ss r c k signals (zKW m r c k)) (zLj c q last k) 0;have hlen:(zLj c q last k).length=8:=rfl;have hlenI:((zLj c q last k).length:Int)=8:=rfl;have hpl:=zNa hc q last (max 0 (min k.ego.vhi 2000)) (by omega);unfold zOU;by_cases d1:zKW m r c k=true
 ·obtain⟨hr,_,_,hck⟩:=zNz d1;have hke:=zte hck;have hkj:=zPP hF.full.qO hck;obtain⟨u,h3⟩:=zMM hF hr c.len;rw[show zKE (zKh m zs 0 r) 0 zs.length=pvV m zs r from rfl]at h3;rw[d1]at h1 hin ⊢;obtain⟨qq,hq0⟩:∃qq,qq=0/\pvV m zs r=[]\/qq=1/\pvV m zs r≠[]:=by
   by_cases h0:pvV m zs r=[]
   ·exact⟨0,.inl ⟨rfl,h0⟩⟩
   ·exact⟨1,.inr ⟨rfl,h0⟩⟩
  obtain⟨E,T,u',W',N',S',oW,oS,⟨hT,g1,g2,g3,g4⟩,hL⟩:=zV1 hF hr c hc k hkj (by omega) signals kH (pvV m zs r) rfl qq hq0 (zLj c q last k) (by omega) (fun p hp=>by have:=hpl p hp;omega) (zLj c q last k) 0 u zox zox .jc (.inl rfl) (.inl ⟨rfl,rfl⟩) rfl (jp _);simp only[zJ3,zVW hq0]at h3;simp only[zLj]at *;generalize pvV m zs r=vs at *;generalize zKh m zs 0 r=ps at *;generalize zK5 kH (okC m zs ss r c k signals true) (Pl.yp c q last (max 0 (min k.ego.vhi 2000))) 0=y at *;generalize Pl.yp c q last (max 0 (min k.ego.vhi 2000))=ws at *;obtain⟨f,n⟩:=y;simp only at g1 g2 g3 g4 hin ⊢;rcases hq0 with⟨rfl,-⟩ |⟨rfl,-⟩
  all_goals
   simp only[jQ,↓reduceIte,jF,Nat.reduceAdd,zf,zG,Pl.kR,Pl.uB,jC,zox,zh,zi,own,zJZ,ji,je,seE,zLh,zV0,zNM,zNL,hlenI,jg]at h1 h2 h3 hL g3;rw[zUa zLc rfl];rcases hin with rfl |⟨i1,i2⟩
   ·rcases hT with rfl |⟨p,rfl⟩<;>simp (maxSteps:=1000000) [zIS,zMT,zf,zG,Pl.kR,h1,h2,h3,hL,g1,g2,g3,g4,hlen,zg,zH]
   ·obtain⟨j,rfl⟩:∃j:Nat,f=j:=⟨f.toNat,by omega⟩;have j1:¬(j:Int)<0:=by omega
    have j2:(0:Int)<=j:=by omega
    have j3:j<ws.length:=by omega
    have j4:j<8:=by omega
    have j5:(j:Int)<8:=by omega
    rcases hT with rfl |⟨p,rfl⟩<;>simp (maxSteps:=1000000) [zIS,zMT,zf,zG,Pl.kR,h1,h2,h3,hL,g1,g2,g3,g4,hlen,j1,j2,j3,j4,j5,zg,zH]
 ·have d1:zKW m r c k=false:=by simpa using d1
  rw[d1]at h1 hin ⊢;obtain⟨E,T,⟨hT,g1,g2,g3,g4⟩,hL⟩:=zOp m zs ss r c k signals kH (zLj c q last k) (by omega) (zLj c q last k) 0 rfl (jp _);simp only[zLj]at *;generalize zK5 kH (okC m zs ss r c k signals false) (Pl.yp c q last (max 0 (min k.ego.vhi 2000))) 0=y at *;generalize Pl.yp c q last (max 0 (min k.ego.vhi 2000))=ws at *;obtain⟨f,n⟩:=y;simp only at g1 g2 g3 g4 hin ⊢;simp only[zf,zG,Pl.kR,Pl.uB,ji,je,seE,zLh,hlenI,jg]at h1 h2 hL g3;rw[zUa zLc rfl];rcases hin with rfl |⟨i1,i2⟩
  ·rcases hT with rfl |⟨p,rfl⟩<;>simp (maxSteps:=1000000) [zIS,zMT,zf,zG,Pl.kR,h1,h2,hL,g1,g2,g3,g4,hlen,zg,zH]
  ·obtain⟨j,rfl⟩:∃j:Nat,f=j:=⟨f.toNat,by omega⟩;have j1:¬(j:Int)<0:=by omega
   have j2:(0:Int)<=j:=by omega
   have j3:j<ws.length:=by omega
   have j4:j<8:=by omega
   have j5:(j:Int)<8:=by omega
   rcases hT with rfl |⟨p,rfl⟩<;>simp (maxSteps:=1000000) [zIS,zMT,zf,zG,Pl.kR,h1,h2,hL,g1,g2,g3,g4,hlen,j1,j2,j3,j4,j5,zg,zH]
def Zh2(d:NdV)(n:Nat):List Int:=(List.range n).map fun(i:Nat)=>Pl.uS d.kT (i:Int)
theorem Zkw(d:NdV)(n:Nat):Zh2 d (n+1)=Zh2 d n++[Pl.uS d.kT n]:=by simp[Zh2,List.range_succ]
theorem ZjG(d:NdV)(n:Nat):(Zh2 d n).length=n:=by simp[Zh2]
theorem Zkm(S:StV)(d:NdV)(g:RgV)(c:Int)(es:List Zou)(v w u:Nat)(hp:d.kT.length<=1000)(D:Nat)(hD:D<=5):∀(f i:Nat),i+f=D ->
  Y L Cs Zhj (some [3,14,13,0]) 4 [(3,.w (.c (sl 3 1 (zu (Zh2 d i))))),(14,.w (W i)),(13,.w (W D)),(0,.w (Pt 0))] (ndM S d g c es v w u++[some (own 1 (zu (Zh2 d i)))]) =
    some (.exit 0,[(15,.w (Bo false)),(3,.w (.c (sl 3 1 (zu (Zh2 d D))))),(14,.w (W D)),(13,.w (W D)),(0,.w (Pt 0))],ndM S d g c es v w u++[some (own 1 (zu (Zh2 d D)))])
 |0,i,h=>by
  obtain rfl:i=D:=by omega
  obtain⟨s0,s1,s2,s3,s4,n,ini,p⟩:=g;rw[ZfM Zhj.eq_1];cases ini<;>simp[Zly]
 |f+1,i,h=>by
  have ih:=Zkm S d g c es v w u hp D hD f (i+1) (by omega);have hw:=zB (i:=i) (by omega);have hci:(i:Int)<D:=by omega
  have hA:=Pl.C5 d.kT hp i;have hq:=ZjG d i;have hr:((Zh2 d i).length+1)*8<=140737488355328:=by omega
  rw[<-ih,Zkw];generalize Pl.uS d.kT (i:Int)=a at *;generalize Zh2 d i=q at *;obtain⟨s0,s1,s2,s3,s4,n,ini,p⟩:=g;rw[ZfM Zhj.eq_1];cases ini<;>simp[hci,hw,hA,hr,zX,Zly,-Int.natCast_add]
def Zkd(S:StV)(zs:List Zon)(ss:List Sgn)(d:NdV):Int×Int:=zOU S.m zs ss S.r S.car d.qC (Zh2 d S.car.ub.toNat) d.uw S.kH S.sig
def ZiG(S:StV)(zs:List Zon)(ss:List Sgn)(d:NdV):NdV:={ d with looked:=(Zkd S zs ss d).2,kT:=if 0<=(Zkd S zs ss d).1 then zMT (zLj S.car (Zh2 d S.car.ub.toNat) d.uw d.qC) (Zkd S zs ss d).1 else d.kT }
theorem ZjR{S:StV}{zs:List Zon}{ss:List Sgn}(hS:z6u S zs ss)(d:NdV)(g:RgV)(c:Int)(es:List Zou)(v w u:Nat)(hp:d.kT.length<=1000)(hk:d.qC.jU.length<=100000000000) :
  ∃v',v<v'/\R L Cs ZhB [Pt 0] (ndM S d g c es v w u)=some (.w (.c (.fn Zhq [.ptr 0 0 0 0] [])),ndM S (ZiG S zs ss d) g c es v' w u):=by
 obtain⟨q1,q2,q3,q4,q5,q6,q7,q8,q9,q10⟩:=hS.car;obtain⟨D,hD⟩:=jB q9;have hr2:=zlP hS.full.full.yn hS.vU;have hL:=Zkm S d g c es v w u hp D (by omega) D 0 (by omega);have hS2:=zPl hS.full S.r (by omega) S.car hS.car d.qC hk (Zh2 d D) (by rw[ZjG];omega) d.uw S.kH S.sig;have hql:=ZjG d D;have htk:(zu (Zh2 d D)).take D=zu (Zh2 d D):=jA (by simp[hql]);unfold ZiG Zkd;have eD:S.car.ub.toNat=D:=by rw[hD];rfl
 rw[eD];have q0:Zh2 d 0=[]:=rfl;generalize zOU S.m zs ss S.r S.car d.qC (Zh2 d D) d.uw S.kH S.sig=y at *;generalize zLj S.car (Zh2 d D) d.uw d.qC=z at *;obtain⟨f,n⟩:=y;simp only at hS2 ⊢;simp only[q0,ndM,ji,je,jg,zay,sl,own,jo,zfq,hql]at hL;simp only[zf,Pl.kR,zG,hD]at hS2;obtain⟨s0,s1,s2,s3,s4,na,ini,p⟩:=g;by_cases hf:0<=f
 ·refine⟨v+2,by omega,?_⟩;simp only[hf,if_true,decide_true]at hS2 ⊢;rw[zUa ZhH rfl];cases ini<;>simp[Zho,hL,hS2,hD,htk,hql,zX,Zly,zr]
 ·refine⟨v+1,by omega,?_⟩;simp only[hf,if_false,decide_false]at hS2 ⊢;rw[zUa ZhH rfl];cases ini<;>simp[Zho,hL,hS2,hD,htk,hql,zX,Zly,zr]
structure KB(m:zD)(k:zci):Prop where
 nd:KNd m k
 far:k.ego.shi<=1000000000+2000*k.tick
 few:k.tick<=100000
theorem KB.step{S:StV}{zs:List Zon}{ss:List Sgn}(hS:z6u S zs ss){k:zci}(h:KB S.m k)(ht:k.tick<100000)(a:Int):KB S.m (ZhP S zs ss k a)/\(ZhP S zs ss k a).tick=k.tick+1:=by
 have hd:=zLs hS.full.full.qO hS.vU h.nd.j.ego a;have hf:=h.far;have h0:=h.nd.t;have e:(ZhP S zs ss k a).ego=zaN S.m S.r k.ego a:=rfl;have et:(ZhP S zs ss k a).tick=k.tick+1:=rfl;have hj:=zNm hS.full.full hS.vU S.car.len S.sig h.nd.j a (show(zaN S.m S.r k.ego a).shi<=1099511627776 by omega);exact⟨⟨⟨hj,by rw[et];omega⟩,by rw[e,et];omega,by rw[et];omega⟩,et⟩
theorem ZjY:∀(l:List Mrk) (k:zci) (b:Bool),(ZhZ l (k,b)).1.ego.shi=k.ego.shi
 |[],k,b=>rfl
 |x::l,k,b=>by
  show(ZhZ l ((z9f k x.st x.lo x.hi).1,b&&(z9f k x.st x.lo x.hi).2)).1.ego.shi=_;rw[ZjY l];exact(ZhO k x.st x.lo x.hi).2.2.2
theorem Zka:∀(l:List Mrk) (k:zci) (b:Bool),(Zis l (k,b)).1.ego.shi<=k.ego.shi
 |[],k,b=>jR _
 |x::l,k,b=>by
  show(Zis l ((Zag k x.st x.lo x.hi).1,b&&(Zag k x.st x.lo x.hi).2)).1.ego.shi<=_;refine Int.le_trans (Zka l _ _) ?_;unfold Zag
  (repeat' split)<;>simp only<;>omega
theorem ZjZ(S:StV):∀(l:List zZP) (k:zci) (b:Bool),(ZiH S l (k,b)).1.ego=k.ego
 |[],k,b=>rfl
 |x::l,k,b=>by
  show(ZiH S l (Zhv S (Zib S.m k x),b&&ZiS S.m (Zhv S (Zib S.m k x)) x.pts)).1.ego=_;rw[ZjZ S l];rfl
theorem ZkN(S:StV)(q:Option Hrd)(k:zci):(znE S q k).1.ego.shi<=k.ego.shi:=by
 cases q with
 |none=>exact jR _
 |some y =>
  have e:(znE S (some y) k).1.ego=(Zis y.kd (ZhZ y.jO (k,true))).1.ego:=ZjZ S y.j8 _ _;rw[e];refine Int.le_trans (Zka y.kd _ _) ?_;exact Int.le_of_eq (ZjY y.jO k true)
theorem KB.AS{S:StV}{k:zci}(h:KB S.m k)(q:Option Hrd):KB S.m (znE S q k).1/\(znE S q k).1.tick=k.tick:=by
 obtain⟨h1,h2⟩:=h.nd.AS q;have:=ZkN S q k;have:=h.far;have:=h.few;exact⟨⟨h1,by rw[h2];omega,by rw[h2];omega⟩,h2⟩
def chN(S:StV)(zs:List Zon)(ss:List Sgn)(es:List Zou)(l:List Int)(x:zci×Bool):zci×Bool :=
 l.foldl (fun q a=>((znE S (znB (q.1.tick+1) es) (ZhP S zs ss q.1 a)).1,q.2&&(znE S (znB (q.1.tick+1) es) (ZhP S zs ss q.1 a)).2)) x
def Zir(g:RgV):Nat->Int
 |0=>g.s0
 |1=>g.s1
 |2=>g.s2
 |3=>g.s3
 |_=>g.s4
theorem ZkB{g:RgV}(h:g.na<=5){i:Nat}(hi:i<g.na):g.jM.drop i=Zir g i::g.jM.drop (i+1):=by
 obtain⟨s0,s1,s2,s3,s4,n,ini,p⟩:=g;simp only at h hi;unfold RgV.jM Zir;rcases n with _|_|_|_|_|_|n
 ·omega
 all_goals first |(exfalso;omega) |(rcases i with _ |_ |_ |_ |_ |i<;>first |rfl |(exfalso;omega))
def Zk8(es:List Zou):Prop:=∀t h,znB t es=some h->Zld h t
theorem ZkP{S:StV}{zs:List Zon}{ss:List Sgn}(hS:z6u S zs ss)(es:List Zou):∀(l:List Int) (k:zci) (b:Bool),KB S.m k->k.tick+l.length<=100000->KB S.m (chN S zs ss es l (k,b)).1/\(chN S zs ss es l (k,b)).1.tick=k.tick+l.length
 |[],k,b,h,ht=>⟨h,by simp[chN]⟩
 |a::l,k,b,h,ht=>by
  simp only[jl]at ht;obtain⟨h1,h2⟩:=h.step hS (by omega) a;obtain⟨h3,h4⟩:=h1.AS (znB (k.tick+1) es);obtain⟨h5,h6⟩:=ZkP hS es l _ (b&&(znE S (znB (k.tick+1) es) (ZhP S zs ss k a)).2) h3 (by rw[h4,h2];omega);refine⟨h5,h6.trans ?_⟩;rw[h4,h2,jl];omega
abbrev fgE(i na:Nat)(A:Cl)(ok:Bool):Env:=[(4,.w (Bo ok)),(29,.w (W i)),(28,.w (W na)),(27,.w (.c A)),(0,.w (Pt 0)),(3,.w (Pt 3))]
theorem Zks{S:StV}{zs:List Zon}{ss:List Sgn}(hS:z6u S zs ss)(d:NdV){g:RgV}(hg:g.na<=5)(hi0:g.ini=false)(ha:∀a∈g.jM,zk0 a)(c:Int)(es:List Zou)(he:Zk8 es)(v w u:Nat):∀(f i:Nat) (k:zci) (ok:Bool) (vk:Nat),i+f=g.na->KB S.m k->k.tick+f<=100000 ->
  ∃vk',Y L Cs Zhc (some [4,29,28,27,0,3]) 4 (fgE i g.na (.bsl 1 0 0 0 1 g.na 5) ok) (ndM S d g c es v w u++[bxv vk 6 (zG k)]) =
   some (.exit 0,(30,.w (Bo false))::fgE g.na g.na (.bsl 1 0 0 0 1 g.na 5) (chN S zs ss es (g.jM.drop i) (k,ok)).2,ndM S d g c es v w u++[bxv vk' 6 (zG (chN S zs ss es (g.jM.drop i) (k,ok)).1)])
 |0,i,k,ok,vk,hf,hk,ht=>by
  obtain rfl:i=g.na:=by omega
  have e:g.jM.drop g.na=[]:=qH (by simp[RgV.jM];omega);rw[e];refine⟨vk,?_⟩;obtain⟨s0,s1,s2,s3,s4,n,ini,p⟩:=g;simp only at hi0;subst hi0;rw[ZfM Zhc.eq_1];simp[chN,Zly]
 |f+1,i,k,ok,vk,hf,hk,ht=>by
  have hin:i<g.na:=by omega
  have e:=ZkB hg hin;have ha0:zk0 (Zir g i):=ha _ (qo (by rw[e];exact jr));obtain⟨k1,k2⟩:=hk.step hS (by omega) (Zir g i);obtain⟨k3,k4⟩:=k1.AS (znB (k.tick+1) es);have h1:=Zkc hS d g c es v w u hk.nd (Zir g i) ha0;have h2:=ZjM hS d g c es v w u k1.nd (fun h hh=>he _ h hh);rw[k2]at h2;obtain⟨vk',ih⟩:=Zks hS d hg hi0 ha c es he v w u f (i+1) (znE S (znB (k.tick+1) es) (ZhP S zs ss k (Zir g i))).1 (ok&&(znE S (znB (k.tick+1) es) (ZhP S zs ss k (Zir g i))).2) (vk+1) (by omega) k3 (by rw[k4,k2];omega);refine⟨vk',?_⟩;have ec:chN S zs ss es (g.jM.drop i) (k,ok)=chN S zs ss es (g.jM.drop (i+1)) ((znE S (znB (k.tick+1) es) (ZhP S zs ss k (Zir g i))).1,ok&&(znE S (znB (k.tick+1) es) (ZhP S zs ss k (Zir g i))).2):=by rw[e];rfl
  rw[ec,<-ih];have hw:=zB (i:=i) (by omega);have hci:(i:Int)<g.na:=by omega
  clear ih ec k1 k2 k3 k4;generalize znE S (znB (k.tick+1) es) (ZhP S zs ss k (Zir g i))=y at *;obtain⟨ky,oy⟩:=y;generalize ZhP S zs ss k (Zir g i)=ks at *;obtain⟨s0,s1,s2,s3,s4,n,ini,p⟩:=g;simp only at hi0 hg hin hci;subst hi0;simp only[zG]at h1 h2;rw[ZfM Zhc.eq_1];simp[ndM,ndC,rgC,mpB,bxv]at h1 h2;have e1:(1:Int)<n<->1<n:=by omega
  have e2:(2:Int)<n<->2<n:=by omega
  have e3:(3:Int)<n<->3<n:=by omega
  have e4:(4:Int)<n<->4<n:=by omega
  rcases i with _|_|_|_|_|i
  case succ.succ.succ.succ.succ=>omega
  all_goals simp only[Zir]at h1
  all_goals have hin':=hin
  all_goals simp (config:={ failIfUnchanged:=false }) only[jF,Nat.reduceAdd]at hin'
  all_goals cases ok<;>simp[fgE,hin',e1,e2,e3,e4,h1,h2,wk1,wk2,wk3,wk4,wk5,zG,Zly,-Int.natCast_add]
def Zkz(S:StV)(zs:List Zon)(ss:List Sgn)(g:RgV)(es:List Zou):zci×Bool:=chN S zs ss es g.jM (znE S (znB g.jV.tick es) g.jV)
theorem Zlo(ok:Bool)(M:Mem):Y L Cs Zhc (some [4,29,28,27,0,3]) 4 [(4,.w (Bo ok)),(29,.w (W 0)),(28,.w (W 0)),(27,.w (.c .jc)),(0,.w (Pt 0)),(3,.w (Pt 3))] M=some (.exit 0,[(30,.w (Bo false)),(4,.w (Bo ok)),(29,.w (W 0)),(28,.w (W 0)),(27,.w (.c .jc)),(0,.w (Pt 0)),(3,.w (Pt 3))],M):=by
 rw[ZfM Zhc.eq_1];simp
theorem Zkj{S:StV}{zs:List Zon}{ss:List Sgn}(hS:z6u S zs ss)(d:NdV){g:RgV}(hg:ZjQ g)(ha:∀a∈g.jM,zk0 a)(hk:KB S.m g.jV)(ht:g.jV.tick+g.na<=100000)(c:Int)(es:List Zou)(he:Zk8 es)(v w u:Nat) :
  R L Cs ZhW [Pt 0] (ndM S d g c es v w u)=some (.w (.c (.fn (if(Zkz S zs ss g es).2 then ZhK else ZiI) [.ptr 0 0 0 0] [])),ndM S { d with qC:=(Zkz S zs ss g es).1 } g c es (v+1) w u):=by
 obtain⟨k1,k2⟩:=hk.AS (znB g.jV.tick es);have h1:=ZjM hS d g c es v w u hk.nd (fun h hh=>he _ h hh);unfold Zkz;cases hi:g.ini with
 |true =>
  have h0:=hg.ini hi;have e:g.jM=[]:=by simp[RgV.jM,h0]
  rw[e];simp only[chN,List.foldl_nil];generalize znE S (znB g.jV.tick es) g.jV=y at *;obtain⟨ky,oy⟩:=y;obtain⟨s0,s1,s2,s3,s4,n,ini,p⟩:=g;simp only at hi h0;subst hi;subst h0;simp only[zG]at h1;rw[zUa ZhX rfl];simp[ndM,ndC,rgC,mpB,bxv]at h1;cases oy<;>simp[Zhr,h1,Zlo,zG,Zly,zr]
 |false =>
  obtain⟨vk',hL⟩:=Zks hS d hg.few hi ha c es he v w u g.na 0 (znE S (znB g.jV.tick es) g.jV).1 (znE S (znB g.jV.tick es) g.jV).2 1 (by omega) k1 (by rw[k2];exact ht);simp only[qd]at hL;generalize znE S (znB g.jV.tick es) g.jV=y at *;obtain⟨ky,oy⟩:=y;simp only at hL;generalize chN S zs ss es g.jM (ky,oy)=z at *;obtain⟨kz,oz⟩:=z;obtain⟨s0,s1,s2,s3,s4,n,ini,p⟩:=g;simp only at hi;subst hi;simp only[zG,fgE,ndM,ji,je,jg]at h1 hL;rw[zUa ZhX rfl];simp[ndC,rgC,mpB,bxv]at h1;cases oz<;>simp[Zhr,h1,hL,zG,Zly,zr]
def ZjP(n:Int)(es:List Zou):List Zou:=match ZiR n es 0 with
 |some (i,_)=>es.eraseIdx i
 |none=>es
theorem Zi0{α β:Type}{f:α->β}:∀(l:List α) (i:Nat),(l.map f).eraseIdx i=(l.eraseIdx i).map f
 |[],_=>rfl
 |_::_,0=>rfl
 |a::l,i+1=>by simp[Zi0 l i]
theorem Zkf{M:Mem}{c:Int}{es:List Zou}{u:Nat}{id:Nat}(h:M[id]?=some (mpB c es u))(n:Int):∃u' fp,(u<=u'/\(u'=u->ZjP n es=es))/\zoK M [.c (.map id true),.c (.int .i64 n)]=some (.t [],M.set id (mpB c (ZjP n es) u'),fp):=by
 unfold zoK ZjP;simp only[Zia h,ZiE,zlW];cases ZiR n es 0 with
 |none =>
  refine⟨u,.no,⟨jm _,fun _=>rfl⟩,?_⟩;simp only[Option.map_none]
  congr 3
  apply qZ;intro k;by_cases hk:id=k
  ·subst hk;rw[kc (jT.1 h).1,h]
  ·rw[jH hk]
 |some q =>
  refine⟨u+1,.wr [(id,0,whole)],⟨kO u,fun h=>absurd h (by omega)⟩,?_⟩;simp[mpB,Zi0]
def Zh0(t:Int)(ks:List Int)(es:List Zou):List Zou:=ks.foldl (fun es k=>if k<t then ZjP k es else es) es
theorem Zgm(S:StV)(d:NdV)(g:RgV)(c:Int)(v w:Nat)(ks:List Int)(hks:ks.length<=1000):∀(r:List Int) (i:Nat) (es:List Zou) (u:Nat),ks.drop i=r->i<=ks.length ->
  ∃u',(u<=u'/\(u'=u->Zh0 g.jV.tick r es=es))/\Y L Cs Zlz (some [62,61,60,0]) 4 [(62,.w (W i)),(61,.w (W ks.length)),(60,.w (.c (.jb (zu ks)))),(0,.w (Pt 0))] (ndM S d g c es v w u++[bx 1 [.map 2 true]]) =
   some (.exit 2,[(63,.w (Bo false)),(62,.w (W ks.length)),(61,.w (W ks.length)),(60,.w (.c (.jb (zu ks)))),(0,.w (Pt 0))],ndM S d g c (Zh0 g.jV.tick r es) v w u'++[bx 1 [.map 2 true]])
 |[],i,es,u,hd,hi=>by
  have e:i=ks.length:=by
   have:=congrArg List.length hd;simp at this;omega
  subst e;refine⟨u,⟨jm _,fun _=>rfl⟩,?_⟩;obtain⟨s0,s1,s2,s3,s4,n,ini,p⟩:=g;rw[ZfM Zlz.eq_1];cases ini<;>simp[Zh0,Zly]
 |x::r,i,es,u,hd,hi=>by
  have h1:i<ks.length:=by
   have:=congrArg List.length hd;simp at this;omega
  have h2:ks[i]=x:=by rw[Go.jx h1]at hd;exact(j6 hd).1
  have h3:ks.drop (i+1)=r:=by rw[Go.jx h1]at hd;exact(j6 hd).2
  have hw:=zB (i:=i) (by omega);have hci:(i:Int)<ks.length:=by omega
  have kX:(zu ks)[i]?=some [I x]:=by simp[zu,h1,h2]
  by_cases hc:x<g.jV.tick
  ·have hM:(ndM S d g c es v w u++[bx 1 [.map 2 true]])[2]?=some (mpB c es u):=rfl;obtain⟨u1,fp,hfp,hD⟩:=Zkf hM x;obtain⟨u',hu,ih⟩:=Zgm S d g c v w ks hks r (i+1) (ZjP x es) u1 h3 (by omega);have e:Zh0 g.jV.tick (x::r) es=Zh0 g.jV.tick r (ZjP x es):=by simp[Zh0,hc]
   refine⟨u',⟨jL hfp.1 hu.1,fun q=>?_⟩,?_⟩
   ·have h5:=hfp.1;have h6:=hu.1;rw[e,hu.2 (by omega)];exact hfp.2 (by omega)
   rw[e,<-ih];clear hfp hu;generalize ZjP x es=es' at *;obtain⟨s0,s1,s2,s3,s4,n,ini,p⟩:=g;simp only[ndM,ji,je,own,zfq]at hD;simp only at hc;rw[ZfM Zlz.eq_1];cases ini<;>simp[hci,h1,h2,hw,hc,hD,Zly,-Int.natCast_add]
  ·obtain⟨u',hu,ih⟩:=Zgm S d g c v w ks hks r (i+1) es u h3 (by omega);have e:Zh0 g.jV.tick (x::r) es=Zh0 g.jV.tick r es:=by simp[Zh0,hc]
   refine⟨u',⟨hu.1,fun q=>by rw[e];exact hu.2 q⟩,?_⟩;rw[e,<-ih];clear hu;obtain⟨s0,s1,s2,s3,s4,n,ini,p⟩:=g;simp only at hc;rw[ZfM Zlz.eq_1];cases ini<;>simp[hci,h1,h2,hw,hc,Zly,-Int.natCast_add]
theorem Zj9(S:StV)(d:NdV)(g:RgV)(c:Int)(es:List Zou)(v w u:Nat)(hn:0<=d.now/\d.now<=1099511627776)(h:¬g.jV.tick<d.now-4):Y L Cs ZlA (some [0]) 3 [(0,.w (Pt 0))] (ndM S d g c es v w u)=some (.exit 0,[(19,.w (Bo false)),(0,.w (Pt 0))],ndM S d g c es v w u):=by
 have hw:IntKind.i64.wrap (d.now-4)=d.now-4:=zTd _ (by omega) (by omega);obtain⟨s0,s1,s2,s3,s4,n,ini,p⟩:=g;simp only at h;rw[ZfM ZlA.eq_1];cases ini<;>simp[hw,h,Zly]
def Zh9(S:StV)(zs:List Zon)(ss:List Sgn)(es:List Zou)(g:RgV):RgV:=ZhL { g with jV:=ZhP S zs ss (znE S (znB g.jV.tick es) g.jV).1 g.s0 }
theorem ZgL{S:StV}{zs:List Zon}{ss:List Sgn}(hS:z6u S zs ss)(d:NdV){g:RgV}(hg:g.na<=5)(h0:0<g.na)(hi:g.ini=false)(ha:zk0 g.s0)(hk:KB S.m g.jV)(ht:g.jV.tick<100000)(c:Int)(es:List Zou)(he:Zk8 es)(v w u:Nat)(hn:0<=d.now/\d.now<=1099511627776)(h:g.jV.tick<d.now-4) :
  Y L Cs ZlA (some [0]) 3 [(0,.w (Pt 0))] (ndM S d g c es v w u)=Y L Cs ZlA (some [0]) 3 [(0,.w (Pt 0))] (ndM S d (Zh9 S zs ss es g) c es v (w+3) u):=by
 have hw:IntKind.i64.wrap (d.now-4)=d.now-4:=zTd _ (by omega) (by omega);obtain⟨k1,k2⟩:=hk.AS (znB g.jV.tick es);have h1:=ZjM hS d g c es v w u hk.nd (fun h hh=>he _ h hh);have h2:=Zkc hS d g c es v w u k1.nd g.s0 ha;have h3:=Zki (g:={ g with jV:=ZhP S zs ss (znE S (znB g.jV.tick es) g.jV).1 g.s0 }) hg h0 hi (w+1);have h4:=(Zjr (g:={ g with jV:=ZhP S zs ss (znE S (znB g.jV.tick es) g.jV).1 g.s0 }) hg h0 hi).2.2.2.2;unfold Zh9;generalize ZhL { g with jV:=ZhP S zs ss (znE S (znB g.jV.tick es) g.jV).1 g.s0 }=g' at *;generalize znE S (znB g.jV.tick es) g.jV=y at *;obtain⟨ky,oy⟩:=y;simp only at h1 h2 h3;generalize ZhP S zs ss ky g.s0=ks at *;obtain⟨s0,s1,s2,s3,s4,n,ini,p⟩:=g;obtain⟨r0,r1,r2,r3,r4,n',ini',p'⟩:=g';simp only at h4 hi h h0 hg;subst h4;subst hi;have hn1:0<n:=h0;simp only[zG]at h1 h2;rw[ZfM ZlA.eq_1];simp[ndM,ndC,rgC,mpB,bxv]at h1 h2 h3;simp[hw,h,h1,h2,h3,hn1,zG,Zly];rfl
theorem ZkS(c:Int)(es:List Zou)(u:Nat):R L Cs Zi1 [.c (.map 0 true)] [mpB c es u]=some (.w (.c (.fn Zhd [] [.ptr 1 0 0 0])),[mpB c es u,bx 1 [.map 0 true]]):=by
 rw[zUa Zjd rfl];simp[ZhC,zr,Zly]
def ZjC(c:Int)(es:List Zou)(ks:List Int):Prop:=∀u,R L Cs Zit [.c (.fn Zhd [] [.ptr 0 0 0 0])] [bx 1 [.map 1 true],mpB c es u]=some (.w (.c (.jb (zu ks))),[bx 1 [.map 1 true],mpB c es u])
theorem Zjs{S:StV}(d:NdV)(g:RgV)(c:Int)(es:List Zou)(v w u:Nat)(g':RgV)(w1:Nat)(h1:Y L Cs ZlA (some [0]) 3 [(0,.w (Pt 0))] (ndM S d g c es v w u)=some (.exit 0,[(19,.w (Bo false)),(0,.w (Pt 0))],ndM S d g' c es v w1 u))(ks:List Int)(hK:ZjC c es ks)(hks:ks.length<=1000) :
  ∃u',(u<=u'/\(u'=u->Zh0 g'.jV.tick ks es=es))/\R L Cs Zhz [Pt 0] (ndM S d g c es v w u)=some (.t [],ndM S d g' c (Zh0 g'.jV.tick ks es) v w1 u'):=by
 have hk1:=ZkS c es u;have hk2:=hK u;obtain⟨u',hu,hL⟩:=Zgm S d g' c v w1 ks hks ks 0 es u rfl (jp _);refine⟨u',hu,?_⟩;clear hu;generalize Zh0 g'.jV.tick ks es=es' at *;obtain⟨r0,r1,r2,r3,r4,n',ini',p'⟩:=g';simp only[ndM,ji,je,jg,zfq]at hL hk2;rw[zUa ZhY rfl];cases ini'<;>simp[Zhs,h1,hk1,hk2,hL,zr,Zly]
def Zhl(S:StV)(zs:List Zon)(ss:List Sgn)(es:List Zou)(g:RgV):RgV:=if g.na=5 then Zh9 S zs ss es g else g
theorem Zj0{S:StV}{zs:List Zon}{ss:List Sgn}(hS:z6u S zs ss){g:RgV}(hg:g.na<=5)(h0:0<g.na)(hi:g.ini=false)(hk:KB S.m g.jV)(ht:g.jV.tick<100000)(es:List Zou) :
  ZjQ (Zh9 S zs ss es g)/\(Zh9 S zs ss es g).na+1=g.na/\(Zh9 S zs ss es g).jM=g.jM.tail/\(Zh9 S zs ss es g).jV=ZhP S zs ss (znE S (znB g.jV.tick es) g.jV).1 g.s0/\KB S.m (Zh9 S zs ss es g).jV/\(Zh9 S zs ss es g).jV.tick=g.jV.tick+1:=by
 obtain⟨k1,k2⟩:=hk.AS (znB g.jV.tick es);obtain⟨k3,k4⟩:=k1.step (zs:=zs) (ss:=ss) hS (by rw[k2];exact ht) g.s0;obtain⟨a1,a2,a3,a4,a5⟩:=Zjr (g:={ g with jV:=ZhP S zs ss (znE S (znB g.jV.tick es) g.jV).1 g.s0 }) hg h0 hi;refine⟨a4,a2,a1,a3,?_,?_⟩
 ·unfold Zh9;rw[a3];exact k3
 ·unfold Zh9;rw[a3];simp only;rw[k4,k2]
theorem Zkk{S:StV}{zs:List Zon}{ss:List Sgn}(hS:z6u S zs ss)(d:NdV){g:RgV}(hg:ZjQ g)(ha:∀a∈g.jM,zk0 a)(hk:KB S.m g.jV)(hn:d.now=g.jV.tick+g.na)(ht:d.now<=100000)(c:Int)(es:List Zou)(he:Zk8 es)(v w u:Nat)(ks:List Int)(hK:ZjC c es ks)(hks:ks.length<=1000) :
  ∃w' u',(w<=w'/\(w'=w->Zhl S zs ss es g=g))/\(u<=u'/\(u'=u->Zh0 (Zhl S zs ss es g).jV.tick ks es=es))/\R L Cs Zhz [Pt 0] (ndM S d g c es v w u)=some (.t [],ndM S d (Zhl S zs ss es g) c (Zh0 (Zhl S zs ss es g).jV.tick ks es) v w' u'):=by
 have hf:=hg.few;have h0:=hk.nd.t;unfold Zhl;by_cases h5:g.na=5
 ·rw[if_pos h5];have hi:g.ini=false:=by
   cases hi:g.ini with
   |false=>rfl
   |true=>have:=hg.ini hi;omega
  have hs0:g.s0∈g.jM:=by simp[RgV.jM,h5]
  obtain⟨b1,b2,b3,b4,b5,b6⟩:=Zj0 (zs:=zs) (ss:=ss) hS hf (by omega) hi hk (by omega) es;have e1:=ZgL (zs:=zs) (ss:=ss) hS d hf (by omega) hi (ha _ hs0) hk (by omega) c es he v w u (by omega) (by omega);have e2:=Zj9 S d (Zh9 S zs ss es g) c es v (w+3) u (by omega) (by rw[b6];omega);obtain⟨u',hu,h⟩:=Zjs d g c es v w u (Zh9 S zs ss es g) (w+3) (e1.trans e2) ks hK hks;exact⟨_,u',⟨by omega,fun q=>absurd q (by omega)⟩,hu,h⟩
 ·rw[if_neg h5];have e2:=Zj9 S d g c es v w u (by omega) (by omega);obtain⟨u',hu,h⟩:=Zjs d g c es v w u g w e2 ks hK hks;exact⟨_,u',⟨jm _,fun _=>rfl⟩,hu,h⟩
structure Zlw(n:Nat)(h:Hrd)(t:Int):Prop where
 n1:h.jO.length<=n
 n2:h.kd.length<=n
 n3:h.j8.length<=n
 s1:∀x∈h.jO,x.st=t
 s2:∀x∈h.kd,x.st=t
 s3:∀x∈h.j8,x.qi=t/\x.seen.length<=5000/\x.pts.length<=1000
def EsN(n:Nat)(es:List Zou):Prop:=∀e∈es,Zlw n e.hrd e.key
theorem ZlB{n:Int}{h:Hrd}:∀{es:List Zou},znB n es=some h->∃e∈es,e.key=n/\e.hrd=h
 |[],hf=>nomatch hf
 |e::r,hf=>by
  unfold znB at hf;split at hf
  ·grind
  ·obtain⟨e',h1,h2⟩:=ZlB hf
   grind
theorem EsN.nil(n:Nat):EsN n []:=fun e h=>nomatch h
theorem EsN.at{n:Nat}{es:List Zou}(h:EsN n es)(t:Int):Zlw n (Ziq es t) t:=by
 unfold Ziq;cases hf:znB t es with
 |none=>exact⟨jp _,jp _,jp _,fun x hx=>absurd hx (by simp),fun x hx=>absurd hx (by simp),fun x hx=>absurd hx (by simp)⟩
 |some y =>
  obtain⟨e,h1,rfl,rfl⟩:=ZlB hf;exact h e h1
theorem EsN.ok{n:Nat}(hn:n<=1000){es:List Zou}(h:EsN n es):Zk8 es:=fun t y hy=>by
 obtain⟨e,h1,rfl,rfl⟩:=ZlB hy;obtain⟨a,b,c,d,e,f⟩:=h e h1;exact⟨jL a hn,jL b hn,jL c hn,fun x hx=>(f x hx).1,fun x hx=>(f x hx).2.1,fun x hx=>(f x hx).2.2⟩
theorem EsN.he{n:Nat}(hn:n<=1000){es:List Zou}(h:EsN n es):Zlq 1000 es:=fun t=>by
 obtain⟨a,b,c,_⟩:=h.at t;omega
theorem EsN.mono{n k:Nat}(hn:n<=k){es:List Zou}(h:EsN n es):EsN k es:=fun t ht=>by
 obtain⟨a,b,c,d,e,f⟩:=h t ht;exact⟨by omega,by omega,by omega,d,e,f⟩
theorem ZjI{α:Type}{f:α->α}{x:α}:∀{l:List α} {i:Nat},x∈l.modify i f->x∈l\/∃y∈l,x=f y
 |[],i,h=>by grind
 |a::l,0,h=>by
  grind
 |a::l,i+1,h=>by
  rcases jK.1 h with rfl|h
  ·grind
  ·rcases ZjI h with h |⟨y,hy,e⟩
   ·grind
   grind
theorem EsN.put{n:Nat}{q:Int×List Zou}(h:EsN n q.2)(t:Int){y:Hrd}(hy:Zlw (n+1) y t):EsN (n+1) (ZiZ t y q).2:=by
 intro e he;unfold ZiZ at he;split at he
 ·rcases ZjI he with he |⟨z,_,rfl⟩
  ·exact h.mono (kO n) e he
  grind
 ·rcases jI.1 he with he|he
  ·exact h.mono (kO n) e he
  grind
theorem EsN.del{n:Nat}{es:List Zou}(h:EsN n es)(t:Int):EsN n (ZjP t es):=by
 intro e he;unfold ZjP at he;split at he
 ·exact h e (List.mem_of_mem_eraseIdx he)
 ·exact h e he
theorem EsN.fgt{n:Nat}(t:Int):∀(ks:List Int) {es:List Zou},EsN n es->EsN n (Zh0 t ks es)
 |[],es,h=>h
 |k::ks,es,h=>by
  show EsN n (Zh0 t ks (if k<t then ZjP k es else es));refine EsN.fgt t ks ?_;split
  ·exact h.del k
  grind
theorem EsN.he1{n:Nat}{d:NdV}{q:Int×List Zou}(h:EsN n q.2)(y:Mrk):EsN (n+1) (he1 d q y).2:=by
 unfold Go.TrRun.he1;split
 ·obtain⟨a,b,c,d,e,f⟩:=h.at y.st;exact h.put _ ⟨by grind,qW b,qW c,fun x hx=>by
   grind,e,f⟩
 ·exact h.mono (kO n)
theorem EsN.he2{n:Nat}{d:NdV}{q:Int×List Zou}(h:EsN n q.2)(y:Mrk):EsN (n+1) (he2 d q y).2:=by
 unfold Go.TrRun.he2;split
 ·obtain⟨a,b,c,d,e,f⟩:=h.at y.st;exact h.put _ ⟨qW a,by grind,qW c,d,fun x hx=>by
   grind,f⟩
 ·exact h.mono (kO n)
theorem EsN.he3{n:Nat}{d:NdV}{q:Int×List Zou}(h:EsN n q.2){y:zZP}(hy:y.seen.length<=5000/\y.pts.length<=1000):EsN (n+1) (he3 d q y).2:=by
 unfold Go.TrRun.he3;split
 ·obtain⟨a,b,c,d,e,f⟩:=h.at y.qi;exact h.put _ ⟨qW a,qW b,by grind,d,e,fun x hx=>by
   grind⟩
 ·exact h.mono (kO n)
structure Zjo where
 tick:Int
 j8:List zZP
 jO:List Mrk
 kd:List Mrk
abbrev inC(x:Zjo):List Cl:=[I x.tick,.jb (ZlG x.j8),.jb (zb x.jO),.jb (zb x.kd)]
structure Zlc(x:Zjo):Prop where
 n1:x.j8.length<=100
 n2:x.jO.length<=100
 n3:x.kd.length<=100
 sc:∀y∈x.j8,y.seen.length<=5000/\y.pts.length<=1000
theorem Zj5{S:StV}(d:NdV)(g:RgV)(v w:Nat)(hn:0<=d.now/\d.now<=1099511627776)(x:Zjo)(l:List Mrk)(hl:l.length<=100):∀(r:List Mrk) (i:Nat) (q:Int×List Zou) (u n:Nat),l.drop i=r->i<=l.length->EsN n q.2->n+r.length<=1000 ->
  ∃u',(u<=u'/\(u'=u->r.foldl (he1 d) q=q))/\EsN (n+r.length) (r.foldl (he1 d) q).2/\Y L Cs zn2 (some [16,15,3,14,0]) 4 (ZkL l i) (heM S d g q v w u (inC x))=some (.exit 0,(17,.w (Bo false))::ZkL l l.length,heM S d g (r.foldl (he1 d) q) v w u' (inC x))
 |[],i,q,u,n,hd,hi,hq,hk=>by
  have e:i=l.length:=by
   grind
  subst e;refine⟨u,⟨jm _,fun _=>rfl⟩,hq,?_⟩;obtain⟨s0,s1,s2,s3,s4,n,ini,p⟩:=g;rw[ZfM zn2.eq_1];cases ini<;>simp[Zly]
 |a::r,i,q,u,n,hd,hi,hq,hk=>by
  have h1:i<l.length:=by
   grind
  have h2:l[i]=a:=by grind [List.drop_eq_getElem_cons,List.cons.inj]
  have h3:l.drop (i+1)=r:=by grind [List.drop_eq_getElem_cons,List.cons.inj]
  simp only[jl]at hk;obtain⟨u1,m1,e⟩:=ZkK (S:=S) d g q v w u hn (x.tick,x.j8,x.jO,x.kd) l (by omega) i h1 (hq.he (by omega));obtain⟨u2,m2,c1,ih⟩:=Zj5 (S:=S) d g v w hn x l hl r (i+1) (he1 d q a) u1 (n+1) h3 (by omega) (hq.he1 a) (by omega);rw[h2]at e m1;exact⟨u2,⟨jL m1.1 m2.1,fun q'=>by
   rw[jZ,m2.2 (by omega)];exact m1.2 (by omega)⟩,by rw[jl,<-kU,yP];exact c1,e.trans ih⟩
theorem Zj4{S:StV}(d:NdV)(g:RgV)(v w:Nat)(hn:0<=d.now/\d.now<=1099511627776)(x:Zjo)(l:List Mrk)(hl:l.length<=100):∀(r:List Mrk) (i:Nat) (q:Int×List Zou) (u n:Nat),l.drop i=r->i<=l.length->EsN n q.2->n+r.length<=1000 ->
  ∃u',(u<=u'/\(u'=u->r.foldl (he2 d) q=q))/\EsN (n+r.length) (r.foldl (he2 d) q).2/\Y L Cs znM (some [49,48,3,47,0]) 4 (ZkJ l i) (heM S d g q v w u (inC x))=some (.exit 2,(50,.w (Bo false))::ZkJ l l.length,heM S d g (r.foldl (he2 d) q) v w u' (inC x))
 |[],i,q,u,n,hd,hi,hq,hk=>by
  have e:i=l.length:=by
   grind
  subst e;refine⟨u,⟨jm _,fun _=>rfl⟩,hq,?_⟩;obtain⟨s0,s1,s2,s3,s4,n,ini,p⟩:=g;rw[ZfM znM.eq_1];cases ini<;>simp[Zly]
 |a::r,i,q,u,n,hd,hi,hq,hk=>by
  have h1:i<l.length:=by
   grind
  have h2:l[i]=a:=by grind [List.drop_eq_getElem_cons,List.cons.inj]
  have h3:l.drop (i+1)=r:=by grind [List.drop_eq_getElem_cons,List.cons.inj]
  simp only[jl]at hk;obtain⟨u1,m1,e⟩:=ZkI (S:=S) d g q v w u hn (x.tick,x.j8,x.jO,x.kd) l (by omega) i h1 (hq.he (by omega));obtain⟨u2,m2,c1,ih⟩:=Zj4 (S:=S) d g v w hn x l hl r (i+1) (he2 d q a) u1 (n+1) h3 (by omega) (hq.he2 a) (by omega);rw[h2]at e m1;exact⟨u2,⟨jL m1.1 m2.1,fun q'=>by
   rw[jZ,m2.2 (by omega)];exact m1.2 (by omega)⟩,by rw[jl,<-kU,yP];exact c1,e.trans ih⟩
theorem Zkp(d:NdV)(y:zZP):(heD d y).now=d.now:=by grind [heD]
def heS:List zZP->NdV×(Int×List Zou)->NdV×(Int×List Zou)
 |[],x=>x
 |y::r,x=>heS r (heD x.1 y,he3 x.1 x.2 y)
theorem Zj3{S:StV}(g:RgV)(w:Nat)(x:Zjo)(l:List zZP)(hl:l.length<=100)(hsc:∀y∈l,y.seen.length<=5000/\y.pts.length<=1000):∀(r:List zZP) (i:Nat) (d:NdV) (q:Int×List Zou) (u v n:Nat),0<=d.now/\d.now<=1099511627776->l.drop i=r->i<=l.length->EsN n q.2->n+r.length<=1000 ->
  ∃u' v',((u<=u'/\(u'=u->(heS r (d,q)).2=q))/\(v<=v'/\(v'=v->(heS r (d,q)).1=d)))/\EsN (n+r.length) (heS r (d,q)).2.2/\Y L Cs znK (some [82,81,80,0]) 4 (ZkH l i) (heM S d g q v w u (inC x))=some (.exit 4,(83,.w (Bo false))::ZkH l l.length,heM S (heS r (d,q)).1 g (heS r (d,q)).2 v' w u' (inC x))
 |[],i,d,q,u,v,n,hn,hd,hi,hq,hk=>by
  have e:i=l.length:=by
   grind
  refine⟨u,v,⟨⟨jm _,fun _=>rfl⟩,⟨jm _,fun _=>rfl⟩⟩,hq,?_⟩
  simp_all [ZfM,znK.eq_1,Zly,heS]
 |a::r,i,d,q,u,v,n,hn,hd,hi,hq,hk=>by
  have h1:i<l.length:=by
   have:=congrArg List.length hd;simp at this;omega
  have h2:l[i]=a:=by rw[Go.jx h1]at hd;exact(j6 hd).1
  have h3:l.drop (i+1)=r:=by rw[Go.jx h1]at hd;exact(j6 hd).2
  have ha:a∈l:=by rw[<-h2];exact jf h1
  simp only[jl]at hk;obtain⟨u1,v1,⟨m1,m2⟩,e⟩:=ZkG (S:=S) d g q v w u hn (x.tick,x.j8,x.jO,x.kd) l (by omega) (fun y hy=>(hsc y hy).1) (fun y hy=>(hsc y hy).2) i h1 (hq.he (by omega));rw[h2]at e m1 m2;obtain⟨u2,v2,⟨m3,m4⟩,c1,ih⟩:=Zj3 (S:=S) g w x l hl hsc r (i+1) (heD d a) (he3 d q a) u1 v1 (n+1) (by rw[Zkp];exact hn) h3 (by omega) (hq.he3 (hsc a ha)) (by omega);exact⟨u2,v2,⟨⟨jL m1.1 m3.1,fun q'=>by
   show(heS r (heD d a,he3 d q a)).2=q;rw[m3.2 (by omega)];exact m1.2 (by omega)⟩,⟨jL m2.1 m4.1,fun q'=>by
   show(heS r (heD d a,he3 d q a)).1=d;rw[m4.2 (by omega)];exact m2.2 (by omega)⟩⟩,by rw[jl,<-kU,yP];exact c1,e.trans ih⟩
def ZiQ(d:NdV)(q:Int×List Zou)(x:Zjo):NdV×(Int×List Zou):=heS x.j8 (d,x.kd.foldl (he2 d) (x.jO.foldl (he1 d) q))
theorem ZkR{S:StV}(d:NdV)(g:RgV)(q:Int×List Zou)(v w u n:Nat)(hn:0<=d.now/\d.now<=1099511627776)(x:Zjo)(hx:Zlc x)(hq:EsN n q.2)(hk:n+300<=1000) :
  ∃v' u',((u<=u'/\(u'=u->(ZiQ d q x).2=q))/\(v<=v'/\(v'=v->(ZiQ d q x).1=d)))/\EsN (n+300) (ZiQ d q x).2.2/\R L Cs Zh4 [Pt 0,.a (inC x)] (ndM S d g q.1 q.2 v w u)=some (.t [],ndM S (ZiQ d q x).1 g (ZiQ d q x).2.1 (ZiQ d q x).2.2 v' w u'):=by
 obtain⟨x1,x2,x3,x4⟩:=hx;obtain⟨u1,m1,a1,h1⟩:=Zj5 (S:=S) d g v w hn x x.jO x2 x.jO 0 q u n rfl (jp _) hq (by omega);obtain⟨u2,m2,a2,h2⟩:=Zj4 (S:=S) d g v w hn x x.kd x3 x.kd 0 (x.jO.foldl (he1 d) q) u1 _ rfl (jp _) a1 (by omega);obtain⟨u3,v3,⟨m3,m4⟩,a3,h3⟩:=Zj3 (S:=S) g w x x.j8 x1 x4 x.j8 0 d (x.kd.foldl (he2 d) (x.jO.foldl (he1 d) q)) u2 v _ hn rfl (jp _) a2 (by omega);refine⟨v3,u3,⟨⟨jL m1.1 (jL m2.1 m3.1),fun e=>?_⟩,m4⟩,a3.mono (by omega),?_⟩
 ·grind [ZiQ]
 unfold ZiQ;obtain⟨s0,s1,s2,s3,s4,na,ini,p⟩:=g;simp only[ZkL,ZkJ,ZkH,heM,ndM,ji,je,jg]at h1 h2 h3;rw[zUa Zjh rfl];cases ini<;>simp[ZhF,h1,h2,h3,Zly]
abbrev fnN(f:Nat):Cl:=.fn f [.ptr 0 0 0 0] []
theorem ZjB(S:StV)(d d':NdV)(g:RgV)(c:Int)(es:List Zou)(v v' w u f f':Nat)(x:Zjo)(hv:¬v'=v)(hR:R L Cs f [Pt 0] (ndM S d g c es v w u)=some (.w (.c (fnN f')),ndM S d' g c es v' w u)) :
  Y L Cs zj (some [6,0]) 4 [(6,.w (.c (fnN f))),(0,.w (Pt 0))] (ndM S d g c es v w u++[bx 4 (inC x)])=Y L Cs zj (some [6,0]) 4 [(6,.w (.c (fnN f'))),(0,.w (Pt 0))] (ndM S d' g c es v' w u++[bx 4 (inC x)]):=by
 obtain⟨s0,s1,s2,s3,s4,na,ini,p⟩:=g;rw[ZfM zj.eq_1];cases ini<;>simp[ndM,ndC,rgC,mpB,bxv]at hR<;>simp[hR,hv,Zly,zr]
theorem ZkV(S:StV)(d d':NdV)(g g':RgV)(c:Int)(es:List Zou)(v v' w w' u f:Nat)(x:Zjo)(hv:¬v'=v)(hw:¬w'=w)(hR:R L Cs f [Pt 0] (ndM S d g c es v w u)=some (.w (.c .qT),ndM S d' g' c es v' w' u)) :
  Y L Cs zj (some [6,0]) 4 [(6,.w (.c (fnN f))),(0,.w (Pt 0))] (ndM S d g c es v w u++[bx 4 (inC x)])=some (.exit 1,[(43,.w (Bo false)),(6,.w (.c .qT)),(0,.w (Pt 0))],ndM S d' g' c es v' w' u++[bx 4 (inC x)]):=by
 obtain⟨s0,s1,s2,s3,s4,na,ini,p⟩:=g;obtain⟨r0,r1,r2,r3,r4,ma,jni,p'⟩:=g';rw[ZfM zj.eq_1];cases ini<;>cases jni<;>simp[ndM,ndC,rgC,mpB,bxv]at hR<;>simp[hR,hv,hw,Zly,zr]<;>rw[ZfM zj.eq_1]<;>simp[Zly]
structure Zk7(S:StV)(d:NdV)(g:RgV)(es:List Zou)(n:Nat):Prop where
 rg:ZjQ g
 jM:∀a∈g.jM,zk0 a
 jV:KB S.m g.jV
 now:d.now=g.jV.tick+g.na
 few:d.now<=90000
 ents:EsN n es
 last:0<=d.last/\d.last<=1099511627776
 kT:d.kT.length<=900
def goN(S:StV)(zs:List Zon)(ss:List Sgn)(d:NdV)(k:zci):NdV :=
 if(ZiF S { d with qC:=k }).mode=1 then ZiG S zs ss (ZiF S { d with qC:=k }) else ZiF S { d with qC:=k }
def hrN(S:StV)(zs:List Zon)(ss:List Sgn)(d:NdV)(g:RgV)(c:Int)(es:List Zou)(ks:List Int)(x:Zjo):NdV×(Int×List Zou):=ZiQ d (c,Zh0 (Zhl S zs ss es g).jV.tick ks es) x
theorem Zla:∀(l:List zZP) (d:NdV) (q:Int×List Zou),(heS l (d,q)).1.now=d.now/\(heS l (d,q)).1.kT=d.kT/\(heS l (d,q)).1.first=d.first/\(heS l (d,q)).1.mode=d.mode/\(heS l (d,q)).1.uw=d.uw/\(heS l (d,q)).1.told=d.told/\(heS l (d,q)).1.qC=d.qC
 |[],d,q=>⟨rfl,rfl,rfl,rfl,rfl,rfl,rfl⟩
 |y::l,d,q=>by
  have h:=Zla l (heD d y) (he3 d q y);have e:(heD d y).now=d.now/\(heD d y).kT=d.kT/\(heD d y).first=d.first/\(heD d y).mode=d.mode/\(heD d y).uw=d.uw/\(heD d y).told=d.told/\(heD d y).qC=d.qC:=by
   unfold heD;split<;>exact⟨rfl,rfl,rfl,rfl,rfl,rfl,rfl⟩
  obtain⟨a1,a2,a3,a4,a5,a6,a7⟩:=h;obtain⟨b1,b2,b3,b4,b5,b6,b7⟩:=e;exact⟨a1.trans b1,a2.trans b2,a3.trans b3,a4.trans b4,a5.trans b5,a6.trans b6,a7.trans b7⟩
theorem Zj2:∀(l:List zZP) (d:NdV) (q:Int×List Zou),0<=d.last/\d.last<=1099511627776->0<=d.now/\d.now<=1099511627776->0<=(heS l (d,q)).1.last/\(heS l (d,q)).1.last<=1099511627776
 |[],d,q,h,_=>h
 |y::l,d,q,h,hn=>by
  refine Zj2 l (heD d y) (he3 d q y) ?_ (by rw[Zkp];exact hn);unfold heD Zjv;split
  ·rename_i hc;simp only[jk,decide_eq_true_eq]at hc;simp only;omega
  ·exact h
theorem Zko{S:StV}{d d':NdV}{g g':RgV}{c c':Int}{es es':List Zou}{v v' w w' u u' f:Nat}{xs:List Cl}{X:List Cl}(hxs:xs=[]\/∃x:Zjo,xs=inC x)(hX:∃x:Zjo,X=inC x)(hv:v'=v->d'=d)(hw:w'=w->g'=g)(hu:u'=u->c'=c/\es'=es)
  (hR:R L Cs f (Pt 0::if xs=[] then [] else [.a xs]) (ndM S d g c es v w u)=some (.t [],ndM S d' g' c' es' v' w' u')) :
  ∃fp,zx (R L Cs) ⟨true⟩ (.c (.fn f [] [])) (Pt 0::if xs=[] then [] else [.a xs]) (ndM S d g c es v w u++[bx 4 X])=some (.t [],ndM S d' g' c' es' v' w' u'++[bx 4 X],fp):=by
 obtain⟨x0,rfl⟩:=hX;obtain⟨s0,s1,s2,s3,s4,na,ini,p⟩:=g;obtain⟨r0,r1,r2,r3,r4,ma,jni,p'⟩:=g';by_cases a1:v'=v
 ·have:=hv a1;subst this;subst a1;by_cases a2:w'=w
  ·have:=hw a2;cases this;subst a2;by_cases a3:u'=u
   ·obtain⟨rfl,rfl⟩:=hu a3;subst a3;refine⟨.no,?_⟩;rcases hxs with rfl |⟨x,rfl⟩<;>cases ini<;>simp[ndM,ndC,rgC,mpB,bxv]at hR<;>simp[hR,Zly]
   ·refine⟨.wr [(2,0,whole)],?_⟩;rcases hxs with rfl |⟨x,rfl⟩<;>cases ini<;>simp[ndM,ndC,rgC,mpB,bxv]at hR<;>simp[hR,Zly,a3]
  ·by_cases a3:u'=u
   ·obtain⟨rfl,rfl⟩:=hu a3;subst a3;refine⟨.wr [(1,0,whole)],?_⟩;rcases hxs with rfl |⟨x,rfl⟩<;>cases ini<;>cases jni<;>simp[ndM,ndC,rgC,mpB,bxv]at hR<;>simp[hR,Zly,a2]
   ·refine⟨.wr [(1,0,whole),(2,0,whole)],?_⟩;rcases hxs with rfl |⟨x,rfl⟩<;>cases ini<;>cases jni<;>simp[ndM,ndC,rgC,mpB,bxv]at hR<;>simp[hR,Zly,a2,a3]
 ·by_cases a2:w'=w
  ·have:=hw a2;cases this;subst a2;by_cases a3:u'=u
   ·obtain⟨rfl,rfl⟩:=hu a3;subst a3;refine⟨.wr [(0,0,whole)],?_⟩;rcases hxs with rfl |⟨x,rfl⟩<;>cases ini<;>simp[ndM,ndC,rgC,mpB,bxv]at hR<;>simp[hR,Zly,a1]
   ·refine⟨.wr [(0,0,whole),(2,0,whole)],?_⟩;rcases hxs with rfl |⟨x,rfl⟩<;>cases ini<;>simp[ndM,ndC,rgC,mpB,bxv]at hR<;>simp[hR,Zly,a1,a3]
  ·by_cases a3:u'=u
   ·obtain⟨rfl,rfl⟩:=hu a3;subst a3;refine⟨.wr [(0,0,whole),(1,0,whole)],?_⟩;rcases hxs with rfl |⟨x,rfl⟩<;>cases ini<;>cases jni<;>simp[ndM,ndC,rgC,mpB,bxv]at hR<;>simp[hR,Zly,a1,a2]
   ·refine⟨.wr [(0,0,whole),(1,0,whole),(2,0,whole)],?_⟩;rcases hxs with rfl |⟨x,rfl⟩<;>cases ini<;>cases jni<;>simp[ndM,ndC,rgC,mpB,bxv]at hR<;>simp[hR,Zly,a1,a2,a3]
theorem ZkX{S:StV}{zs:List Zon}{ss:List Sgn}(hS:z6u S zs ss){d:NdV}{g:RgV}{es:List Zou}{n:Nat}(h:Zk7 S d g es n):ZjQ (Zhl S zs ss es g)/\(Zhl S zs ss es g).na<=4/\(∀a∈(Zhl S zs ss es g).jM,zk0 a)/\KB S.m (Zhl S zs ss es g).jV/\(Zhl S zs ss es g).jV.tick+(Zhl S zs ss es g).na=d.now:=by
 obtain⟨hg,ha,hk,hn,hf,_⟩:=h;have h5:=hg.few;unfold Zhl;by_cases c:g.na=5
 ·have hi:g.ini=false:=by
   cases hi:g.ini with
   |false=>rfl
   |true=>have:=hg.ini hi;omega
  grind [Zj0,List.mem_of_mem_tail]
 grind
def Zlu(S:StV)(d:NdV):Int:=Pl.uS d.told S.car.ub
theorem ZkA{S:StV}{zs:List Zon}{ss:List Sgn}(hS:z6u S zs ss)(q:List Int)(last:Int)(k:zci)(f:Int):(zMT (zLj S.car q last k) f).length<=900:=by
 have h:=zNa hS.car q last (max 0 (min k.ego.vhi 2000)) (by omega)
 grind [zMT]
theorem Zkv{S:StV}{zs:List Zon}{ss:List Sgn}(hS:z6u S zs ss){d:NdV}(h:d.kT.length<=900):(ZiG S zs ss d).kT.length<=900:=by
 grind [ZiG,ZkA]
theorem ZkM{S:StV}{zs:List Zon}{ss:List Sgn}(hS:z6u S zs ss){d:NdV}(h:d.kT.length<=900)(K:zci):(goN S zs ss d K).kT.length<=900/\(goN S zs ss d K).now=d.now/\(goN S zs ss d K).last=d.last/\(goN S zs ss d K).qC=K/\(goN S zs ss d K).mode=(if S.vJ<d.now-d.last then 2 else d.mode):=by
 unfold goN;split
 ·exact⟨Zkv hS h,rfl,rfl,rfl,rfl⟩
 ·exact⟨h,rfl,rfl,rfl,rfl⟩
theorem Zlp{S:StV}{zs:List Zon}{ss:List Sgn}(hS:z6u S zs ss){d:NdV}{g:RgV}{es:List Zou}{n:Nat}(h:Zk7 S d g es n)(hn:n+300<=1000)(c:Int)(v w u:Nat)(ks:List Int)(hK:ZjC c es ks)(hks:ks.length<=1000){x:Zjo}(hx:Zlc x)(hx8:x.j8.length<=8/\x.jO.length<=8/\x.kd.length<=8)(ht:x.tick=d.now)
  {d2:NdV} {c2:Int} {es2:List Zou} (e2:hrN S zs ss d g c es ks x=(d2,(c2,es2))) {K:zci} (eK:Zkz S zs ss (Zhl S zs ss es g) es2=(K,true)) :
  ∃v' w' u',(v<v'/\w<w'/\(u<=u'/\(u'=u->c2=c/\es2=es)))/\EsN (n+300) es2 /\
   R L Cs Zh5 [Pt 0,.a (inC x)] (ndM S d g c es v w u)=some (.t [W (Zlu S (ZjL (goN S zs ss d2 K))),W 0],ndM S (ZjL (goN S zs ss d2 K)) (ZhJ (Zhl S zs ss es g) (Pl.uS (goN S zs ss d2 K).kT 0)) c2 es2 v' w' u'):=by
 have hh:=h;obtain⟨hg,ha,hk,Bm,hfew,BC,yy,hplan⟩:=h;have hk0:=hk.nd.t;obtain⟨g1,g2,g3,g4,g5⟩:=ZkX (zs:=zs) (ss:=ss) hS hh;have h0:=ZkQ S d g c es v w u;obtain⟨w1,u1,m1,m2,h1⟩:=Zkk hS d hg ha hk Bm (by omega) c es (BC.ok (by omega)) v w u ks hK hks;have BA:=BC.fgt (Zhl S zs ss es g).jV.tick ks;obtain⟨v2,u2,⟨m3,m4⟩,y9,h2⟩:=ZkR (S:=S) d (Zhl S zs ss es g) (c,Zh0 (Zhl S zs ss es g).jV.tick ks es) v w1 u1 n (by omega) x hx BA hn;rw[show ZiQ d (c,Zh0 (Zhl S zs ss es g).jV.tick ks es) x=(d2,(c2,es2)) from e2]at h2 y9 m3 m4;simp only at h2 y9 m3 m4;have hd:=Zla x.j8 d (x.kd.foldl (he2 d) (x.jO.foldl (he1 d) (c,Zh0 (Zhl S zs ss es g).jV.tick ks es)));have hl2:=Zj2 x.j8 d (x.kd.foldl (he2 d) (x.jO.foldl (he1 d) (c,Zh0 (Zhl S zs ss es g).jV.tick ks es))) yy (by omega);rw[show heS x.j8 (d,x.kd.foldl (he2 d) (x.jO.foldl (he1 d) (c,Zh0 (Zhl S zs ss es g).jV.tick ks es)))=(d2,(c2,es2)) from e2]at hd hl2;simp only at hd hl2;obtain⟨AX,Aa,-⟩:=hd;have h3:=Zkj hS d2 g1 g3 g4 (by omega) c2 es2 (y9.ok (by omega)) v2 w1 u2;have Bn:=ZkP hS es2 (Zhl S zs ss es g).jM (znE S (znB (Zhl S zs ss es g).jV.tick es2) (Zhl S zs ss es g).jV).1 (znE S (znB (Zhl S zs ss es g).jV.tick es2) (Zhl S zs ss es g).jV).2 (g4.AS _).1 (by
  rw[(g4.AS _).2];have:(Zhl S zs ss es g).jM.length<=5:=by simp[RgV.jM];omega
  omega)
 have hKB:KB S.m K:=by
  have:=Bn.1;have e:chN S zs ss es2 (Zhl S zs ss es g).jM (znE S (znB (Zhl S zs ss es g).jV.tick es2) (Zhl S zs ss es g).jV)=(K,true):=eK;rw[show((znE S (znB (Zhl S zs ss es g).jV.tick es2) (Zhl S zs ss es g).jV).1,(znE S (znB (Zhl S zs ss es g).jV.tick es2) (Zhl S zs ss es g).jV).2)=znE S (znB (Zhl S zs ss es g).jV.tick es2) (Zhl S zs ss es g).jV from rfl,e]at this;exact this
 rw[eK]at h3;simp only[if_true]at h3;clear Bn eK;obtain⟨v4,m5,h4⟩:=ZjV S { d2 with qC:=K } (Zhl S zs ss es g) c2 es2 (v2+1) w1 u2 (by simp only[AX];omega) hl2;have hgo:∃v5,v2<v5/\∀T,Y L Cs zj (some [6,0]) 4 [(6,.w (.c (fnN Zhq))),(0,.w (Pt 0))] (ndM S (goN S zs ss d2 K) (Zhl S zs ss es g) c2 es2 v5 w1 u2++[bx 4 (inC x)])=T->Y L Cs zj (some [6,0]) 4 [(6,.w (.c (fnN ZhW))),(0,.w (Pt 0))] (ndM S d2 (Zhl S zs ss es g) c2 es2 v2 w1 u2++[bx 4 (inC x)])=T:=by
  have s1:=ZjB S d2 _ (Zhl S zs ss es g) c2 es2 v2 (v2+1) w1 u2 _ _ x (by omega) h3;unfold goN;by_cases hm:(ZiF S { d2 with qC:=K }).mode=1
  ·rw[if_pos hm]at h4 ⊢;have s2:=ZjB S _ _ (Zhl S zs ss es g) c2 es2 (v2+1) v4 w1 u2 _ _ x (by omega) h4;obtain⟨v5,m6,h5⟩:=ZjR hS (ZiF S { d2 with qC:=K }) (Zhl S zs ss es g) c2 es2 v4 w1 u2 (show d2.kT.length<=1000 by rw[Aa];omega) (show K.jU.length<=100000000000 by have:=hKB.nd.len hS;omega);have s3:=ZjB S _ _ (Zhl S zs ss es g) c2 es2 v4 v5 w1 u2 _ _ x (by omega) h5;exact⟨v5,by omega,fun T hT=>s1.trans (s2.trans (s3.trans hT))⟩
  ·rw[if_neg hm]at h4 ⊢;have s2:=ZjB S _ _ (Zhl S zs ss es g) c2 es2 (v2+1) v4 w1 u2 _ _ x (by omega) h4;exact⟨v4,by omega,fun T hT=>s1.trans (s2.trans hT)⟩
 obtain⟨v5,m6,hgo⟩:=hgo;have hpl:(goN S zs ss d2 K).kT.length<=1000/\(goN S zs ss d2 K).now=d.now:=by
  obtain⟨q1,q2,_⟩:=ZkM (zs:=zs) (ss:=ss) hS (d:=d2) (by rw[Aa];exact hplan) K;exact⟨jL q1 (by decide),q2.trans AX⟩
 generalize goN S zs ss d2 K=d5 at *;have h6:=Zkl S d5 g1 g2 c2 es2 v5 w1 u2 (by omega) hpl.1;have hlp:=hgo _ (ZkV S d5 (ZjL d5) (Zhl S zs ss es g) _ c2 es2 v5 (v5+4) w1 (w1+2) u2 _ x (by omega) (by omega) h6);have hA:=Pl.C5 (ZjL d5).told (show d5.kT.length<=1000 from hpl.1) S.car.ub;refine⟨v5+4,w1+2,u2,⟨by omega,by omega,by omega,fun e=>?_⟩,y9,?_⟩
 ·have e1:=m3.2 (by omega);have e2':=m2.2 (by omega);rw[e2']at e1;exact⟨congrArg Prod.fst e1,congrArg Prod.snd e1⟩
 have c1:¬8<max (x.j8.length:Int) (max x.jO.length x.kd.length):=by omega
 have c2':¬(1099511626776:Int)<=d.now:=by omega
 obtain⟨fp1,hc1⟩:=Zko (f:=Zhz) (xs:=[]) (X:=inC x) (.inl rfl) ⟨x,rfl⟩ (fun _=>rfl) m1.2 (fun q=>⟨rfl,m2.2 q⟩) (by simpa using h1);obtain⟨fp2,hc2⟩:=Zko (f:=Zh4) (xs:=inC x) (X:=inC x) (.inr ⟨x,rfl⟩) ⟨x,rfl⟩ m4.2 (fun _=>rfl) (fun q=>by
  have:=m3.2 q;exact⟨congrArg Prod.fst this,congrArg Prod.snd this⟩) (by simpa using h2)
 have hc0:zx (R L Cs) ⟨true⟩ (.c (.fn Zh3 [] [])) [Pt 0] (ndM S d g c es v w u++[bx 4 (inC x)])=some (.w (Bo false),ndM S d g c es v w u++[bx 4 (inC x)],.no):=by
  obtain⟨s0,s1,s2,s3,s4,na,ini,p⟩:=g;cases ini<;>simp[ndM,ndC,rgC,mpB,bxv]at h0<;>simp[h0,Zly]
 have hcA:∀M,zx (R L Cs) ⟨true⟩ (.c (.fn zGR [] [])) [.a [.jb (zu (ZjL d5).told)],W S.car.ub] M=some (.w (W (Pl.uS (ZjL d5).told S.car.ub)),M,.no):=fun M=>by
  simp[hA]
 unfold Zlu;generalize Pl.uS (ZjL d5).told S.car.ub=cc at *;generalize ZhJ (Zhl S zs ss es g) (Pl.uS d5.kT 0)=g9 at *;generalize Zh0 (Zhl S zs ss es g).jV.tick ks es=es1 at *;generalize Zhl S zs ss es g=g' at *;generalize ZjL d5=d6 at *;clear hg ha hk Bm BC BA y9 g1 g2 g3 g4 g5 h0 h1 h2 h3 h4 h6 hgo hKB hh e2 hK hA m1 m2 m3 m4 m5 m6 hl2 hpl;obtain⟨xt,xsc,xsp,xfx⟩:=x;simp only at ht c1;subst ht;simp only[inC,List.cons_ne_nil,reduceCtorEq,if_false,if_true,ndM,ji,je]at hc0 hc1 hc2 hlp;rw[zUa Zji rfl];simp[-zx,ZhG,hc0,hc1,hc2,hlp,hcA,c1,c2',Zly,zr];cases g9.ini<;>simp
theorem Znq(l:List Pss)(hl:l.length<=100000000000)(fnv:Cl)(f:Pss->Bool)(M:Mem)(hc:∀p∈l,zx (R L Cs) ⟨true⟩ (.c fnv) [.a (zKF p)] M=some (.w (Bo (f p)),M,.no))(ha:l.any f=true) :
  ∃k:Nat,k<l.length/\R L Cs zLd [.c (.jb (zKd l)),.c fnv] M=some (.w (W k),M):=by
 have htk:∀p:Pss,List.take (zKF p).length (zKF p)=zKF p:=fun p=>kJ
 have h:=zxf (L:=L) (Cs:=Cs) (b:=zHw) (live:=some [7,1,0,8]) (n0:=M.length) l (fun i=>[(7,.w (W l.length)),(1,.w (.c fnv)),(0,.w (.c (.jb (zKd l)))),(8,.w (W i))]) M f (fun i=>(.ret,[(4,.w (W i))],M)) (.exit 0,[(9,.w (Bo false)),(0,.w (.c (.jb (zKd l)))),(1,.w (.c fnv)),(7,.w (W l.length)),(8,.w (W l.length))],M) ?_ ?_ ?_
 ·cases hq:l.findIdx? f with
  |none =>
   rw[km]at hq;have:l.any f=false:=by simpa using hq
   rw[this]at ha;cases ha
  |some k =>
   rw[hq]at h;obtain⟨h1,_⟩:=jS.1 hq;refine⟨k,h1,?_⟩;simp only[jg]at h;rw[zUa zKB rfl];simp[zHI,h]
 ·intro i hi hp;have hw:=zB (i:=i) (by omega);have hcc:=hc l[i] (jf hi);have ht:=htk l[i];simp only[zNu]at ht;rw[hp]at hcc;rw[ZfM zHw.eq_1];simp[hi,hw,hcc,ht,-zx]
 ·intro i hi hp;have hcc:=hc l[i] (jf hi);have ht:=htk l[i];simp only[zNu]at ht;rw[hp]at hcc;rw[ZfM zHw.eq_1];simp[hi,hcc,ht,-zx]
 ·rw[ZfM zHw.eq_1];simp
def onZ(z:Int)(p:Pss):Bool:=decide (p.qc=z)
theorem Zme(z:Int)(p:Pss):R L Cs ZlT [.a (zKF p),Pt 0] [bxv 1 1 [I z]]=some (.w (Bo (onZ z p)),[bxv 1 1 [I z]]):=by
 rw[zUa Zmy rfl];unfold onZ;by_cases c:p.qc=z
 ·simp[Zjl,zKF,c,zg,zH]
 ·have b1:(p.qc==z)=false:=by simp[c]
  simp[Zjl,zKF,c,b1,zg,zH]
abbrev zFn(k:Nat):Cl:=.fn ZlT [] [.ptr k 0 0 0]
theorem ZmU(z:Int)(ps:List Pss)(hs:ps.length<=1000):R L Cs zKY [.c (.jb (zKd ps)),.c (zFn 0)] [bxv 1 1 [I z]]=some (.w (Bo (ps.any (onZ z))),[bxv 1 1 [I z]]):=by
 obtain⟨k,h1,h2⟩:=zO6 ps (by omega) (zFn 0) (onZ z) [bxv 1 1 [I z]] (fun p _=>by
  have h:=Zme z p;simp only[zKF]at h;simp[h,zKF])
 rw[zUa zK2 rfl];simp[zHz,h1,h2]
theorem Znu(z:Int)(ps:List Pss)(hs:ps.length<=1000)(ha:ps.any (onZ z)=true):∃k:Nat,k<ps.length/\R L Cs zLd [.c (.jb (zKd ps)),.c (zFn 0)] [bxv 1 1 [I z]]=some (.w (W k),[bxv 1 1 [I z]]) :=
 Znq ps (by omega) (zFn 0) (onZ z) [bxv 1 1 [I z]] (fun p _=>by
  have h:=Zme z p;simp only[zKF]at h;simp[h,zKF]) ha
abbrev pkE(ps:List Pss)(n i z:Nat)(zn:Nat):Env:=[(83,.w (W i)),(82,.w (W n)),(66,.w (W z)),(65,.w (W zn)),(3,.w (Pt 1)),(1,.w (Pt 0)),(4,.w (.c (.jb (zKd ps)))),(7,.w (Pt 3)),(81,.w (.c (.jb (zKd ps)))),(6,.w (.c (zFn 2))),(8,.w (Pt 4))]
theorem ZmI(S:StV)(e:Ego)(z zn:Nat)(ps:List Pss)(hs:ps.length<=1000)(f:Pss):∀(r:List Pss) (i v:Nat) (l:Pss),ps.drop i=r->i<=ps.length ->
  ∃v' l',Y L Cs Zja (some [83,82,66,65,3,1,4,7,81,6,8]) 5 (pkE ps ps.length i z zn) [bx 19 (ZlR S),bxv 1 4 (zch e),bxv 1 1 [I z],bxv 1 4 (zKF f),bxv v 4 (zKF l)] =
   some (.exit 2,(84,.w (Bo false))::[(83,.w (W ps.length)),(82,.w (W ps.length)),(66,.w (W z)),(65,.w (W zn)),(3,.w (Pt 1)),(1,.w (Pt 0)),(4,.w (.c (.jb (zKd ps)))),(7,.w (Pt 3)),(81,.w (.c (.jb (zKd ps)))),(6,.w (.c (zFn 2))),(8,.w (Pt 4))],[bx 19 (ZlR S),bxv 1 4 (zch e),bxv 1 1 [I z],bxv 1 4 (zKF f),bxv v' 4 (zKF l')])
 |[],i,v,l,hd,hi=>by
  have ee:i=ps.length:=by
   have:=congrArg List.length hd;simp at this;omega
  subst ee;refine⟨v,l,?_⟩;rw[ZfM Zja.eq_1];simp
 |p::r,i,v,l,hd,hi=>by
  have g1:i<ps.length:=by
   have:=congrArg List.length hd;simp at this;omega
  have g2:ps[i]=p:=by rw[Go.jx g1]at hd;exact(j6 hd).1
  have g3:ps.drop (i+1)=r:=by rw[Go.jx g1]at hd;exact(j6 hd).2
  have hw:=zB (i:=i) (by omega);have hci:(i:Int)<ps.length:=by omega
  have hP:=Zme z p;cases hz:onZ z p with
  |true =>
   rw[hz]at hP;obtain⟨v',l',ih⟩:=ZmI S e z zn ps hs f r (i+1) (v+1) p g3 (by omega);refine⟨v',l',?_⟩;rw[<-ih];simp only[zKF]at hP;rw[ZfM Zja.eq_1];simp[hci,g1,g2,hw,hP,zKF,zr,-Int.natCast_add]
  |false =>
   rw[hz]at hP;obtain⟨v',l',ih⟩:=ZmI S e z zn ps hs f r (i+1) v l g3 (by omega);refine⟨v',l',?_⟩;rw[<-ih];simp only[zKF]at hP;rw[ZfM Zja.eq_1];simp[hci,g1,g2,hw,hP,zKF,zr,-Int.natCast_add]
theorem Zm0(S:StV)(e:Ego)(zn:Nat)(hzn:zn<=1000)(ps:List Pss)(hs:ps.length<=1000)(hp:∀p∈ps,e.shi<p.lo):∀(f z:Nat),z+f=zn ->
  Y L Cs Zi9 (some [66,65,3,1,4]) 2 [(66,.w (W z)),(65,.w (W zn)),(3,.w (Pt 1)),(1,.w (Pt 0)),(4,.w (.c (.jb (zKd ps))))] [bx 19 (ZlR S),bxv 1 4 (zch e)] =
    some (.exit 0,[(67,.w (Bo false)),(66,.w (W zn)),(65,.w (W zn)),(3,.w (Pt 1)),(1,.w (Pt 0)),(4,.w (.c (.jb (zKd ps))))],[bx 19 (ZlR S),bxv 1 4 (zch e)])
 |0,z,h=>by
  obtain rfl:z=zn:=by omega
  rw[ZfM Zi9.eq_1];simp
 |f+1,z,h=>by
  have ih:=Zm0 S e zn hzn ps hs hp f (z+1) (by omega);have hw:=zB (i:=z) (by omega);have hci:(z:Int)<zn:=by omega
  have hC:=ZmU z ps hs;rw[<-ih];cases ha:ps.any (onZ z)with
  |false =>
   rw[ha]at hC;rw[ZfM Zi9.eq_1];simp[hci,hw,hC,zr,-Int.natCast_add]
  |true =>
   rw[ha]at hC;obtain⟨k,hk,hI⟩:=Znu z ps hs ha;obtain⟨v',l',hL⟩:=ZmI S e z zn ps hs ps[k] ps 0 1 ps[k] rfl (jp _);have hlo:¬ps[k].lo<=e.shi:=by have:=hp _ (jf hk);omega
   simp only[pkE,zKF,jg]at hL;rw[ZfM Zi9.eq_1];simp[hci,hw,hC,hI,hk,hL,hlo,zKF,zr,-Int.natCast_add]
structure Zlr(S:StV)(zs:List Zon):Prop where
 v:S.e0.vlo=0/\S.e0.vhi=0
 s:S.e0.slo<=S.e0.shi/\S.car.len<S.e0.slo/\S.e0.shi-S.e0.slo<S.car.len
 far:S.e0.shi<=zmd S.m 0 S.r
 big:S.e0.shi<=1000000000
 pas:∀p∈zKh S.m zs 0 S.r,S.e0.shi<p.lo
 kind:zaK S.m (S.r.headD 0)=1
 t:0<=S.t0/\S.t0<=50000
theorem ZnI{S:StV}{zs:List Zon}{ss:List Sgn}(hS:z6u S zs ss)(hB:Zlr S zs):R L Cs ZmL [.a (ZlR S)] []=some (.w (Bo true),[]):=by
 have hf:=hS.full.full;obtain⟨v1,v2⟩:=hB.v;obtain⟨s1,s2,s3⟩:=hB.s;obtain⟨q1,q2,_⟩:=hS.car;have hE:=zsq hf.qO hS.vU;have hP:=zPm hf hS.vU (hS.full.srt _ hS.vU) (hS.full.few _ hS.vU);have hfew:=hS.full.few _ hS.vU;have hz:S.m.qR.length=zs.length:=by have:=hf.zd.z;rw[this];simp[zk8]
 have hL:=Zm0 S S.e0 S.m.qR.length (by have:=hS.full.two;omega) (zKh S.m zs 0 S.r) (by omega) hB.pas S.m.qR.length 0 (by omega);have hpe:(ZlR S).length=19:=rfl;have hfar:=hB.far;have CL:=hB.big;have w1:IntKind.i64.wrap (S.e0.shi-S.e0.slo)=S.e0.shi-S.e0.slo:=zTd _ (by omega) (by omega);have d1:¬S.e0.shi<S.e0.slo:=by omega
 have d2:¬S.e0.slo<=S.car.len:=by omega
 have d3:¬S.car.len<=S.e0.shi-S.e0.slo:=by omega
 have d4:¬zmd S.m 0 S.r<S.e0.shi:=by omega
 generalize zKh S.m zs 0 S.r=ps at *;simp only[zf,zch,v1,v2,jg]at hE hP hL;rw[zUa ZmM rfl];simp[ZjK,v1,v2,d1,d2,d3,d4,w1,hE,hP,hL]
theorem Zl1{f esz bytes:Nat}(hN:L.lookup f=none)(hL:Cs.lookup f=some (esz,bytes,false))(h0:0<esz){rows:List (List Cl)}(hr:rows.length*bytes<=140737488355328)(h:∀x∈rows,x.length=esz):R L Cs f [.c (.jb rows)] []=some (.w (.c (sl 0 esz rows)),[some (own esz rows)]):=by
 have h1:¬esz=0:=by omega
 rw[zrP hN];simp[ux,hL,zuh,hr,h1,h0];exact h
theorem Zmx(l:List Int)(hl:l.length<=100000):R L Cs Zmb [.c (.jb (zu l))] []=some (.w (.c (sl 0 1 (zu l))),[some (own 1 (zu l))]) :=
 Zl1 (esz:=1) (bytes:=8) rfl (by kernel_rfl) (by decide) (by rw[zfq];omega) (fun x hx=>by obtain⟨y,_,rfl⟩:=jX.1 hx;rfl)
theorem Zna(l:List Prt)(hl:l.length<=100000):R L Cs Zl4 [.c (.jb (zkl l))] []=some (.w (.c (sl 0 4 (zkl l))),[some (own 4 (zkl l))]) :=
 Zl1 (esz:=4) (bytes:=32) rfl (by kernel_rfl) (by decide) (by rw[zCq];omega) (fun x hx=>by obtain⟨y,_,rfl⟩:=jX.1 hx;rfl)
theorem Zm2(l:List Phs)(hl:l.length<=100000):R L Cs ZlY [.c (.jb (zje l))] []=some (.w (.c (sl 0 2 (zje l))),[some (own 2 (zje l))]) :=
 Zl1 (esz:=2) (bytes:=32) rfl (by kernel_rfl) (by decide) (by rw[zCr];omega) (fun x hx=>by obtain⟨y,_,rfl⟩:=jX.1 hx;rfl)
abbrev Zma(l:List (Int×Int)):List (List Cl):=l.map fun p=>[I p.1,I p.2]
theorem Zm9(l:List (Int×Int))(hl:l.length<=100000):R L Cs Zl3 [.c (.jb (Zma l))] []=some (.w (.c (sl 0 2 (Zma l))),[some (own 2 (Zma l))]) :=
 Zl1 (esz:=2) (bytes:=16) rfl (by kernel_rfl) (by decide) (by rw[ko];omega) (fun x hx=>by obtain⟨y,_,rfl⟩:=jX.1 hx;rfl)
theorem Zny(l:List (Int×Int))(hl:l.length<=100000):R L Cs ZmS [.a [.jb (Zma l)]] []=some (.w (.a [.jb (Zma l)]),[]):=by
 have h:=Zm9 l hl;have hh:R L Cs ZmC [.c (.jb (Zma l))] []=some (.w (.a [.jb (Zma l)]),[]):=by
  rw[zUa ZmH rfl];simp[ZjA,h,zX];exact jA (by simp)
 rw[zUa ZmZ rfl];simp[ZjU,hh,zX]
theorem Znx(l:zfn)(h1:l.pts.length<=100000)(h2:l.next.length<=100000):R L Cs ZlO [.a (zo l)] []=some (.w (.a (zo l)),[]):=by
 have g1:=Zny l.pts h1;have g2:=Zmx l.next h2;rw[zUa ZmF rfl];simp[Zjy,zo,g1,g2,zX]
theorem Znv(z:Zon)(h:z.parts.length<=100000):R L Cs ZlM [.a (zdP z)] []=some (.w (.a (zdP z)),[]):=by
 have g:=Zna z.parts h;have ht:(zkl z.parts).take z.parts.length=zkl z.parts:=jA (by simp);rw[zUa ZmD rfl];simp[Zjw,zdP,g,ht,zX]
theorem Znw(w:zCP):R L Cs ZlN [.a (zaL w)] []=some (.w (.a (zaL w)),[]):=by
 rw[zUa ZmE rfl];simp[Zjx,zaL]
theorem Znh(s:Sgn)(u0:Nat)(hl:s.ka.length<=1000)(hg:∀p∈s.ka,p.green.length<=100000):∀(f i v:Nat),i+f=s.ka.length ->
  ∃v',Y L Cs Ziy (some [11,10,2,1]) 3 [(11,.w (W i)),(10,.w (W s.ka.length)),(2,.w (Pt 1)),(1,.w (Pt 0))] [bxv u0 2 [I s.offset,.slice 2 s.ka.length 2 0 s.ka.length none],bx 2 [I 0,.jc],some { box:=false,esz:=2,rows:=zje s.ka,gen:=s.ka.length,fz:=false,ver:=v }] =
   some (.exit 0,[(12,.w (Bo false)),(11,.w (W s.ka.length)),(10,.w (W s.ka.length)),(2,.w (Pt 1)),(1,.w (Pt 0))],[bxv u0 2 [I s.offset,.slice 2 s.ka.length 2 0 s.ka.length none],bx 2 [I 0,.jc],some { box:=false,esz:=2,rows:=zje s.ka,gen:=s.ka.length,fz:=false,ver:=v' }])
 |0,i,v,h=>by
  obtain rfl:i=s.ka.length:=by omega
  refine⟨v,?_⟩;rw[ZfM Ziy.eq_1];simp
 |f+1,i,v,h=>by
  have h1:i<s.ka.length:=by omega
  have hw:=zB (i:=i) (by omega);have hci:(i:Int)<s.ka.length:=by omega
  obtain⟨v',ih⟩:=Znh s u0 hl hg f (i+1) (v+1) (by omega);refine⟨v',?_⟩;rw[<-ih];have hK:=Zmx s.ka[i].green (hg _ (jf h1));have kX:(zje s.ka)[i]?=some [I s.ka[i].vl,.jb (zu s.ka[i].green)]:=by simp[zje,h1,zr6]
  have AP:(zje s.ka).set i [I s.ka[i].vl,.jb (zu s.ka[i].green)]=zje s.ka:=by
   apply qZ;intro k;by_cases hk:i=k
   ·subst hk;rw[kc (by simpa using h1),kX]
   ·rw[jH hk]
  have ht:(zu s.ka[i].green).take s.ka[i].green.length=zu s.ka[i].green:=jA (by simp);rw[ZfM Ziy.eq_1];simp[hci,h1,hw,kX,AP,hK,ht,zr6,zX,-Int.natCast_add]
theorem Zm4(s:Sgn)(hl:s.ka.length<=1000)(hg:∀p∈s.ka,p.green.length<=100000):R L Cs ZlK [.a (zeq s)] []=some (.w (.a (zeq s)),[]):=by
 have hK:=Zm2 s.ka (by omega);obtain⟨v',hL⟩:=Znh s 1 hl hg s.ka.length 0 s.ka.length (by omega);have ht:(zje s.ka).take s.ka.length=zje s.ka:=jA (by simp);simp only[jg]at hL;rw[zUa Zmo rfl];simp[Zi5,zeq,hK,hL,ht,zX]
theorem Zl9(l:List zfn)(hl:l.length<=1000)(h:∀x∈l,(x.pts.length<=100000/\x.next.length<=100000)):∀(r:List zfn) (i:Nat),l.drop i=r->i<=l.length ->
  Y L Cs ZiB (some [5,10,9,8,1]) 2 [(5,.w (.c (sl 1 5 ((l.take i).map zo)))),(10,.w (W i)),(9,.w (W l.length)),(8,.w (.c (.jb (l.map zo)))),(1,.w (.c (.fn ZlO [] [])))] [gb 5,some (own 5 ((l.take i).map zo))] =
    some (.exit 0,[(11,.w (Bo false)),(5,.w (.c (sl 1 5 (l.map zo)))),(10,.w (W l.length)),(9,.w (W l.length)),(8,.w (.c (.jb (l.map zo)))),(1,.w (.c (.fn ZlO [] [])))],[gb 5,some (own 5 (l.map zo))])
 |[],i,hd,hi=>by
  have e:i=l.length:=by
   have:=congrArg List.length hd;simp at this;omega
  subst e;rw[kJ,ZfM ZiB.eq_1];simp
 |x::r,i,hd,hi=>by
  have g1:i<l.length:=by
   have:=congrArg List.length hd;simp at this;omega
  have g2:l[i]=x:=by rw[Go.jx g1]at hd;exact(j6 hd).1
  have g3:l.drop (i+1)=r:=by rw[Go.jx g1]at hd;exact(j6 hd).2
  have hx:x∈l:=by rw[<-g2];exact jf g1
  have hw:=zB (i:=i) (by omega);have hci:(i:Int)<l.length:=by omega
  have hO:=Znx x (h x hx).1 (h x hx).2;have ih:=Zl9 l hl h r (i+1) g3 (by omega);have et:(l.take (i+1)).map zo=(l.take i).map zo++[zo x]:=by rw[uv,jq g1,g2];simp
  have kX:(l.map zo)[i]?=some (zo x):=by simp[g1,g2]
  have hlen:((l.take i).map zo).length=i:=by simp;omega
  rw[<-ih,et];have hr:(i+1)*72<=140737488355328:=by omega
  generalize (l.take i).map zo=q at *;subst hlen;simp only[zo]at hO kX;rw[ZfM ZiB.eq_1];simp[hci,g1,g2,hw,kX,hO,hr,zo,-Int.natCast_add]
theorem Znf(l:List zfn)(hl:l.length<=1000)(h:∀x∈l,(x.pts.length<=100000/\x.next.length<=100000)):R L Cs Zmk [.c (.jb (l.map zo)),.c (.fn ZlO [] [])] []=some (.w (.c (.jb (l.map zo))),[]):=by
 have hL:=Zl9 l hl h l 0 rfl (jp _);have ht:(l.map zo).take l.length=l.map zo:=jA (by simp);simp only[yb,qm,sl,own,jo,ko,jg]at hL;rw[zUa Zmr rfl];simp[Zi8,hL,ht,zr]
theorem Zl7(l:List Zon)(hl:l.length<=1000)(h:∀x∈l,(x.parts.length<=100000)):∀(r:List Zon) (i:Nat),l.drop i=r->i<=l.length ->
  Y L Cs Ziz (some [5,10,9,8,1]) 2 [(5,.w (.c (sl 1 2 ((l.take i).map zdP)))),(10,.w (W i)),(9,.w (W l.length)),(8,.w (.c (.jb (l.map zdP)))),(1,.w (.c (.fn ZlM [] [])))] [gb 2,some (own 2 ((l.take i).map zdP))] =
    some (.exit 0,[(11,.w (Bo false)),(5,.w (.c (sl 1 2 (l.map zdP)))),(10,.w (W l.length)),(9,.w (W l.length)),(8,.w (.c (.jb (l.map zdP)))),(1,.w (.c (.fn ZlM [] [])))],[gb 2,some (own 2 (l.map zdP))])
 |[],i,hd,hi=>by
  have e:i=l.length:=by
   have:=congrArg List.length hd;simp at this;omega
  subst e;rw[kJ,ZfM Ziz.eq_1];simp
 |x::r,i,hd,hi=>by
  have g1:i<l.length:=by
   have:=congrArg List.length hd;simp at this;omega
  have g2:l[i]=x:=by rw[Go.jx g1]at hd;exact(j6 hd).1
  have g3:l.drop (i+1)=r:=by rw[Go.jx g1]at hd;exact(j6 hd).2
  have hx:x∈l:=by rw[<-g2];exact jf g1
  have hw:=zB (i:=i) (by omega);have hci:(i:Int)<l.length:=by omega
  have hO:=Znv x (h x hx);have ih:=Zl7 l hl h r (i+1) g3 (by omega);have et:(l.take (i+1)).map zdP=(l.take i).map zdP++[zdP x]:=by rw[uv,jq g1,g2];simp
  have kX:(l.map zdP)[i]?=some (zdP x):=by simp[g1,g2]
  have hlen:((l.take i).map zdP).length=i:=by simp;omega
  rw[<-ih,et];have hr:(i+1)*32<=140737488355328:=by omega
  generalize (l.take i).map zdP=q at *;subst hlen;simp only[zdP]at hO kX;rw[ZfM Ziz.eq_1];simp[hci,g1,g2,hw,kX,hO,hr,zdP,-Int.natCast_add]
theorem Znd(l:List Zon)(hl:l.length<=1000)(h:∀x∈l,(x.parts.length<=100000)):R L Cs Zmi [.c (.jb (l.map zdP)),.c (.fn ZlM [] [])] []=some (.w (.c (.jb (l.map zdP))),[]):=by
 have hL:=Zl7 l hl h l 0 rfl (jp _);have ht:(l.map zdP).take l.length=l.map zdP:=jA (by simp);simp only[yb,qm,sl,own,jo,ko,jg]at hL;rw[zUa Zmp rfl];simp[Zi6,hL,ht,zr]
theorem ZlX(l:List Sgn)(hl:l.length<=1000)(h:∀x∈l,(x.ka.length<=1000/\∀p∈x.ka,p.green.length<=100000)):∀(r:List Sgn) (i:Nat),l.drop i=r->i<=l.length ->
  Y L Cs Zik (some [5,10,9,8,1]) 2 [(5,.w (.c (sl 1 2 ((l.take i).map zeq)))),(10,.w (W i)),(9,.w (W l.length)),(8,.w (.c (.jb (l.map zeq)))),(1,.w (.c (.fn ZlK [] [])))] [gb 2,some (own 2 ((l.take i).map zeq))] =
    some (.exit 0,[(11,.w (Bo false)),(5,.w (.c (sl 1 2 (l.map zeq)))),(10,.w (W l.length)),(9,.w (W l.length)),(8,.w (.c (.jb (l.map zeq)))),(1,.w (.c (.fn ZlK [] [])))],[gb 2,some (own 2 (l.map zeq))])
 |[],i,hd,hi=>by
  have e:i=l.length:=by
   have:=congrArg List.length hd;simp at this;omega
  subst e;rw[kJ,ZfM Zik.eq_1];simp
 |x::r,i,hd,hi=>by
  have g1:i<l.length:=by
   have:=congrArg List.length hd;simp at this;omega
  have g2:l[i]=x:=by rw[Go.jx g1]at hd;exact(j6 hd).1
  have g3:l.drop (i+1)=r:=by rw[Go.jx g1]at hd;exact(j6 hd).2
  have hx:x∈l:=by rw[<-g2];exact jf g1
  have hw:=zB (i:=i) (by omega);have hci:(i:Int)<l.length:=by omega
  have hO:=Zm4 x (h x hx).1 (h x hx).2;have ih:=ZlX l hl h r (i+1) g3 (by omega);have et:(l.take (i+1)).map zeq=(l.take i).map zeq++[zeq x]:=by rw[uv,jq g1,g2];simp
  have kX:(l.map zeq)[i]?=some (zeq x):=by simp[g1,g2]
  have hlen:((l.take i).map zeq).length=i:=by simp;omega
  rw[<-ih,et];have hr:(i+1)*32<=140737488355328:=by omega
  generalize (l.take i).map zeq=q at *;subst hlen;simp only[zeq]at hO kX;rw[ZfM Zik.eq_1];simp[hci,g1,g2,hw,kX,hO,hr,zeq,-Int.natCast_add]
theorem ZmW(l:List Sgn)(hl:l.length<=1000)(h:∀x∈l,(x.ka.length<=1000/\∀p∈x.ka,p.green.length<=100000)):R L Cs Zl5 [.c (.jb (l.map zeq)),.c (.fn ZlK [] [])] []=some (.w (.c (.jb (l.map zeq))),[]):=by
 have hL:=ZlX l hl h l 0 rfl (jp _);have ht:(l.map zeq).take l.length=l.map zeq:=jA (by simp);simp only[yb,qm,sl,own,jo,ko,jg]at hL;rw[zUa Zl6 rfl];simp[ZiK,hL,ht,zr]
theorem Zl8(l:List zCP)(hl:l.length<=1000)(h:∀x∈l,True):∀(r:List zCP) (i:Nat),l.drop i=r->i<=l.length ->
  Y L Cs ZiA (some [5,10,9,8,1]) 2 [(5,.w (.c (sl 1 6 ((l.take i).map zaL)))),(10,.w (W i)),(9,.w (W l.length)),(8,.w (.c (.jb (l.map zaL)))),(1,.w (.c (.fn ZlN [] [])))] [gb 6,some (own 6 ((l.take i).map zaL))] =
    some (.exit 0,[(11,.w (Bo false)),(5,.w (.c (sl 1 6 (l.map zaL)))),(10,.w (W l.length)),(9,.w (W l.length)),(8,.w (.c (.jb (l.map zaL)))),(1,.w (.c (.fn ZlN [] [])))],[gb 6,some (own 6 (l.map zaL))])
 |[],i,hd,hi=>by
  have e:i=l.length:=by
   have:=congrArg List.length hd;simp at this;omega
  subst e;rw[kJ,ZfM ZiA.eq_1];simp
 |x::r,i,hd,hi=>by
  have g1:i<l.length:=by
   have:=congrArg List.length hd;simp at this;omega
  have g2:l[i]=x:=by rw[Go.jx g1]at hd;exact(j6 hd).1
  have g3:l.drop (i+1)=r:=by rw[Go.jx g1]at hd;exact(j6 hd).2
  have hw:=zB (i:=i) (by omega);have hci:(i:Int)<l.length:=by omega
  have hO:=Znw x;have ih:=Zl8 l hl h r (i+1) g3 (by omega);have et:(l.take (i+1)).map zaL=(l.take i).map zaL++[zaL x]:=by rw[uv,jq g1,g2];simp
  have kX:(l.map zaL)[i]?=some (zaL x):=by simp[g1,g2]
  have hlen:((l.take i).map zaL).length=i:=by simp;omega
  rw[<-ih,et];have hr:(i+1)*48<=140737488355328:=by omega
  generalize (l.take i).map zaL=q at *;subst hlen;simp only[zaL]at hO kX;rw[ZfM ZiA.eq_1];simp[hci,g1,g2,hw,kX,hO,hr,zaL,-Int.natCast_add]
theorem Zne(l:List zCP)(hl:l.length<=1000)(h:∀x∈l,True):R L Cs Zmj [.c (.jb (l.map zaL)),.c (.fn ZlN [] [])] []=some (.w (.c (.jb (l.map zaL))),[]):=by
 have hL:=Zl8 l hl h l 0 rfl (jp _);have ht:(l.map zaL).take l.length=l.map zaL:=jA (by simp);simp only[yb,qm,sl,own,jo,ko,jg]at hL;rw[zUa Zmq rfl];simp[Zi7,hL,ht,zr]
theorem ZnH{m:zD}{zs:List Zon}{ss:List Sgn}(hF:zKj m zs ss):R L Cs ZmR [.a (zf m)] []=some (.w (.a (zf m)),[]):=by
 have hf:=hF.full;have hz:=hf.zd.z;have hs:=hf.zd.s;have h1:=Znf m.jd (by have:=hf.yn.few;omega) (fun l hl=>by
  obtain⟨x0,y0,x1,y1,e,_⟩:=hf.one.one l hl;refine⟨by rw[e];simp,?_⟩;have:=hf.qO.small.next l hl;omega)
 have h2:=Znd zs (by have:=hF.two;omega) (fun z hq=>by have:=hf.zd.pfew z hq;omega);have h3:=ZmW ss (by have:=hf.zd.sfew;omega) (fun s hq=>by
  have:=hf.zd.ph s hq;exact⟨by have:=this.few;omega,fun p hp=>by have:=this.green p hp;omega⟩)
 have h4:=Zne m.kS hF.kS (fun _ _=>trivial);rw[zUa ZmY rfl];simp only[zk8,zjd]at hz hs;simp[ZjT,zf,hz,hs,h1,h2,h3,h4]
theorem ZmV{S:StV}{zs:List Zon}{ss:List Sgn}(hS:z6u S zs ss):R L Cs Zmv [.a (ZlR S)] []=some (.w (.a (ZlR S)),[]):=by
 have h1:=ZnH hS.full;have hr2:=zlP hS.full.full.yn hS.vU;have h2:=Zmx S.r (by omega);simp only[zf]at h1;rw[zUa Zmz rfl];simp[Zjm,h1,h2,zX]
theorem ZmX{S:StV}{zs:List Zon}{ss:List Sgn}(hS:z6u S zs ss)(hB:Zlr S zs):R L Cs Zmd [.a (ZlR S)] []=some (.w (W 0),[]):=by
 have hf:=hS.full.full;have hr2:=zlP hf.yn hS.vU;obtain⟨hon,hne,hl8⟩:=zg1 hf.qO hS.vU;have h1:=hf.qO.chk;have h2:=zQC hf.qO hS.full.fit.1;have h3:=zos S.m hf.qO.small h1 S.r (by omega);rw[hS.vU]at h3;have h4:=Pl.Aq hS.car;have h5:=ZnI hS hB;have hk:=hB.kind;have hb:=hS.bud;have hs:=hS.sil;have ht:=hB.t;obtain⟨x,r,hr⟩:∃x r,S.r=x::r:=by cases h:S.r with|nil=>exact absurd h hne|cons x r=>exact⟨x,r,rfl⟩
 have hx:=hon x (by rw[hr];exact jr);obtain⟨j,rfl⟩:=jB hx.1;have hj:j<S.m.jd.length:=by omega
 rw[hr]at hk;have hk2:S.m.jd[j].kind=1:=by
  simpa [zaK,hj]using hk
 have d1:¬S.t0<0:=by omega
 have d2:¬(1099510627776:Int)<S.t0:=by omega
 have d3:¬S.kH<0:=by omega
 have d4:¬(8:Int)<S.kH:=by omega
 have d5:¬S.vJ<0:=by omega
 have d6:¬(1000:Int)<S.vJ:=by omega
 have vn:(zu S.r)[0]?=some [I (j:Int)]:=by rw[hr];rfl
 have hlen:0<S.r.length:=by rw[hr];simp
 have hg0:∀h:0<S.r.length,S.r[0]=(j:Int):=fun h=>by simp[hr]
 simp only[zf,Pl.kR]at h1 h2 h3 h4;rw[zUa Zmg rfl];simp[ZiX,h1,h2,h3,h4,h5,d1,d2,d3,d4,d5,d6,hlen,hg0,hj,zo,hk2]
def nd0(S:StV):NdV:=⟨S.t0,S.t0,S.t0,1,[0],0,[0],Zhv S ⟨S.t0,zTA 0 S.m.jd,S.e0⟩,0⟩
def rg0(S:StV):RgV:=⟨0,0,0,0,0,0,true,Zhv S ⟨S.t0,zTA 0 S.m.jd,S.e0⟩⟩
set_option maxRecDepth 100000
open Go Go.Eng Go.PlanLaw
def zT7:List Pss->Bool
 |[]=>true
 |[_]=>true
 |[p,q]=>decide (p.lo<=q.lo)&&decide (p.hi<=q.hi)&&decide (q.lo<=p.hi+300)
 |_=>false
def zTY(ps:List Pss)(z:Int):Bool:=zT7 (ps.filter fun p=>decide (p.qc=z))
theorem zT6(k:Nat)(hk:k<7)(lim r o1 o2 o3 v:Int)(ws:List zCP):zTx (zq k lim r o1 o2 o3 v ws) (fun l=>(List.range (zsP k r).length).all fun z=>zTY (zKh (zq k lim r o1 o2 o3 v ws) (zsP k r) 0 l) z)=true:=match k,hk with
 |0,_=>by kernel_rfl
 |1,_=>by kernel_rfl
 |2,_=>by kernel_rfl
 |3,_=>by kernel_rfl
 |4,_=>by kernel_rfl
 |5,_=>by kernel_rfl
 |6,_=>by kernel_rfl
theorem zT3(k:Nat)(hk:k<7)(lim r o1 o2 o3 v:Int)(ws:List zCP):zaK (zq k lim r o1 o2 o3 v ws) ((zDT (zq k lim r o1 o2 o3 v ws) 0).headD 0)=1:=match k,hk with
 |0,_=>by kernel_rfl
 |1,_=>by kernel_rfl
 |2,_=>by kernel_rfl
 |3,_=>by kernel_rfl
 |4,_=>by kernel_rfl
 |5,_=>by kernel_rfl
 |6,_=>by kernel_rfl
set_option maxRecDepth 10000
open Go Go.Eng Go.PlanLaw
theorem zTQ{m:zD}(h:zcp m):∀(r:List zfn) (i:Nat),m.jd.drop i=r->∀b∈zTA i r,VB m b/\(i:Int)<=b.lane
 |[],i,_,b,hb=>by cases hb
 |l::r,i,hd,b,hb=>by
  obtain⟨hi,hx,hd'⟩:=zL hd;unfold zTA at hb;rcases jK.1 hb with rfl|hb
  ·have hlen:z8 m (i:Int)=l.len:=by simp[z8,hi,hx]
   have hl1:=h.Cj l (by rw[<-hx];exact jf hi);have htop:0<=zeR l.kind:=by unfold zeR;(repeat' split)<;>omega
   have hkd:zaK m (i:Int)=l.kind:=by simp[zaK,hi,hx]
   refine⟨⟨⟨by simp[zTF],by simp[zTF];omega⟩,by simp[zTF],by simp[zTF];omega,by simp[zTF,hlen],by simp[zTF],by simpa [zTF]using htop,by simp[zTF,hkd],by simp[zTF,hlen];omega⟩,by simp[zTF]⟩
  ·have:=zTQ h r (i+1) hd' b hb;exact⟨this.1,by omega⟩
theorem zTX{m:zD}(h:zcp m):∀(r:List zfn) (i:Nat),m.jd.drop i=r->(zTA i r).Pairwise Apt
 |[],i,_=>List.Pairwise.nil
 |l::r,i,hd=>by
  obtain⟨hi,hx,hd'⟩:=zL hd;unfold zTA;refine jW.2 ⟨fun b hb=>.inl ?_,zTX h r (i+1) hd'⟩;have:=(zTQ h r (i+1) hd' b hb).2;show(i:Int)<b.lane;omega
open Go Go.Eng
theorem KNd.zero{S:StV}{zs:List Zon}{ss:List Sgn}(hS:z6u S zs ss)(hB:Zlr S zs):KNd S.m ⟨S.t0,zTA 0 S.m.jd,S.e0⟩:=by
 have hg:=hS.full.full.qO;obtain⟨v1,v2⟩:=hB.v;obtain⟨s1,s2,s3⟩:=hB.s;obtain⟨q1,q2,_⟩:=hS.car;have hb:=hB.big;have ht:=hB.t;refine⟨⟨fun b hb=>(zTQ hg S.m.jd 0 rfl b hb).1,zTX hg S.m.jd 0 rfl,⟨⟨by simp only;omega,by simp only;omega,by simp only;omega⟩,⟨by simp only;omega,by simp only;omega,by simp only;omega⟩⟩⟩,by simp only;omega⟩
theorem KB.zero{S:StV}{zs:List Zon}{ss:List Sgn}(hS:z6u S zs ss)(hB:Zlr S zs):KB S.m (Zhv S ⟨S.t0,zTA 0 S.m.jd,S.e0⟩):=by
 have hb:=hB.big;have ht:=hB.t;exact⟨(KNd.zero hS hB).own,by simp only[Zhv];omega,by simp only[Zhv];omega⟩
abbrev Zn3(S:StV):List Cl:=[I S.m.version,.jb (S.m.jd.map zo),.jb S.m.qR,.jb S.m.signals,.jb (S.m.kS.map zaL),.jb (zu S.r),I S.car.len,I S.car.qN,I S.car.qj,I S.car.v6,I S.car.ub,I S.e0.slo,I S.e0.shi,I S.e0.vlo,I S.e0.vhi,I S.t0,I S.kH,I S.vJ,.bool S.sig,
 I S.m.version,.jb (S.m.jd.map zo),.jb S.m.qR,.jb S.m.signals,.jb (S.m.kS.map zaL),.jb (zu S.r),.jb (zu (zW S.m 0 S.r)),I (zmd S.m 0 S.r),I S.car.len,.jb (zu (S.m.jd.map zfn.len)),.jb (zgU (srcs S)),
 I S.t0,I S.t0,I S.t0,I 1,.jb [[I 0]],.kW,.map 1 true,I 0,.jc,I 0,.jc,I 0,I 0,I 0,I 0,I 0]
theorem ZnJ{S:StV}{zs:List Zon}{ss:List Sgn}(hS:z6u S zs ss)(v:Nat){k:zci}(hk:k.jU.length<=300000000)(he:znd k.ego):R L Cs Zjk [Pt 0,.a (zG k)] [bxv v 46 (Zn3 S),mpB 0 [] 0]=some (.w (.a (zG (Zhv S k))),[bxv v 46 (Zn3 S),mpB 0 [] 0]):=by
 have hG:=hS.full.full.qO;obtain⟨hon,hne,hl8⟩:=zg1 hG hS.vU;have hr2:=zlP hS.full.full.yn hS.vU;have hc:=hS.car;have hlen:0<=S.car.len/\S.car.len<=20000:=by obtain⟨q1,q2,_⟩:=hc;omega
 have hes:=he.s;have h1:=zor hG S.r (by omega) hon S.car.len k.ego (by omega) hlen k.jU (by
  have:2 ^ S.r.length<=2 ^ 8:=u7 (by decide) (by omega)
  calc k.jU.length*2 ^ S.r.length<=300000000*2 ^ 8:=ya hk this
   _<=100000000000:=by decide)
 have h2:=zvv k.jU (by omega);simp only[zh,zi,zch]at h1;rw[zUa Zjq rfl];simp[ZhN,zG,Zhv,h1,h2,zX,Zly]
theorem Znz{S:StV}{zs:List Zon}{ss:List Sgn}(hS:z6u S zs ss)(hB:Zlr S zs):R L Cs ZlW [.a (ZlR S)] []=some (.t [Pt 0,W 0],ndM S (nd0 S) (rg0 S) 0 [] 4 0 0):=by
 have hf:=hS.full.full;have hk:=KNd.zero hS hB;have h1:=ZmX hS hB;have h2:=ZmV hS;have h3:=zB9 hf.qO hS.vU S.car.len;have h4:=Zn6 hf.qO S.t0 S.e0;have h5:=ZnJ hS 1 (k:=⟨S.t0,zTA 0 S.m.jd,S.e0⟩) (by have:=hk.len hS;omega) hk.j.ego;have e0:(Zhv S ⟨S.t0,zTA 0 S.m.jd,S.e0⟩).tick=S.t0/\(Zhv S ⟨S.t0,zTA 0 S.m.jd,S.e0⟩).ego=S.e0:=⟨rfl,rfl⟩;unfold nd0 rg0;generalize Zhv S ⟨S.t0,zTA 0 S.m.jd,S.e0⟩=K at *;obtain⟨kt,kb,ke⟩:=K;simp only at e0;obtain⟨rfl,rfl⟩:=e0;generalize zTA 0 S.m.jd=A at *;simp only[zf,zh,zi,zG,zch,mpB,qm]at h3 h4 h5;rw[zUa ZmG rfl];simp[Zjz,h1,h2,h3,h4,h5,zr]
theorem ZnK{S:StV}(d:NdV)(g:RgV)(c:Int)(es:List Zou)(v w u:Nat)(hk:d.qC.jU.length<=100000000000) :
  R L Cs Zml [Pt 0] (ndM S d g c es v w u)=some (.w (.a (zG d.qC)),ndM S d g c es v w u):=by
 have h0:=ZkQ S d g c es v w u;have h1:=z1I d.qC hk;obtain⟨s0,s1,s2,s3,s4,n,ini,p⟩:=g;simp only[zG]at h1;rw[zUa Zmt rfl];cases ini<;>simp[ndM,ndC,rgC,mpB,bxv]at h0<;>simp[Zjc,h0,h1,zG,Zly]
set_option maxRecDepth 100000
open Go Go.Eng Go.PlanLaw
def Zn5(m:zD)(zs:List Zon)(l:List Int):Bool:=!(decide (l.headD 0∈zbK m 0 m.jd)&&decide (zaK m (l.headD 0)=1))||((zKh m zs 0 l).all (fun p=>decide (10250<p.lo))&&decide (10250<=zmd m 0 l))
theorem Zn4(k:Nat)(hk:k<7)(lim r o1 o2 o3 v:Int)(ws:List zCP):zTx (zq k lim r o1 o2 o3 v ws) (Zn5 (zq k lim r o1 o2 o3 v ws) (zsP k r))=true:=match k,hk with
 |0,_=>by kernel_rfl
 |1,_=>by kernel_rfl
 |2,_=>by kernel_rfl
 |3,_=>by kernel_rfl
 |4,_=>by kernel_rfl
 |5,_=>by kernel_rfl
 |6,_=>by kernel_rfl
structure ZnL(m:zD)(zs:List Zon)(ss:List Sgn):Prop where
 full:zKj m zs ss
 con:∀l,zdA m l=0->∀z:Nat,z<zs.length->zTY (zKh m zs 0 l) z=true
 k0:zaK m ((zDT m 0).headD 0)=1
 wl:∀w∈m.kS,0<=w.v7
 beg:∀k,zaK m ((zDT m k).headD 0)=1->(∀p∈zKh m zs 0 (zDT m k),10250<p.lo)/\10250<=zmd m 0 (zDT m k)
theorem ZnA(n:Int):∃m zs ss,ZnL m zs ss/\R L Cs zY [W n] []=some (.w (.a (zf m)),[]):=by
 obtain⟨k,lim,r,o1,o2,o3,v,ws,hk,nu,hR⟩:=zA5 n;have hF:=zTs k hk nu;refine⟨_,_,_,⟨hF,fun l hr z hz=>?_,zT3 k hk lim r o1 o2 o3 v ws,fun x hx=>?_,fun j hj=>?_⟩,hR⟩
 ·exact jy.1 (zTp hF.full.yn (zT6 k hk lim r o1 o2 o3 v ws) hr) z (uF.2 hz)
 ·obtain⟨j,hj,_,_,_,_,_,_,_,h7,_⟩:=nu.wv x hx;exact h7
 ·have hr:=zE5 hF.full hF.pos j;have hb:=zTp hF.full.yn (Zn4 k hk lim r o1 o2 o3 v ws) hr;have hne:=zFr hF.full.yn hF.pos;have hin:(zDT (zq k lim r o1 o2 o3 v ws) j).headD 0∈zbK (zq k lim r o1 o2 o3 v ws) 0 (zq k lim r o1 o2 o3 v ws).jd:=by
   have hlen:0<(zbK (zq k lim r o1 o2 o3 v ws) 0 (zq k lim r o1 o2 o3 v ws).jd).length:=ki.2 hne;unfold zDT;rw[if_neg hne,List.headD_cons];have hi:=qP (j % 1048576).toNat hlen;rw[jw,jq hi];exact jf hi
  unfold Zn5 at hb;simp only[hin,hj,decide_true,Bool.and_self,Bool.not_true,uj,jk,decide_eq_true_eq,jy]at hb;exact hb
def Zns(m:zD)(k bu si dl s sp ln ac br ra:Int)(sg:Bool):StV :=
 ⟨m,zDT m k,⟨300+ln % 4700,1+ac % 30,50+br % 41,20+ra % 101,dl % 6⟩,⟨300+ln % 4700+1+s % 5000,300+ln % 4700+1+s % 5000+sp % 250,0,0⟩,0,bu % 9,si % 12,sg⟩
theorem ZnR{m:zD}{zs:List Zon}{ss:List Sgn}(hM:ZnL m zs ss){k:Int}(hk:k=0\/zaK m ((zDT m k).headD 0)=1)(bu si dl s sp ln ac br ra:Int)(sg:Bool) :
  z6u (Zns m k bu si dl s sp ln ac br ra sg) zs ss/\Zlr (Zns m k bu si dl s sp ln ac br ra sg) zs:=by
 have hkd:zaK m ((zDT m k).headD 0)=1:=by
  rcases hk with rfl|h
  ·exact hM.k0
  ·exact h
 obtain⟨b1,b2⟩:=hM.beg k hkd;have hro:=zE5 hM.full.full hM.full.pos k;unfold Zns;refine⟨⟨hM.full,hro,?_,?_,?_⟩,⟨⟨rfl,rfl⟩,?_,?_,?_,?_,hkd,?_⟩⟩
 ·unfold Car.ok;simp only;omega
 all_goals simp only
 all_goals first |omega |skip
 intro p hp;have:=b1 p hp;omega
theorem ZnS(n r dl bu si s sp ln ac br ra:Int)(sg:Bool):∃m zs ss k,ZnL m zs ss/\(k=0\/zaK m ((zDT m k).headD 0)=1) /\
  R L Cs ZlI [.a [I n,I r,I dl,I bu,I si,I s,I sp,I ln,I ac,I br,I ra,.bool sg]] []=some (.w (.a (ZlR (Zns m k bu si dl s sp ln ac br ra sg))),[]):=by
 obtain⟨m,zs,ss,hM,hR⟩:=ZnA n;obtain⟨k,hk,hRt⟩:=zT8 hM.full.full.qO r;refine⟨m,zs,ss,k,hM,hk,?_⟩;have e1:=zEW bu 9 (by omega) (by omega);have e2:=zEW si 12 (by omega) (by omega);have e3:=zEW dl 6 (by omega) (by omega);have e4:=zD0 ln 4700 (by omega) (by omega);have e5:=zD0 ac 30 (by omega) (by omega);have e6:=zD0 br 41 (by omega) (by omega);have e7:=zD0 ra 101 (by omega) (by omega);have e8:=zD0 s 5000 (by omega) (by omega);have e9:=zD0 sp 250 (by omega) (by omega);have w1:=zTd (300+ln % 4700) (by omega) (by omega);have w2:=zTd (1+ac % 30) (by omega) (by omega);have w3:=zTd (50+br % 41) (by omega) (by omega);have w4:=zTd (20+ra % 101) (by omega) (by omega);have w5:=zTd (300+ln % 4700+1) (by omega) (by omega);have w6:=zTd (300+ln % 4700+1+s % 5000) (by omega) (by omega);have w7:=zTd (300+ln % 4700+1+s % 5000+sp % 250) (by omega) (by omega);rw[zUa ZlV rfl];simp only[zf]at hR hRt;unfold Zns;simp[Zil,hR,hRt,e1,e2,e3,e4,e5,e6,e7,e8,e9,w1,w2,w3,w4,w5,w6,w7]
set_option maxRecDepth 10000
open Go Go.Eng Go.PlanLaw
theorem zUm(m:zD)(zs:List Zon)(ss:List Sgn)(r:List Int)(c:zK8)(k:zci)(p:List Int)(signals:Bool):(zOk m zs ss r c k p signals).1=true <->
  zKW m r c k=true/\uK c p=0/\(zKr m zs ss r c.len (zKh m zs 0 r) (pvV m zs r) signals p 0 k).1=none/\fbF m r p k.tick k.ego=none/\zLQ c.len (pvV m zs r) (zKr m zs ss r c.len (zKh m zs 0 r) (pvV m zs r) signals p 0 k).2=true:=by
 unfold zOk;by_cases h:zKW m r c k=true/\uK c p=0
 ·rw[if_pos h];unfold zNw zLH;generalize zKr m zs ss r c.len (zKh m zs 0 r) (pvV m zs r) signals p 0 k=V;obtain⟨v1,v2⟩:=V;cases v1 with
  |none =>
   by_cases hs:zLQ c.len (pvV m zs r) v2=true
   ·rw[if_pos hs];cases fbF m r p k.tick k.ego with
    |none=>grind [zKX]
    |some b=>simp[zKX]
   ·rw[if_neg hs];cases fbF m r p k.tick k.ego with
    |none=>grind [zKX]
    |some b=>simp[zKX]
  |some x =>
   cases fbF m r p k.tick k.ego with
   |none=>simp[zKX]
   |some b =>
    grind [zKX]
 grind
def Zjt(S:StV)(zs:List Zon)(ss:List Sgn)(k:zci)(p:List Int):Bool:=(zOk S.m zs ss S.r S.car k p S.sig).1
structure ZkT(S:StV)(zs:List Zon)(ss:List Sgn):Prop where
 ok:z6u S zs ss
 be:Zlr S zs
 con:∀z:Nat,z<zs.length->zTY (zKh S.m zs 0 S.r) z=true
 wl:∀w∈S.m.kS,0<=w.v7
theorem InE.trans{a b c:Ego}(h:InE a b)(g:InE b c):InE a c:=⟨by have:=h.slo;have:=g.slo;omega,by have:=h.shi;have:=g.shi;omega,by have:=h.vlo;have:=g.vlo;omega,by have:=h.vhi;have:=g.vhi;omega⟩
theorem InE.refl(a:Ego):InE a a:=⟨jR _,jR _,jR _,jR _⟩
theorem InK.trans{a b c:zci}(h:InK a b)(g:InK b c):InK a c:=⟨h.tick.trans g.tick,h.ego.trans g.ego,h.bl.trans g.bl⟩
theorem KNd.le{m:zD}{k:zci}(h:KNd m k):Le k.jU:=fun x hx=>(h.j.vb x hx).le
theorem ZjX(l:List zk):Sub l l:=fun p hp=>⟨p,hp,.refl p⟩
theorem Zke{S:StV}{k:zci}(h:KNd S.m k):InK (Zhv S k) k:=⟨rfl,.refl _,(zVd S.m k.ego S.car.len S.r h.le).1⟩
theorem Zle{m:zD}{k:zci}(h:KNd m k)(x:zZP):InK (Zib m k x) k:=⟨rfl,.refl _,z0e h.le⟩
theorem Zlh(k:zci)(a b c:Int):InK (z9f k a b c).1 k:=by
 unfold z9f;split
 ·exact InK.refl k
 ·split
  ·exact InK.refl k
  ·exact⟨rfl,⟨jR _,jR _,Int.le_max_left ..,Int.min_le_left ..⟩,ZjX _⟩
theorem Zln(k:zci)(a b c:Int):InK (Zag k a b c).1 k:=by
 unfold Zag;split
 ·exact InK.refl k
 ·split
  ·exact InK.refl k
  ·exact⟨rfl,⟨Int.le_max_left ..,Int.min_le_left ..,jR _,jR _⟩,ZjX _⟩
theorem Zkn(kH:Int)(ok:List Int->Bool):∀(t:List (List Int)) (i:Nat),0<=(zK5 kH ok t i).1->∃j,j<t.length/\(zK5 kH ok t i).1=((i+j:Nat):Int)/\ok (t.getD j [])=true
 |[],i,h=>by simp[zK5]at h
 |p::t,i,h=>by
  unfold zK5 at h ⊢;split
  ·rename_i c;rw[if_pos c]at h;simp at h
  ·rename_i c;rw[if_neg c]at h;split
   ·rename_i c2;exact⟨0,by simp,by simp,by simpa using c2⟩
   ·rename_i c2;rw[if_neg c2]at h;obtain⟨j,h1,h2,h3⟩:=Zkn kH ok t (i+1) h;exact⟨j+1,by simp;omega,by rw[h2];omega,by simpa using h3⟩
theorem ZkW{S:StV}{zs:List Zon}{ss:List Sgn}(hc:S.car.ok)(d:NdV)(h:0<=(Zkd S zs ss d).1):Zjt S zs ss d.qC (ZiG S zs ss d).kT=true/\(ZiG S zs ss d).kT.length<=125:=by
 unfold ZiG;simp only[if_pos h];unfold Zkd zOU at h ⊢;obtain⟨j,h1,h2,h3⟩:=Zkn _ _ _ 0 h;unfold zMT;rw[h2,if_neg (by omega),show(((0+j:Nat):Int)).toNat=j by omega];constructor
 ·unfold okC at h3;simp only[jk,decide_eq_true_eq]at h3;obtain⟨⟨h4,h5⟩,h6⟩:=h3;unfold Zjt zOk;rw[if_pos ⟨h4,h5⟩];exact h6
 ·have hl:=fun up hold=>zOt hc (Zh2 d S.car.ub.toNat) d.uw (max 0 (min d.qC.ego.vhi 2000)) up hold (by omega)
  have hm:(zLj S.car (Zh2 d S.car.ub.toNat) d.uw d.qC).getD j []∈zLj S.car (Zh2 d S.car.ub.toNat) d.uw d.qC:=by
   rw[jw,jq h1];exact jf h1
  generalize (zLj S.car (Zh2 d S.car.ub.toNat) d.uw d.qC).getD j []=p at *;simp only[zLj,Pl.yp,jK,qf,or_false]at hm;rcases hm with rfl|rfl|rfl|rfl|rfl|rfl|rfl|rfl
  ·have:=hl 6 4;omega
  ·have:=hl 6 0;omega
  ·have:=hl 3 4;omega
  ·have:=hl 3 0;omega
  ·have:=hl 1 4;omega
  ·have:=hl 1 0;omega
  ·have:=hl 0 4;omega
  ·have:=hl 0 0;omega
theorem Zp6{a b:zci}(h:InK a b){st lo hi:Int}(ok:(z9f a st lo hi).2=true):InK (z9f a st lo hi).1 (z9f b st lo hi).1:=by
 obtain⟨h1,⟨h2,h3,h4,h5⟩,h6⟩:=h;unfold z9f at ok ⊢;by_cases c:st=a.tick
 ·rw[if_neg (by simpa using c)]at ok ⊢;rw[if_neg (show ¬st≠b.tick by rw[<-h1];simpa using c)];by_cases d:max a.ego.vlo lo>min a.ego.vhi hi
  ·rw[if_pos d]at ok;cases ok
  ·rw[if_neg d,if_neg (by omega)];exact⟨h1,⟨h2,h3,by simp only;omega,by simp only;omega⟩,h6⟩
 ·rw[if_pos c,if_pos (by rw[<-h1];exact c)];exact⟨h1,⟨h2,h3,h4,h5⟩,h6⟩
theorem ZpR{a b:zci}(h:InK a b){st lo hi:Int}(ok:(Zag a st lo hi).2=true):InK (Zag a st lo hi).1 (Zag b st lo hi).1:=by
 obtain⟨h1,⟨h2,h3,h4,h5⟩,h6⟩:=h;unfold Zag at ok ⊢;by_cases c:st=a.tick
 ·rw[if_neg (by simpa using c)]at ok ⊢;rw[if_neg (show ¬st≠b.tick by rw[<-h1];simpa using c)];by_cases d:max a.ego.slo lo>min a.ego.shi hi
  ·rw[if_pos d]at ok;cases ok
  ·rw[if_neg d,if_neg (by omega)];exact⟨h1,⟨by simp only;omega,by simp only;omega,h4,h5⟩,h6⟩
 ·rw[if_pos c,if_pos (by rw[<-h1];exact c)];exact⟨h1,⟨h2,h3,h4,h5⟩,h6⟩
theorem uC{S:StV}{a b:zci}(h:InK a b)(ha:KNd S.m a):InK (Zhv S a) (Zhv S b):=⟨h.tick,h.ego,zUG S.m h.ego S.car.len S.r h.bl ha.le⟩
theorem ZpY{m:zD}{a b:zci}(h:InK a b)(ha:KNd m a)(x:zZP):InK (Zib m a x) (Zib m b x):=⟨h.tick,h.ego,z0n h.bl ha.le⟩
theorem ZpD:∀(l:List Mrk) (k:zci) (b:Bool),(ZhZ l (k,b)).2=true->b=true
 |[],k,b,h=>h
 |x::l,k,b,h=>by
  have:=ZpD l _ (b&&(z9f k x.st x.lo x.hi).2) h;simp only[jk]at this;exact this.1
theorem Zpu{p q:List Mrk}(h:p.Sublist q):∀{a b:zci} (x y:Bool),InK a b->(ZhZ q (a,x)).2=true->InK (ZhZ q (a,x)).1 (ZhZ p (b,y)).1:=by
 induction h with
 |slnil=>exact fun _ _ h _=>h
 |@cons p q z _ ih=>exact fun x y h ok=>ih (x&&_) y ((Zlh _ z.st z.lo z.hi).trans h) ok
 |@cons_cons p q z _ ih =>
  intro a b x y h ok;have:=ZpD q _ (x&&(z9f a z.st z.lo z.hi).2) ok;simp only[jk]at this;exact ih (x&&(z9f a z.st z.lo z.hi).2) (y&&(z9f b z.st z.lo z.hi).2) (Zp6 h this.2) ok
theorem Zo9:∀(l:List Mrk) (k:zci) (b:Bool),(Zis l (k,b)).2=true->b=true
 |[],k,b,h=>h
 |x::l,k,b,h=>by
  have:=Zo9 l _ (b&&(Zag k x.st x.lo x.hi).2) h;simp only[jk]at this;exact this.1
theorem Zpk{p q:List Mrk}(h:p.Sublist q):∀{a b:zci} (x y:Bool),InK a b->(Zis q (a,x)).2=true->InK (Zis q (a,x)).1 (Zis p (b,y)).1:=by
 induction h with
 |slnil=>exact fun _ _ h _=>h
 |@cons p q z _ ih=>exact fun x y h ok=>ih (x&&_) y ((Zln _ z.st z.lo z.hi).trans h) ok
 |@cons_cons p q z _ ih =>
  intro a b x y h ok;have:=Zo9 q _ (x&&(Zag a z.st z.lo z.hi).2) ok;simp only[jk]at this;exact ih (x&&(Zag a z.st z.lo z.hi).2) (y&&(Zag b z.st z.lo z.hi).2) (ZpR h this.2) ok
theorem Zp5{S:StV}:∀(l:List zZP) (k:zci) (b:Bool),(ZiH S l (k,b)).2=true->b=true
 |[],k,b,h=>h
 |x::l,k,b,h=>by
  have:=Zp5 l _ (b&&ZiS S.m (Zhv S (Zib S.m k x)) x.pts) h;simp only[jk]at this;exact this.1
theorem Zpx{S:StV}{p q:List zZP}(h:p.Sublist q):∀{a b:zci} (x y:Bool),InK a b->KNd S.m a->InK (ZiH S q (a,x)).1 (ZiH S p (b,y)).1:=by
 induction h with
 |slnil=>exact fun _ _ h _=>h
 |@cons p q z _ ih=>exact fun x y h ha=>ih (x&&_) y (((Zke (ha.upd z)).trans (Zle ha z)).trans h) (ha.upd z).own
 |@cons_cons p q z _ ih=>exact fun x y h ha=>ih (x&&_) (y&&_) (uC (ZpY h ha z) (ha.upd z)) (ha.upd z).own
structure HLe(p q:Hrd):Prop where
 sp:p.jO.Sublist q.jO
 fx:p.kd.Sublist q.kd
 sc:p.j8.Sublist q.j8
theorem HLe.refl(p:Hrd):HLe p p:=⟨.refl _,.refl _,.refl _⟩
theorem ZoU(S:StV)(es:List Zou)(t:Int)(k:zci):znE S (znB t es) k=znE S (some (Ziq es t)) k:=by
 unfold Ziq;cases znB t es<;>rfl
theorem Zql{S:StV}{h:Hrd}{k:zci}(ok:(znE S (some h) k).2=true):(ZhZ h.jO (k,true)).2=true/\(Zis h.kd (ZhZ h.jO (k,true))).2=true:=by
 have h1:(Zis h.kd (ZhZ h.jO (k,true))).2=true:=Zp5 h.j8 _ _ ok;exact⟨Zo9 h.kd (ZhZ h.jO (k,true)).1 (ZhZ h.jO (k,true)).2 h1,h1⟩
theorem Zo4{S:StV}{p q:Hrd}(hq:HLe p q){a b:zci}(h:InK a b)(ha:KNd S.m a)(ok:(znE S (some q) a).2=true):InK (znE S (some q) a).1 (znE S (some p) b).1:=by
 obtain⟨o1,o2⟩:=Zql ok;obtain⟨k1,_⟩:=KNd.spds q.jO true ha;obtain⟨k2,_⟩:=KNd.fixs q.kd (ZhZ q.jO (a,true)).2 k1;exact Zpx hq.sc _ _ (uC (Zpk hq.fx _ _ (Zpu hq.sp true true h o1) o2) k2) (KNd.own k2)
theorem Zqa{S:StV}{zs:List Zon}{ss:List Sgn}{es:List Zou}:∀(l:List Int) (k:zci) (b:Bool),(chN S zs ss es l (k,b)).2=true->b=true
 |[],k,b,h=>h
 |x::l,k,b,h=>by
  have:=Zqa l _ (b&&(znE S (znB (k.tick+1) es) (ZhP S zs ss k x)).2) h;simp only[jk]at this;exact this.1
theorem Zpt{S:StV}{zs:List Zon}{ss:List Sgn}(hS:z6u S zs ss){a b:zci}(h:InK a b)(ha:KNd S.m a)(hb:KNd S.m b)(x:Int):InK (ZhP S zs ss a x) (ZhP S zs ss b x):=(zVi hS.full.full S.r S.car.len h ha.chk hb.chk x S.sig).1
theorem ZpL{S:StV}{zs:List Zon}{ss:List Sgn}(hS:z6u S zs ss){es es2:List Zou}:∀(l:List Int) {a b:zci} (x y:Bool),InK a b->KB S.m a->KB S.m b->(∀t,a.tick<t->HLe (Ziq es t) (Ziq es2 t))->a.tick+l.length<=100000 ->
  (chN S zs ss es2 l (a,x)).2=true->InK (chN S zs ss es2 l (a,x)).1 (chN S zs ss es l (b,y)).1
 |[],a,b,x,y,h,_,_,_,_,_=>h
 |z::l,a,b,x,y,h,ha,hb,hle,ht,ok=>by
  simp only[jl]at ht;have et:a.tick=b.tick:=h.tick;obtain⟨a1,a2⟩:=ha.step (zs:=zs) (ss:=ss) hS (by omega) z;obtain⟨b1,b2⟩:=hb.step (zs:=zs) (ss:=ss) hS (by omega) z;have o:=Zqa l _ (x&&(znE S (znB (a.tick+1) es2) (ZhP S zs ss a z)).2) ok;simp only[jk]at o;have o2:=o.2;rw[ZoU]at o2;have hf:=Zo4 (hle (a.tick+1) (by omega)) (Zpt (zs:=zs) (ss:=ss) hS h ha.nd hb.nd z) a1.nd o2;rw[<-ZoU,<-ZoU]at hf;obtain⟨a3,a4⟩:=a1.AS (znB (a.tick+1) es2);obtain⟨b3,_⟩:=b1.AS (znB (a.tick+1) es);have e:b.tick+1=a.tick+1:=by omega
  have:=ZpL hS (es:=es) (es2:=es2) l (x&&(znE S (znB (a.tick+1) es2) (ZhP S zs ss a z)).2) (y&&(znE S (znB (a.tick+1) es) (ZhP S zs ss b z)).2) hf a3 b3 (fun t ht=>hle t (by omega)) (by rw[a4,a2];omega) ok;show InK _ (chN S zs ss es l ((znE S (znB (b.tick+1) es) (ZhP S zs ss b z)).1,y&&(znE S (znB (b.tick+1) es) (ZhP S zs ss b z)).2)).1;rw[e];exact this
set_option maxRecDepth 100000
open Go Go.Eng
structure Zoz(n:Nat)(c:Int)(es:List Zou):Prop where
 few:es.length<=n
 lt:∀b∈es.map (·.born),b<c
 nb:(es.map (·.born)).Nodup
 nk:(es.map (·.key)).Nodup
 Da:∀k∈es.map (·.key),zk0 k
theorem Zoz.nil(c:Int):Zoz 0 c []:=⟨jm _,by simp,by simp,by simp,by simp⟩
theorem Zoz.mono{n m:Nat}{c:Int}{es:List Zou}(h:Zoz n c es)(hm:n<=m):Zoz m c es:=⟨jL h.few hm,h.lt,h.nb,h.nk,h.Da⟩
theorem Zpg{t:Int}:∀{es:List Zou} {i:Nat},ZiR t es i=none->t∉es.map (·.key)
 |[],i,_=>by simp
 |e::es,i,h=>by
  unfold ZiR at h;split at h
  ·cases h
  ·rename_i hc;simp only[kC,jK,not_or];exact⟨hc,Zpg h⟩
theorem Zpf{t:Int}{y:Hrd}:∀{es:List Zou} {i j:Nat},ZiR t es i=some (j,y)->∃k,j=i+k/\(es.map (·.key))[k]?=some t
 |[],i,j,h=>by simp[ZiR]at h
 |e::es,i,j,h=>by
  unfold ZiR at h;split at h
  ·rename_i hc;cases h;exact⟨0,rfl,by simp[hc]⟩
  ·obtain⟨k,h1,h2⟩:=Zpf h;exact⟨k+1,by omega,by simpa using h2⟩
theorem ZoN{α β:Type}{f:α->α}{g:α->β}:∀(l:List α) (i:Nat),(∀a,l[i]?=some a->g (f a)=g a)->(l.modify i f).map g=l.map g
 |[],i,_=>by simp
 |a::l,0,h=>by simp[h a rfl]
 |a::l,i+1,h=>by simp[ZoN l i (fun b hb=>h b (by simpa using hb))]
theorem Zoz.put{n:Nat}{q:Int×List Zou}(h:Zoz n q.1 q.2){t:Int}(ht:zk0 t)(y:Hrd):Zoz (n+1) (ZiZ t y q).1 (ZiZ t y q).2:=by
 obtain⟨c,es⟩:=q;obtain⟨h1,h2,h3,h4,h5⟩:=h;simp only at h1 h2 h3 h4 h5;unfold ZiZ;simp only;cases hf:ZiR t es 0 with
 |none =>
  simp only;have hn:=Zpg hf;refine⟨by simp;omega,fun b hb=>?_,?_,?_,fun k hk=>?_⟩
  ·simp only[qs,kC,qm,jI,jt]at hb;rcases hb with hb|rfl
   ·have:=h2 b hb;omega
   ·omega
  ·simp only[qs,kC,qm];refine List.nodup_append.2 ⟨h3,by simp,fun a ha b hb=>?_⟩;rw[jt.1 hb];have:=h2 a ha;omega
  ·simp only[qs,kC,qm];refine List.nodup_append.2 ⟨h4,by simp,fun a ha b hb=>?_⟩;rw[jt.1 hb];exact fun e=>hn (e ▸ ha)
  ·simp only[qs,kC,qm,jI,jt]at hk;rcases hk with hk|rfl
   ·exact h5 k hk
   ·exact ht
 |some r =>
  obtain⟨j,y'⟩:=r;simp only;obtain⟨k,hj,hk⟩:=Zpf hf;obtain rfl:j=k:=by omega
  have eb:(es.modify j fun e=>(⟨e.born,t,y⟩:Zou)).map (·.born)=es.map (·.born):=ZoN _ _ (fun a _=>rfl);have ek:(es.modify j fun e=>(⟨e.born,t,y⟩:Zou)).map (·.key)=es.map (·.key):=ZoN _ _ (fun a ha=>by
   rw[kG,ha]at hk;simpa using hk.symm)
  exact⟨by simp;omega,by simp only[eb];exact h2,by simp only[eb];exact h3,by simp only[ek];exact h4,by simp only[ek];exact h5⟩
theorem Zoz.del{n:Nat}{c:Int}{es:List Zou}(h:Zoz n c es)(t:Int):Zoz n c (ZjP t es):=by
 unfold ZjP;split
 ·rename_i i _ _;have hs:=List.eraseIdx_sublist es i;have hb:=hs.map (fun e:Zou=>e.born);have hk:=hs.map (fun e:Zou=>e.key);exact⟨jL hs.length_le h.few,fun b m=>h.lt b (hb.subset m),h.nb.sublist hb,h.nk.sublist hk,fun k m=>h.Da k (hk.subset m)⟩
 ·exact h
theorem Zoz.fgt{n:Nat}{c:Int}(t:Int):∀(ks:List Int) {es:List Zou},Zoz n c es->Zoz n c (Zh0 t ks es)
 |[],es,h=>h
 |k::ks,es,h=>by
  show Zoz n c (Zh0 t ks (if k<t then ZjP k es else es));split
  ·exact Zoz.fgt t ks (h.del k)
  ·exact Zoz.fgt t ks h
theorem ZpF{d:NdV}(hn:0<=d.now/\d.now<=100000){st:Int}(h:Zjv d st=true):zk0 st:=by
 unfold Zjv at h;simp only[jk,decide_eq_true_eq]at h;unfold zk0;omega
theorem Zoz.he1{n:Nat}{d:NdV}(hn:0<=d.now/\d.now<=100000){q:Int×List Zou}(h:Zoz n q.1 q.2)(y:Mrk):Zoz (n+1) (he1 d q y).1 (he1 d q y).2:=by
 unfold Go.TrRun.he1;split
 ·rename_i c;exact h.put (ZpF hn c) _
 ·exact h.mono (kO n)
theorem Zoz.he2{n:Nat}{d:NdV}(hn:0<=d.now/\d.now<=100000){q:Int×List Zou}(h:Zoz n q.1 q.2)(y:Mrk):Zoz (n+1) (he2 d q y).1 (he2 d q y).2:=by
 unfold Go.TrRun.he2;split
 ·rename_i c;exact h.put (ZpF hn c) _
 ·exact h.mono (kO n)
theorem Zoz.he3{n:Nat}{d:NdV}(hn:0<=d.now/\d.now<=100000){q:Int×List Zou}(h:Zoz n q.1 q.2)(y:zZP):Zoz (n+1) (he3 d q y).1 (he3 d q y).2:=by
 unfold Go.TrRun.he3;split
 ·rename_i c;exact h.put (ZpF hn c) _
 ·exact h.mono (kO n)
theorem Zoz.fold{α:Type}{F:Int×List Zou->α->Int×List Zou}(hF:∀n q y,Zoz n q.1 q.2->Zoz (n+1) (F q y).1 (F q y).2):∀(l:List α) {n:Nat} {q:Int×List Zou},Zoz n q.1 q.2->Zoz (n+l.length) (l.foldl F q).1 (l.foldl F q).2
 |[],n,q,h=>h
 |y::l,n,q,h=>(Zoz.fold hF l (hF n q y h)).mono (by simp;omega)
theorem Zoz.heS:∀(l:List zZP) {n:Nat} {d:NdV} (hn:0<=d.now/\d.now<=100000) {q:Int×List Zou},Zoz n q.1 q.2->Zoz (n+l.length) (heS l (d,q)).2.1 (heS l (d,q)).2.2
 |[],n,d,hn,q,h=>h
 |y::l,n,d,hn,q,h=>(Zoz.heS l (d:=heD d y) (by rw[Zkp];exact hn) (h.he3 hn y)).mono (by simp;omega)
theorem Zoz.hear{n:Nat}{d:NdV}(hn:0<=d.now/\d.now<=100000){q:Int×List Zou}(h:Zoz n q.1 q.2)(x:Zjo):Zoz (n+(x.jO.length+x.kd.length+x.j8.length)) (ZiQ d q x).2.1 (ZiQ d q x).2.2:=by
 have h1:=Zoz.fold (F:=Go.TrRun.he1 d) (fun n q y h=>h.he1 hn y) x.jO h;have h2:=Zoz.fold (F:=Go.TrRun.he2 d) (fun n q y h=>h.he2 hn y) x.kd h1;exact(Zoz.heS x.j8 hn h2).mono (by omega)
def ksE(es:List Zou):List Int:=zfI (es.map (·.key))
theorem Zpe:∀es:List Zou,Zo0 (es.map Zly)=some (es.map fun e=>(e.born,e.key))
 |[]=>rfl
 |e::es=>by simp[Zo0,Zly,Zpe es]
theorem Zpz{n:Nat}{c:Int}{es:List Zou}(h:Zoz n c es)(hn:n<=1000):ZjC c es (ksE es):=fun u=>by
 have e1:(es.map fun e=>(e.born,e.key)).map (·.1)=es.map (·.born):=by simp
 have e2:(es.map fun e=>(e.born,e.key)).map (·.2)=es.map (·.key):=by simp
 have u6:((es.map fun e=>(e.born,e.key)).all fun p=>decide (p.1<c/\-9223372036854775808<=p.2/\p.2<9223372036854775808))=true:=by
  rw[jy];intro p hp;obtain⟨e,he,rfl⟩:=jX.1 hp;have:=h.Da e.key (qI he);exact decide_eq_true ⟨h.lt e.born (qI he),by unfold zk0 at this;omega⟩
 have hl:(es.map fun e=>(e.born,e.key)).length<=1000000:=by have:=h.few;simp;omega
 have hm:=Zia (M:=[bx 1 [.map 1 true],mpB c es u]) (id:=1) rfl;rw[zrP (by kernel_rfl)];have hcs:Cs.lookup Zit=some (0,64*Zhd+1,false):=by kernel_rfl
 unfold ux;rw[hcs];have hk:ZpA Zhd (.fn Zhd [] [.ptr 0 0 0 0]) [bx 1 [.map 1 true],mpB c es u]=some (.w (.c (.jb (zu (ksE es)))),[bx 1 [.map 1 true],mpB c es u]):=by
  unfold ZpA;simp only[show Eng.look [bx 1 [.map 1 true],mpB c es u] 0 0=some { box:=true,esz:=1,rows:=[[.map 1 true]],gen:=0,fz:=false,ver:=0 } from rfl,hm,Zpe];rw[e1,e2,if_pos ⟨trivial,trivial,hl,u6,h.nb,h.nk⟩];rfl
 exact hk
theorem ZpB(x:Int):∀l:List Int,(zwP x l).length=l.length+1
 |[]=>rfl
 |y::l=>by
  unfold zwP;split
  ·rfl
  ·simp[ZpB x l]
theorem Zo1:∀l:List Int,(zfI l).length=l.length
 |[]=>rfl
 |x::l=>by simp[zfI,ZpB,Zo1 l]
theorem Zqi{n:Nat}{c:Int}{es:List Zou}(h:Zoz n c es):(ksE es).length<=n:=by
 unfold ksE;rw[Zo1,ko];exact h.few
set_option maxRecDepth 10000
open Go Go.Eng
abbrev ndX(S:StV)(d:NdV)(a b:Nat):List Cl:=[I S.m.version,.jb (S.m.jd.map zo),.jb S.m.qR,.jb S.m.signals,.jb (S.m.kS.map zaL),.jb (zu S.r),I S.car.len,I S.car.qN,I S.car.qj,I S.car.v6,I S.car.ub,I S.e0.slo,I S.e0.shi,I S.e0.vlo,I S.e0.vhi,I S.t0,I S.kH,I S.vJ,.bool S.sig,
 I S.m.version,.jb (S.m.jd.map zo),.jb S.m.qR,.jb S.m.signals,.jb (S.m.kS.map zaL),.jb (zu S.r),.jb (zu (zW S.m 0 S.r)),I (zmd S.m 0 S.r),I S.car.len,.jb (zu (S.m.jd.map zfn.len)),.jb (zgU (srcs S)),
 I d.now,I d.first,I d.last,I d.mode,.jb (zu d.kT),.ptr a 0 0 0,.map b true,I d.uw,.jb (zu d.told),I d.qC.tick,.jb (zI d.qC.jU),I d.qC.ego.slo,I d.qC.ego.shi,I d.qC.ego.vlo,I d.qC.ego.vhi,I d.looked]
theorem rg3:List.range 3=[0,1,2]:=rfl
def ZoW(S:StV)(zs:List Zon)(ss:List Sgn)(l:List Int)(k:zci):zci:=l.foldl (ZhP S zs ss) k
theorem Zpn{S:StV}{zs:List Zon}{ss:List Sgn}(hS:z6u S zs ss):∀(l:List Int) (k:zci),KB S.m k->k.tick+l.length<=100000->KB S.m (ZoW S zs ss l k)/\(ZoW S zs ss l k).tick=k.tick+l.length
 |[],k,h,ht=>⟨h,by simp[ZoW]⟩
 |a::l,k,h,ht=>by
  simp only[jl]at ht;obtain⟨h1,h2⟩:=h.step hS (by omega) a;obtain⟨h5,h6⟩:=Zpn hS l _ h1 (by rw[h2];omega);refine⟨h5,h6.trans ?_⟩;rw[h2,jl];omega
abbrev loE(i na:Nat)(A:Cl):Env:=[(21,.w (W i)),(20,.w (W na)),(19,.w (.c A)),(0,.w (Pt 0)),(3,.w (Pt 3))]
theorem Zqr(M:Mem):Y L Cs Zio (some [21,20,19,0,3]) 4 [(21,.w (W 0)),(20,.w (W 0)),(19,.w (.c .jc)),(0,.w (Pt 0)),(3,.w (Pt 3))] M=some (.exit 0,[(22,.w (Bo false)),(21,.w (W 0)),(20,.w (W 0)),(19,.w (.c .jc)),(0,.w (Pt 0)),(3,.w (Pt 3))],M):=by
 rw[ZfM Zio.eq_1];simp
theorem ZpK{S:StV}{zs:List Zon}{ss:List Sgn}(hS:z6u S zs ss)(d:NdV){g:RgV}(hg:g.na<=5)(hi0:g.ini=false)(ha:∀a∈g.jM,zk0 a)(c:Int)(es:List Zou)(v w u:Nat):∀(f i:Nat) (k:zci) (vk:Nat),i+f=g.na->KB S.m k->k.tick+f<=100000 ->
  ∃vk',Y L Cs Zio (some [21,20,19,0,3]) 4 (loE i g.na (.bsl 1 0 0 0 1 g.na 5)) (ndM S d g c es v w u++[bxv vk 6 (zG k)]) =
   some (.exit 0,(22,.w (Bo false))::loE g.na g.na (.bsl 1 0 0 0 1 g.na 5),ndM S d g c es v w u++[bxv vk' 6 (zG (ZoW S zs ss (g.jM.drop i) k))])
 |0,i,k,vk,hf,hk,ht=>by
  obtain rfl:i=g.na:=by omega
  have e:g.jM.drop g.na=[]:=qH (by simp[RgV.jM];omega);rw[e];refine⟨vk,?_⟩;obtain⟨s0,s1,s2,s3,s4,n,ini,p⟩:=g;simp only at hi0;subst hi0;rw[ZfM Zio.eq_1];simp[ZoW,Zly]
 |f+1,i,k,vk,hf,hk,ht=>by
  have hin:i<g.na:=by omega
  have e:=ZkB hg hin;have ha0:zk0 (Zir g i):=ha _ (qo (by rw[e];exact jr));obtain⟨k1,k2⟩:=hk.step hS (by omega) (Zir g i);have h1:=Zkc hS d g c es v w u hk.nd (Zir g i) ha0;obtain⟨vk',ih⟩:=ZpK hS d hg hi0 ha c es v w u f (i+1) (ZhP S zs ss k (Zir g i)) (vk+1) (by omega) k1 (by rw[k2];omega);refine⟨vk',?_⟩;have ec:ZoW S zs ss (g.jM.drop i) k=ZoW S zs ss (g.jM.drop (i+1)) (ZhP S zs ss k (Zir g i)):=by rw[e];rfl
  rw[ec,<-ih];have hw:=zB (i:=i) (by omega);have hci:(i:Int)<g.na:=by omega
  clear ih ec k1 k2;generalize ZhP S zs ss k (Zir g i)=ks at *;obtain⟨s0,s1,s2,s3,s4,n,ini,p⟩:=g;simp only at hi0 hg hin hci;subst hi0;simp only[zG]at h1;rw[ZfM Zio.eq_1];simp[ndM,ndC,rgC,mpB,bxv]at h1;have e1:(1:Int)<n<->1<n:=by omega
  have e2:(2:Int)<n<->2<n:=by omega
  have e3:(3:Int)<n<->3<n:=by omega
  have e4:(4:Int)<n<->4<n:=by omega
  rcases i with _|_|_|_|_|i
  case succ.succ.succ.succ.succ=>omega
  all_goals simp only[Zir]at h1
  all_goals have hin':=hin
  all_goals simp (config:={ failIfUnchanged:=false }) only[jF,Nat.reduceAdd]at hin'
  all_goals simp[loE,hin',e1,e2,e3,e4,h1,wk1,wk2,wk3,wk4,wk5,zG,Zly,-Int.natCast_add]
def ZoJ(S:StV)(zs:List Zon)(ss:List Sgn)(d:NdV)(g:RgV):zci:=Zhv S ⟨d.now,zTA 0 S.m.jd,(ZoW S zs ss g.jM g.jV).ego⟩
def ZoO(S:StV)(zs:List Zon)(ss:List Sgn)(d:NdV)(g:RgV):NdV:={ d with qC:=ZoJ S zs ss d g,first:=d.now,mode:=2 }
def ZoH(k:zci):RgV:=⟨0,0,0,0,0,0,true,k⟩
abbrev Zqg(S:StV)(zs:List Zon)(ss:List Sgn)(d:NdV)(g:RgV)(c:Int)(es:List Zou)(v w u a b:Nat):Mem:=[bxv v 46 (ndX S (ZoO S zs ss d g) a b),bxv w 12 (rgC 1 g),mpB c es u]
theorem ZpJ{S:StV}{zs:List Zon}{ss:List Sgn}(hS:z6u S zs ss)(d:NdV){g:RgV}(hg:ZjQ g)(ha:∀a∈g.jM,zk0 a)(hk:KB S.m g.jV)(ht:g.jV.tick+g.na<=100000)(hn:d.now=g.jV.tick+g.na)(c:Int)(es:List Zou)(v w u:Nat) :
  R L Cs ZiI [Pt 0] (ndM S d g c es v w u)=some (.w (.c (fnN ZhK)),Zqg S zs ss d g c es (v+5) w u 3 4++[bxv 0 12 (rgC 3 (ZoH (ZoJ S zs ss d g))),mpB 0 [] 0]):=by
 have hacts:g.jM.length<=g.na:=by simp[RgV.jM];omega
 obtain⟨k1,k2⟩:=Zpn (zs:=zs) (ss:=ss) hS g.jM g.jV hk (by omega);have hA:=Zn6 hS.full.full.qO d.now (ZoW S zs ss g.jM g.jV).ego;have h0:=hk.nd.t;have hkn:KNd S.m ⟨d.now,zTA 0 S.m.jd,(ZoW S zs ss g.jM g.jV).ego⟩:=⟨⟨fun b hb=>(zTQ hS.full.full.qO S.m.jd 0 rfl b hb).1,zTX hS.full.full.qO S.m.jd 0 rfl,k1.nd.j.ego⟩,by simp only;omega⟩;have hO:=ZjW hS d g c es v w u (k:=⟨d.now,zTA 0 S.m.jd,(ZoW S zs ss g.jM g.jV).ego⟩) (by have:=hkn.len hS;omega) hkn.j.ego;have eK:(ZoJ S zs ss d g).tick=d.now:=rfl;have BZ:∃vk',(g.ini=true/\g.jM=[]/\vk'=0)\/(g.ini=false/\Y L Cs Zio (some [21,20,19,0,3]) 4 (loE 0 g.na (.bsl 1 0 0 0 1 g.na 5)) (ndM S d g c es v w u++[bxv 1 6 (zG g.jV)]) =
   some (.exit 0,(22,.w (Bo false))::loE g.na g.na (.bsl 1 0 0 0 1 g.na 5),ndM S d g c es v w u++[bxv vk' 6 (zG (ZoW S zs ss g.jM g.jV))])):=by
  cases hi:g.ini with
  |true=>exact⟨0,.inl ⟨rfl,by simp[RgV.jM,hg.ini hi],rfl⟩⟩
  |false =>
   obtain⟨vk',h⟩:=ZpK hS d hg.few hi ha c es v w u g.na 0 g.jV 1 (by omega) hk ht;exact⟨vk',.inr ⟨rfl,h⟩⟩
 clear hkn k1 k2;unfold Zqg ZoO;change R L Cs _ _ _=some (_,[bxv _ _ (ndX S { d with qC:=ZoJ S zs ss d g,first:=d.now,mode:=2 } 3 4),_,_]++_);have hO':R L Cs Zjk [Pt 0,.a (zG ⟨d.now,zTA 0 S.m.jd,(ZoW S zs ss g.jM g.jV).ego⟩)] (ndM S d g c es v w u)=some (.w (.a (zG (ZoJ S zs ss d g))),ndM S d g c es v w u):=hO;clear hO;obtain⟨vk',BZ⟩:=BZ;generalize ZoJ S zs ss d g=K at *;generalize zTA 0 S.m.jd=AL at *;obtain⟨kt,kb,ke⟩:=K;rcases BZ with⟨hi,he,-⟩ |⟨hi,hL⟩
 ·rw[he]at hA hO';have h00:=hg.ini hi;have es0:ZoW S zs ss [] g.jV=g.jV:=rfl;rw[es0]at hA hO';obtain⟨s0,s1,s2,s3,s4,n,ini,p⟩:=g;simp only at hi h00;subst hi;subst h00;simp only[zf,zG,zch]at hA hO';rw[zUa ZoK rfl];simp[ndM,ndC,rgC,mpB,bxv]at hO';simp[ZiL,Zqr,hA,hO',zG,zch,Zly,zr,ZoH,rg3]
 ·generalize ZoW S zs ss g.jM g.jV=P at *;obtain⟨pt,pb,pe⟩:=P;obtain⟨s0,s1,s2,s3,s4,n,ini,p⟩:=g;simp only at hi;subst hi;simp only[zf,zG,zch,loE,ndM,ji,je,jg]at hA hO' hL;rw[zUa ZoK rfl];simp[ndC,rgC,mpB,bxv]at hO';simp (config:={ maxSteps:=400000 }) [ZiL,hL,hA,hO',zG,zch,Zly,zr,ZoH,rg3]
abbrev tlM(S:StV)(d:NdV)(g':RgV)(v w':Nat)(g:RgV)(c:Int)(es:List Zou)(w u:Nat)(X:List Cl):Mem:=[bxv v 46 (ndX S d 4 5),bxv w 12 (rgC 1 g),mpB c es u,bx 4 X,bxv w' 12 (rgC 4 g'),mpB 0 [] 0]
theorem Zqd{S:StV}{zs:List Zon}{ss:List Sgn}{d:NdV}{g:RgV}{c:Int}{es:List Zou}{v w u:Nat}(x:Zjo)
  (hR:R L Cs ZiI [Pt 0] (ndM S d g c es v w u)=some (.w (.c (fnN ZhK)),Zqg S zs ss d g c es (v+5) w u 3 4++[bxv 0 12 (rgC 3 (ZoH (ZoJ S zs ss d g))),mpB 0 [] 0])) :
  Y L Cs zj (some [6,0]) 4 [(6,.w (.c (fnN ZiI))),(0,.w (Pt 0))] (ndM S d g c es v w u++[bx 4 (inC x)])=Y L Cs zj (some [6,0]) 4 [(6,.w (.c (fnN ZhK))),(0,.w (Pt 0))] (tlM S (ZoO S zs ss d g) (ZoH (ZoJ S zs ss d g)) (v+5) 0 g c es w u (inC x)):=by
 unfold Zqg at hR;generalize ZoO S zs ss d g=d' at *;generalize ZoJ S zs ss d g=K at *;obtain⟨s0,s1,s2,s3,s4,na,ini,p⟩:=g;rw[ZfM zj.eq_1];cases ini<;>simp[ndM,ndC,rgC,mpB,bxv,ZoH]at hR<;>simp[hR,Zly,zr,ZoH]<;>rfl
theorem Zqc{S:StV}{d d':NdV}{k:zci}{g:RgV}{c:Int}{es:List Zou}{v v' w u f f':Nat}(x:Zjo)(hv:¬v'=v)(hR:R L Cs f [Pt 0] (ndM S d (ZoH k) 0 [] v 0 0)=some (.w (.c (fnN f')),ndM S d' (ZoH k) 0 [] v' 0 0)) :
  Y L Cs zj (some [6,0]) 4 [(6,.w (.c (fnN f))),(0,.w (Pt 0))] (tlM S d (ZoH k) v 0 g c es w u (inC x))=Y L Cs zj (some [6,0]) 4 [(6,.w (.c (fnN f'))),(0,.w (Pt 0))] (tlM S d' (ZoH k) v' 0 g c es w u (inC x)):=by
 obtain⟨s0,s1,s2,s3,s4,na,ini,p⟩:=g;rw[ZfM zj.eq_1];simp[ndM,ndC,rgC,mpB,bxv,ZoH]at hR;cases ini<;>simp[hR,hv,Zly,zr,ZoH]<;>rfl
theorem Zqe{S:StV}{d d':NdV}{k:zci}{g g':RgV}{c:Int}{es:List Zou}{v v' w w' u f:Nat}(x:Zjo)(hv:¬v'=v)(hw:¬w'=0)(hi:g'.ini=false)(hR:R L Cs f [Pt 0] (ndM S d (ZoH k) 0 [] v 0 0)=some (.w (.c .qT),ndM S d' g' 0 [] v' w' 0)) :
  Y L Cs zj (some [6,0]) 4 [(6,.w (.c (fnN f))),(0,.w (Pt 0))] (tlM S d (ZoH k) v 0 g c es w u (inC x))=some (.exit 1,[(43,.w (Bo false)),(6,.w (.c .qT)),(0,.w (Pt 0))],tlM S d' g' v' w' g c es w u (inC x)):=by
 obtain⟨s0,s1,s2,s3,s4,na,ini,p⟩:=g;obtain⟨r0,r1,r2,r3,r4,ma,jni,p'⟩:=g';simp only at hi;subst hi;rw[ZfM zj.eq_1];simp[ndM,ndC,rgC,mpB,bxv,ZoH]at hR;cases ini<;>simp[hR,hv,hw,Zly,zr,ZoH]<;>rw[ZfM zj.eq_1]<;>simp[Zly]
structure LM(k:Nat)(S:StV)(d:NdV)(g:RgV)(c:Int)(es:List Zou)(v w u p q:Nat)(M:Mem):Prop where
 nd:M[k]?=some (bxv v 46 (ndX S d p q))
 rg:M[p]?=some (bxv w 12 (rgC p g))
 mp:M[q]?=some (mpB c es u)
 kp:k≠p
 kq:k≠q
 pq:p≠q
variable{k:Nat}{S:StV}{d d':NdV}{g g':RgV}{c c':Int}{es es':List Zou}{v v' w w' u u' p q:Nat}{M:Mem}
theorem LM.len(h:LM k S d g c es v w u p q M):k<M.length/\p<M.length/\q<M.length:=⟨(jT.1 h.nd).1,(jT.1 h.rg).1,(jT.1 h.mp).1⟩
theorem LM.drop(h:LM k S d g c es v w u p q M){n:Nat}(hn:k<n)(E:Env):LM k S d g c es v w u p q (kL n E M):=by
 unfold kL;split
 ·exact h
 ·split
  ·rename_i hb;simp only[jk]at hb;have hb:=hb.2;have h1:(M.take n)[k]?=some (bxv v 46 (ndX S d p q)):=by rw[kV hn];exact h.nd
   have h2:([ndX S d p q]:List (List Cl)).all (fun r=>r.all (Eng.below n))=true:=jy.1 hb _ (kK h1);have h3:=jy.1 h2 _ (jr ..);have h4:Eng.below n (.ptr p 0 0 0)=true:=jy.1 h3 _ (by simp);have h5:Eng.below n (.map q true)=true:=jy.1 h3 _ (by simp);have h4:p+1<=n:=of_decide_eq_true h4;have h5:q+1<=n:=of_decide_eq_true h5;exact⟨h1,by rw[kV (by omega)];exact h.rg,by rw[kV (by omega)];exact h.mp,h.kp,h.kq,h.pq⟩
  ·exact h
theorem Zo5{ρ:Nat->Option Nat}{id:Nat}{ids:List Nat}{b b' b0:Blk}{Ms M M1:Mem}{ch:List Nat}(h0:M[id]?=some (some b0))(hr:zhj ρ b=some b')(he:b.ver=b0.ver->b'=b0)(hb:back ρ ids Ms M=some (M1,ch))(h1:M1[id]?=some (some b0)) :
  ∃ch',back ρ (id::ids) (some b::Ms) M=some (M1.set id (some b'),ch'):=by
 unfold back;simp only[h0];by_cases c:b.ver=b0.ver
 ·rw[if_pos c,hb,he c];refine⟨ch,?_⟩;obtain⟨hl,e⟩:=jT.1 h1;rw[<-e,List.set_getElem_self]
 ·rw[if_neg c,hr,hb];exact⟨_,rfl⟩
theorem LM.on(h:LM k S d g c es v w u p q M){f:Nat}{xs:List Cl}(hxs:xs=[]\/∃x:Zjo,xs=inC x){r:AV}{Ms:Mem}(hR:R L Cs f (Pt 0::if xs=[] then [] else [.a xs]) (ndM S d g c es v w u)=some (r,Ms)) :
  zx (R L Cs) ⟨true⟩ (.c (.fn f [] [])) (Pt k::if xs=[] then [] else [.a xs]) M=uR [k,p,q] M r Ms:=by
 obtain⟨h1,h2,h3,n1,n2,n3⟩:=h;have hc:collect M zfj [k] []=[k,p,q]:=by
  cases hi:g.ini<;>simp[collect,zpw,h1,h2,h3,Blk.ids,CF,hi,n1,n2,n3,n1.symm,n2.symm,n3.symm]
 have ht:zck M (zd3 [k,p,q]) [k,p,q]=some (ndM S d g c es v w u):=by
  cases hi:g.ini<;>simp[zck,h1,h2,h3,zhj,zd3,n1,n2,n3,hi,Zly]
 have hnd:zku [k,p,q]=true:=by simp[zku,n1,n2,n3]
 have qM:zcG (R L Cs) f (Pt k::if xs=[] then [] else [.a xs]) M=uR [k,p,q] M r Ms:=by
  unfold zcG;have e1:(Pt k::if xs=[] then [] else [WV.a xs]).flatMap WV.ids=[k]:=by
   rcases hxs with rfl |⟨x,rfl⟩<;>simp[WV.ids]
  have e2:ziU (zd3 [k,p,q]) (Pt k::if xs=[] then [] else [WV.a xs])=some (Pt 0::if xs=[] then [] else [WV.a xs]):=by
   rcases hxs with rfl |⟨x,rfl⟩<;>simp[zd3]
  rw[e1,hc];simp only[hnd,if_true,e2,ht,hR]
 have hfz:zla M (Pt k::if xs=[] then [] else [WV.a xs])=some (Pt k::if xs=[] then [] else [WV.a xs]):=by
  rcases hxs with rfl |⟨x,rfl⟩<;>simp
 have hsl:(Pt k::if xs=[] then [] else [WV.a xs]).flatMap WV.sls=[]:=by
  rcases hxs with rfl |⟨x,rfl⟩<;>simp
 have hhd:zl2 f (Pt k::if xs=[] then [] else [WV.a xs])=true:=rfl;unfold zx;simp only[callee,qm,je,qe,if_true,hfz,hsl,hhd,Bool.or_true,List.isEmpty_nil];rw[qM]
abbrev ZpO(k p q:Nat)(X:List Cl)(v:Nat)(g:RgV)(c:Int)(es:List Zou)(w u:Nat)(M:Mem):Mem:=((M.set q (mpB c es u)).set p (some { box:=true,esz:=12,rows:=[rgC p g],gen:=0,fz:=false,ver:=w })).set k (some { box:=true,esz:=46,rows:=[X],gen:=0,fz:=false,ver:=v })
theorem LM.back(h:LM k S d g c es v w u p q M){ρ:Nat->Option Nat}(r0:ρ 0=some k)(r1:ρ 1=some p)(r2:ρ 2=some q){a b:Nat}{Ms:Mem}{X:List Cl}(hX:zez ρ [ndX S d' a b]=some [X])(hv:v'=v->X=ndX S d p q)(hw:w'=w->g'=g)(hu:u'=u->c'=c/\es'=es) :
  ∃ch,Eng.back ρ [k,p,q] (some { box:=true,esz:=46,rows:=[ndX S d' a b],gen:=0,fz:=false,ver:=v' }::bxv w' 12 (rgC 1 g')::mpB c' es' u'::Ms) M=some (ZpO k p q X v' g' c' es' w' u' M,ch):=by
 obtain⟨h1,h2,h3,n1,n2,n3⟩:=h;have b3:Eng.back ρ [] Ms M=some (M,[]):=by unfold Eng.back;rfl
 obtain⟨ch2,b2⟩:=Zo5 (ρ:=ρ) (b:={ box:=true,esz:=1,rows:=[I c']::es'.map Zly,gen:=0,fz:=false,ver:=u' }) (b':={ box:=true,esz:=1,rows:=[I c']::es'.map Zly,gen:=0,fz:=false,ver:=u' }) h3 (by simp[zhj,Zly]) (fun e=>by obtain⟨rfl,rfl⟩:=hu e;have:u'=u:=e;subst this;rfl) b3 h3;obtain⟨ch1,b1⟩:=Zo5 (ρ:=ρ) (b:={ box:=true,esz:=12,rows:=[rgC 1 g'],gen:=0,fz:=false,ver:=w' }) (b':={ box:=true,esz:=12,rows:=[rgC p g'],gen:=0,fz:=false,ver:=w' }) h2 (by cases hi:g'.ini<;>simp[zhj,r1,hi]) (fun e=>by have e:w'=w:=e;have:=hw e;subst e this;rfl) b2 (by rw[jH n3.symm];exact h2);obtain⟨ch0,b0⟩:=Zo5 (ρ:=ρ) (b:={ box:=true,esz:=46,rows:=[ndX S d' a b],gen:=0,fz:=false,ver:=v' }) (b':={ box:=true,esz:=46,rows:=[X],gen:=0,fz:=false,ver:=v' }) h1 (by unfold zhj;simp only[if_true];rw[hX];rfl) (fun e=>by have e:v'=v:=e;rw[hv e,e]) b1 (by rw[jH n1.symm,jH n2.symm];exact h1);exact⟨ch0,b0⟩
def Fr(k p q p' q':Nat)(M M':Mem):Prop:=∀i,i<M.length->i≠k->i≠p->i≠q->M'[i]?=M[i]?/\i≠p'/\i≠q'
theorem Zq4{X:List Cl}:(ZpO k p q X v g c es w u M).length=M.length/\∀i,i≠k->i≠p->i≠q->(ZpO k p q X v g c es w u M)[i]?=M[i]? :=
 ⟨by simp,fun i a b c=>by rw[jH (kF a),jH (kF b),jH (kF c)]⟩
theorem LM.set(h:LM k S d g c es v w u p q M):(ZpO k p q (ndX S d' p q) v' g' c' es' w' u' M).length=M.length/\LM k S d' g' c' es' v' w' u' p q (ZpO k p q (ndX S d' p q) v' g' c' es' w' u' M):=by
 obtain⟨l1,l2,l3⟩:=h.len;obtain⟨h1,h2,h3,n1,n2,n3⟩:=h;refine⟨by simp,?_,?_,?_,n1,n2,n3⟩
 ·exact kc (by simpa using l1)
 ·rw[jH n1];exact kc (by simpa using l2)
 ·rw[jH n2,jH n3];exact kc (by simpa using l3)
theorem Zo2{k p q:Nat}{M M' Ms new:Mem}{r r':AV}{ch:List Nat}{ρ:Nat->Option Nat}(hρ:∀j,ρ j=match ([k,p,q]:List Nat)[j]? with |some id=>some id |none=>some (M.length+(j-3)))(hb:Eng.back ρ [k,p,q] Ms M=some (M',ch))(hn:zgx ρ (Ms.drop 3)=some new)(hr:znn ρ r=some r'):uR [k,p,q] M r Ms=some (r',M'++new,if ch.isEmpty then .no else .wr (ch.map fun id=>(id,0,whole))):=by
 have e:ρ=(fun j=>match ([k,p,q]:List Nat)[j]? with |some id=>some id |none=>some (M.length+(j-3))):=funext hρ;have e2:uR [k,p,q] M r Ms=(match Eng.back ρ [k,p,q] Ms M,zgx ρ (Ms.drop 3),znn ρ r with
  |some (M',ch),some new,some r=>some (r,M'++new,if ch.isEmpty then .no else .wr (ch.map fun id=>(id,0,whole)))
  |_,_,_=>none):=by rw[e];rfl
 rw[e2,hb,hn,hr]
theorem LM.call(h:LM k S d g c es v w u p q M){f:Nat}{xs:List Cl}(hxs:xs=[]\/∃x:Zjo,xs=inC x){r:AV}(hr:(∃a b,r=.t [W a,W b])\/(∃n,r=.w (W n))\/(∃k,r=.w (.a (zG k)))\/(∃y,r=.w (.a (zJ4 y)))\/(∃l,r=.w (.a [.jb (zu l)])))
  (hv:v'=v->d'=d) (hw:w'=w->g'=g) (hu:u'=u->c'=c/\es'=es)
  (hR:R L Cs f (Pt 0::if xs=[] then [] else [.a xs]) (ndM S d g c es v w u)=some (r,ndM S d' g' c' es' v' w' u')) :
  ∃M' fp,zx (R L Cs) ⟨true⟩ (.c (.fn f [] [])) (Pt k::if xs=[] then [] else [.a xs]) M=some (r,M',fp)/\LM k S d' g' c' es' v' w' u' p q M'/\M'.length=M.length/\Fr k p q p q M M':=by
 obtain⟨ρ,hρ⟩:∃ρ:Nat->Option Nat,∀j,ρ j=match ([k,p,q]:List Nat)[j]? with|some id=>some id|none=>some (M.length+(j-3)):=⟨_,fun _=>rfl⟩
 have r1:ρ 1=some p:=hρ 1;have r2:ρ 2=some q:=hρ 2;obtain⟨ch,hb⟩:=h.back (d':=d') (v':=v') (hρ 0) r1 r2 (a:=1) (b:=2) (Ms:=[]) (X:=ndX S d' p q) (by simp[r1,r2]) (fun e=>by rw[hv e]) hw hu;have hrA:znn ρ r=some r:=by
  rcases hr with⟨a,b,rfl⟩ |⟨n,rfl⟩ |⟨y,rfl⟩ |⟨⟨y1,y2,y3⟩,rfl⟩ |⟨l,rfl⟩<;>simp[zG,zJ4,zJY]
 have hl:=Zo2 hρ hb (new:=[]) rfl hrA;rw[qe]at hl;obtain⟨s1,s2⟩:=h.set (d':=d') (g':=g') (c':=c') (es':=es') (v':=v') (w':=w') (u':=u');exact⟨_,_,(h.on hxs hR).trans hl,s2,s1,fun i _ a b c=>⟨Zq4.2 i a b c,b,c⟩⟩
theorem LM.lose(h:LM k S d g c es v w u p q M){x:Zjo}{r:Int}{g1:RgV}{c1:Int}{es1:List Zou}{w1 u1:Nat}(hv:v<v')(hw:w1=w->g1=g)(hu:u1=u->c1=c/\es1=es)(hi:g'.ini=false)
  (hR:R L Cs Zh5 [Pt 0,.a (inC x)] (ndM S d g c es v w u)=some (.t [W r,W 0],[bxv v' 46 (ndX S d' 3 4),bxv w1 12 (rgC 1 g1),mpB c1 es1 u1,bxv 2 12 (rgC 3 g'),mpB 0 [] 0])) :
  ∃M' fp,zx (R L Cs) ⟨true⟩ (.c (.fn Zh5 [] [])) [Pt k,.a (inC x)] M=some (.t [W r,W 0],M',fp)/\LM k S d' g' 0 [] v' 2 0 M.length (M.length+1) M'/\M.length<=M'.length/\Fr k p q M.length (M.length+1) M M':=by
 obtain⟨ρ,hρ⟩:∃ρ:Nat->Option Nat,∀j,ρ j=match ([k,p,q]:List Nat)[j]? with|some id=>some id|none=>some (M.length+(j-3)):=⟨_,fun _=>rfl⟩
 have r1:ρ 1=some p:=hρ 1;have r2:ρ 2=some q:=hρ 2;have r3:ρ 3=some M.length:=hρ 3;have r4:ρ 4=some (M.length+1):=hρ 4;obtain⟨ch,hb⟩:=h.back (d':=d') (v':=v') (hρ 0) r1 r2 (a:=3) (b:=4) (Ms:=[bxv 2 12 (rgC 3 g'),mpB 0 [] 0]) (X:=ndX S d' M.length (M.length+1)) (by simp[r3,r4]) (fun e=>by omega) hw hu;obtain⟨l1,l2,l3⟩:=h.len;have hl:=Zo2 hρ hb (new:=[bxv 2 12 (rgC M.length g'),mpB 0 [] 0]) (by simp[zgx,zhj,hi,r3]) (r:=.t [W r,W 0]) (r':=.t [W r,W 0]) (by simp);have hlen:(ZpO k p q (ndX S d' M.length (M.length+1)) v' g1 c1 es1 w1 u1 M).length=M.length:=by simp
 have hk0:(ZpO k p q (ndX S d' M.length (M.length+1)) v' g1 c1 es1 w1 u1 M)[k]?=some (bxv v' 46 (ndX S d' M.length (M.length+1))):=kc (by simpa using l1);have hfr:=(Zq4 (k:=k) (p:=p) (q:=q) (X:=ndX S d' M.length (M.length+1)) (v:=v') (g:=g1) (c:=c1) (es:=es1) (w:=w1) (u:=u1) (M:=M)).2;generalize ZpO k p q (ndX S d' M.length (M.length+1)) v' g1 c1 es1 w1 u1 M=M1 at *;exact⟨_,_,(h.on (.inr ⟨x,rfl⟩) hR).trans hl,⟨by rw[js (by omega)];exact hk0,by rw[j7 (by omega),hlen];simp,by rw[j7 (by omega),hlen];simp,by omega,by omega,by omega⟩,by simp;omega,fun i hi a b c=>⟨by rw[js (by omega)];exact hfr i a b c,by omega,by omega⟩⟩
end Go.TrRun
namespace Go.TrRun
open Go Go.Eng
def Zpr(S:StV)(zs:List Zon)(ss:List Sgn)(d2:NdV)(g1:RgV):NdV:=ZjL (ZiF S (ZoO S zs ss d2 g1))
def Zp7(S:StV)(zs:List Zon)(ss:List Sgn)(d2:NdV)(g1:RgV):RgV:=ZhJ (ZoH (ZoJ S zs ss d2 g1)) (Pl.uS d2.kT 0)
abbrev Zqz(S:StV)(d:NdV)(g':RgV)(v w':Nat)(g:RgV)(c:Int)(es:List Zou)(w u:Nat):Mem:=[bxv v 46 (ndX S d 3 4),bxv w 12 (rgC 1 g),mpB c es u,bxv w' 12 (rgC 3 g'),mpB 0 [] 0]
theorem Zqo{S:StV}{zs:List Zon}{ss:List Sgn}(hS:z6u S zs ss){d:NdV}{g:RgV}{es:List Zou}{n:Nat}(h:Zk7 S d g es n)(hn:n+300<=1000)(c:Int)(v w u:Nat)(ks:List Int)(hK:ZjC c es ks)(hks:ks.length<=1000){x:Zjo}(hx:Zlc x)(hx8:x.j8.length<=8/\x.jO.length<=8/\x.kd.length<=8)(ht:x.tick=d.now)
  {d2:NdV} {c2:Int} {es2:List Zou} (e2:hrN S zs ss d g c es ks x=(d2,(c2,es2))) (eK:(Zkz S zs ss (Zhl S zs ss es g) es2).2=false) :
  ∃v' w1 u1,(v<v'/\(w<=w1/\(w1=w->Zhl S zs ss es g=g))/\(u<=u1/\(u1=u->c2=c/\es2=es))) /\
   R L Cs Zh5 [Pt 0,.a (inC x)] (ndM S d g c es v w u)=some (.t [W (Zlu S (Zpr S zs ss d2 (Zhl S zs ss es g))),W 0],Zqz S (Zpr S zs ss d2 (Zhl S zs ss es g)) (Zp7 S zs ss d2 (Zhl S zs ss es g)) v' 2 (Zhl S zs ss es g) c2 es2 w1 u1):=by
 have hh:=h;obtain⟨hg,ha,hk,Bm,hfew,BC,yy,hplan⟩:=h;have hk0:=hk.nd.t;obtain⟨g1,g2,g3,g4,g5⟩:=ZkX (zs:=zs) (ss:=ss) hS hh;have h0:=ZkQ S d g c es v w u;obtain⟨w1,u1,m1,m2,h1⟩:=Zkk hS d hg ha hk Bm (by omega) c es (BC.ok (by omega)) v w u ks hK hks;have BA:=BC.fgt (Zhl S zs ss es g).jV.tick ks;obtain⟨v2,u2,⟨m3,m4⟩,y9,h2⟩:=ZkR (S:=S) d (Zhl S zs ss es g) (c,Zh0 (Zhl S zs ss es g).jV.tick ks es) v w1 u1 n (by omega) x hx BA hn;rw[show ZiQ d (c,Zh0 (Zhl S zs ss es g).jV.tick ks es) x=(d2,(c2,es2)) from e2]at h2 y9 m3 m4;simp only at h2 y9 m3 m4;have hd:=Zla x.j8 d (x.kd.foldl (he2 d) (x.jO.foldl (he1 d) (c,Zh0 (Zhl S zs ss es g).jV.tick ks es)));have hl2:=Zj2 x.j8 d (x.kd.foldl (he2 d) (x.jO.foldl (he1 d) (c,Zh0 (Zhl S zs ss es g).jV.tick ks es))) yy (by omega);rw[show heS x.j8 (d,x.kd.foldl (he2 d) (x.jO.foldl (he1 d) (c,Zh0 (Zhl S zs ss es g).jV.tick ks es)))=(d2,(c2,es2)) from e2]at hd hl2;simp only at hd hl2;obtain⟨AX,Aa,-⟩:=hd;have h3:=Zkj hS d2 g1 g3 g4 (by omega) c2 es2 (y9.ok (by omega)) v2 w1 u2;rw[eK]at h3;simp only[jG,if_false]at h3;have s1:=ZjB S d2 _ (Zhl S zs ss es g) c2 es2 v2 (v2+1) w1 u2 _ _ x (by omega) h3;have h4:=ZpJ (zs:=zs) (ss:=ss) hS { d2 with qC:=(Zkz S zs ss (Zhl S zs ss es g) es2).1 } g1 g3 g4 (by omega) (by simp only[AX];omega) c2 es2 (v2+1) w1 u2;have s2:=Zqd x h4;have eL:ZoO S zs ss { d2 with qC:=(Zkz S zs ss (Zhl S zs ss es g) es2).1 } (Zhl S zs ss es g)=ZoO S zs ss d2 (Zhl S zs ss es g):=rfl;have eK2:ZoJ S zs ss { d2 with qC:=(Zkz S zs ss (Zhl S zs ss es g) es2).1 } (Zhl S zs ss es g)=ZoJ S zs ss d2 (Zhl S zs ss es g):=rfl;rw[eL,eK2]at s2;have hLnow:(ZoO S zs ss d2 (Zhl S zs ss es g)).now=d.now:=AX;have DF:(ZoO S zs ss d2 (Zhl S zs ss es g)).last=d2.last:=rfl;have hLplan:(ZoO S zs ss d2 (Zhl S zs ss es g)).kT=d.kT:=Aa;obtain⟨v5,m5,h5⟩:=ZjV S (ZoO S zs ss d2 (Zhl S zs ss es g)) (ZoH (ZoJ S zs ss d2 (Zhl S zs ss es g))) 0 [] (v2+1+5) 0 0 (by rw[hLnow];omega) (by rw[DF];exact hl2);have hmode:¬(ZiF S (ZoO S zs ss d2 (Zhl S zs ss es g))).mode=1:=by
  unfold ZiF ZoO;split<;>simp
 rw[if_neg hmode]at h5;have s3:=Zqc (g:=Zhl S zs ss es g) (c:=c2) (es:=es2) (w:=w1) (u:=u2) x (by omega) h5;have hWnow:(ZiF S (ZoO S zs ss d2 (Zhl S zs ss es g))).now=d.now:=AX;have CQ:(ZiF S (ZoO S zs ss d2 (Zhl S zs ss es g))).kT=d.kT:=Aa;have h6:=Zkl S (ZiF S (ZoO S zs ss d2 (Zhl S zs ss es g))) (g:=ZoH (ZoJ S zs ss d2 (Zhl S zs ss es g))) ⟨show 0<=5 by decide,fun _=>rfl⟩ (show 0<=4 by decide) 0 [] v5 0 0 (by rw[hWnow];omega) (by rw[CQ];omega);have s4:=Zqe (g:=Zhl S zs ss es g) (c:=c2) (es:=es2) (w:=w1) (u:=u2) x (by omega) (by omega) rfl h6;have hlp:=s1.trans (s2.trans (s3.trans s4));rw[show ZhJ (ZoH (ZoJ S zs ss d2 (Zhl S zs ss es g))) (Pl.uS (ZiF S (ZoO S zs ss d2 (Zhl S zs ss es g))).kT 0)=Zp7 S zs ss d2 (Zhl S zs ss es g) from rfl,show ZjL (ZiF S (ZoO S zs ss d2 (Zhl S zs ss es g)))=Zpr S zs ss d2 (Zhl S zs ss es g) from rfl]at hlp;have hA:=Pl.C5 (Zpr S zs ss d2 (Zhl S zs ss es g)).told (show(ZiF S (ZoO S zs ss d2 (Zhl S zs ss es g))).kT.length<=1000 by rw[CQ];omega) S.car.ub;have hi9:(Zp7 S zs ss d2 (Zhl S zs ss es g)).ini=false:=rfl;refine⟨v5+4,w1,u2,⟨by omega,m1,by omega,fun e=>?_⟩,?_⟩
 ·have e1:=m3.2 (by omega);have e2':=m2.2 (by omega);rw[e2']at e1;exact⟨congrArg Prod.fst e1,congrArg Prod.snd e1⟩
 have c1:¬8<max (x.j8.length:Int) (max x.jO.length x.kd.length):=by omega
 have c2':¬(1099511626776:Int)<=d.now:=by omega
 obtain⟨fp1,hc1⟩:=Zko (f:=Zhz) (xs:=[]) (X:=inC x) (.inl rfl) ⟨x,rfl⟩ (fun _=>rfl) m1.2 (fun q=>⟨rfl,m2.2 q⟩) (by simpa using h1);obtain⟨fp2,hc2⟩:=Zko (f:=Zh4) (xs:=inC x) (X:=inC x) (.inr ⟨x,rfl⟩) ⟨x,rfl⟩ m4.2 (fun _=>rfl) (fun q=>by
  have:=m3.2 q;exact⟨congrArg Prod.fst this,congrArg Prod.snd this⟩) (by simpa using h2)
 have hc0:zx (R L Cs) ⟨true⟩ (.c (.fn Zh3 [] [])) [Pt 0] (ndM S d g c es v w u++[bx 4 (inC x)])=some (.w (Bo false),ndM S d g c es v w u++[bx 4 (inC x)],.no):=by
  obtain⟨s0,s1,s2,s3,s4,na,ini,p⟩:=g;cases ini<;>simp[ndM,ndC,rgC,mpB,bxv]at h0<;>simp[h0,Zly]
 have hcA:∀M,zx (R L Cs) ⟨true⟩ (.c (.fn zGR [] [])) [.a [.jb (zu (Zpr S zs ss d2 (Zhl S zs ss es g)).told)],W S.car.ub] M=some (.w (W (Pl.uS (Zpr S zs ss d2 (Zhl S zs ss es g)).told S.car.ub)),M,.no):=fun M=>by
  simp[hA]
 unfold Zlu;generalize Pl.uS (Zpr S zs ss d2 (Zhl S zs ss es g)).told S.car.ub=cc at *;generalize Zp7 S zs ss d2 (Zhl S zs ss es g)=g9 at *;generalize Zpr S zs ss d2 (Zhl S zs ss es g)=d6 at *;generalize Zh0 (Zhl S zs ss es g).jV.tick ks es=es1 at *;generalize Zhl S zs ss es g=g' at *;clear hg ha hk Bm BC BA y9 g1 g2 g3 g4 g5 h0 h1 h2 h3 h4 h5 h6 hK hh e2 hA m1 m2 m3 m4 m5 hl2 s1 s2 s3 s4 eL eK2 hLnow DF hLplan hmode hWnow CQ eK;obtain⟨xt,xsc,xsp,xfx⟩:=x;simp only at ht c1;subst ht;obtain⟨r0,r1,r2,r3,r4,ma,jni,p'⟩:=g9;simp only at hi9;subst hi9;obtain⟨s0,s1,s2,s3,s4,na,ini,p⟩:=g';simp only[inC,List.cons_ne_nil,reduceCtorEq,if_false,if_true,ndM,ji,je]at hc0 hc1 hc2 hlp;rw[zUa Zji rfl];cases ini<;>simp[-zx,ZhG,hc0,hc1,hc2,hlp,hcA,c1,c2',Zly,zr,tlM,rg3]
open Go Go.Eng Go.PlanLaw
theorem Zo7{n t:Int}(h:t≠n):∀(es:List Zou) (k j:Nat) (y:Hrd),ZiR n es k=some (j,y)->k<=j/\znB t (es.eraseIdx (j-k))=znB t es
 |[],k,j,y,e=>by simp[ZiR]at e
 |x::es,k,j,y,e=>by
  unfold ZiR at e;split at e
  ·rename_i c;cases e;rw[yI];refine⟨jm _,?_⟩;show znB t es=if t=x.key then _ else _
   rw[if_neg (by rw[<-c];exact h)]
  ·obtain⟨h1,h2⟩:=Zo7 h es (k+1) j y e;refine⟨by omega,?_⟩;obtain⟨m,hm⟩:∃m,j-k=m+1:=⟨j-k-1,by omega⟩;have e2:j-(k+1)=m:=by omega
   rw[e2]at h2;rw[hm,List.eraseIdx_cons_succ];unfold znB;rw[h2]
theorem ZpT{n t:Int}(h:t≠n)(es:List Zou):znB t (ZjP n es)=znB t es:=by
 unfold ZjP;cases hf:ZiR n es 0 with
 |none=>rfl
 |some r =>
  obtain⟨j,y⟩:=r;exact(Zo7 h es 0 j y hf).2
theorem Zpl{T t:Int}(h:T<=t):∀(ks:List Int) (es:List Zou),znB t (Zh0 T ks es)=znB t es
 |[],es=>rfl
 |k::ks,es=>by
  show znB t (Zh0 T ks (if k<T then ZjP k es else es))=_;rw[Zpl h ks];split
  ·exact ZpT (by omega) es
  ·rfl
theorem EsN.fold{α:Type}{F:Int×List Zou->α->Int×List Zou}{P:α->Prop}(hF:∀n q y,P y->EsN n q.2->EsN (n+1) (F q y).2):∀(l:List α) {n:Nat} {q:Int×List Zou},(∀y∈l,P y)->EsN n q.2->EsN (n+l.length) (l.foldl F q).2
 |[],n,q,_,h=>h
 |y::l,n,q,hp,h=>(EsN.fold hF l (fun z hz=>hp z (jD _ hz)) (hF n q y (hp y (jr ..)) h)).mono (by simp;omega)
theorem EsN.heS:∀(l:List zZP) {n:Nat} {d:NdV} {q:Int×List Zou},(∀y∈l,y.seen.length<=5000/\y.pts.length<=1000)->EsN n q.2->EsN (n+l.length) (heS l (d,q)).2.2
 |[],n,d,q,_,h=>h
 |y::l,n,d,q,hp,h=>(EsN.heS l (d:=heD d y) (fun z hz=>hp z (jD _ hz)) (EsN.he3 (d:=d) h (hp y (jr ..)))).mono (by simp;omega)
theorem EsN.hear{n:Nat}{d:NdV}{q:Int×List Zou}(h:EsN n q.2){x:Zjo}(hx:Zlc x):EsN (n+(x.jO.length+x.kd.length+x.j8.length)) (ZiQ d q x).2.2:=by
 have h1:=EsN.fold (F:=Go.TrRun.he1 d) (P:=fun _=>True) (fun n q y _ h=>h.he1 y) x.jO (fun _ _=>trivial) h;have h2:=EsN.fold (F:=Go.TrRun.he2 d) (P:=fun _=>True) (fun n q y _ h=>h.he2 y) x.kd (fun _ _=>trivial) h1;exact(EsN.heS x.j8 hx.sc h2).mono (by omega)
def Zju(h:Hrd):List Zou:=[⟨0,0,h⟩]
def Zlb(h:Hrd):Prop:=h.jO=[]/\h.kd=[]/\∀s∈h.j8,s.pts=[]
theorem ZjS{S:StV}:∀(l:List zZP) (k:zci),(∀s∈l,s.pts=[])->(ZiH S l (k,true)).2=true
 |[],k,_=>rfl
 |x::l,k,h=>by
  have e:ZiH S (x::l) (k,true)=ZiH S l (Zhv S (Zib S.m k x),true):=by
   show ZiH S l (Zhv S (Zib S.m k x),true&&ZiS S.m (Zhv S (Zib S.m k x)) x.pts)=_;rw[h x (jr ..)];rfl
  rw[e];exact ZjS l _ fun s hs=>h s (jD _ hs)
theorem Zkg{S:StV}{h:Hrd}(q:Zlb h)(k:zci):(znE S (some h) k).2=true:=by
 obtain⟨h1,h2,h3⟩:=q;unfold znE;simp only[h1,h2];exact ZjS h.j8 (Zhv S k) h3
set_option maxRecDepth 100000
open Go Go.Eng Go.PlanLaw
theorem ZkF(c:Int):ZjC c [] []:=Zpz (Zoz.nil c) (by decide)
set_option maxRecDepth 10000
open Go Go.Eng Go.PlanLaw
theorem ZkU{S:StV}{zs:List Zon}{ss:List Sgn}{k:zci}{p:List Int}(h:Zjt S zs ss k p=true):uK S.car p=0:=by
 unfold Zjt at h;exact((zUm ..).1 h).2.1
structure ZoP(p:List Int):Prop where
 Da:∀a∈p,zk0 a
 len:p.length<=125
theorem ZoP.tail{p:List Int}(h:ZoP p):ZoP (Pl.yx p):=by
 unfold Pl.yx;split
 ·exact⟨fun a ha=>h.Da a (qo ha),by simp;have:=h.len;omega⟩
 grind
theorem ZoP.act{p:List Int}(h:ZoP p)(i:Int):zk0 (Pl.uS p i):=by
 unfold Pl.uS;split
 ·unfold zk0;omega
 ·cases hq:p[(max 0 (min i (p.length-1))).toNat]? with
  |none=>unfold zk0;simp
  |some x=>exact h.Da x (kK hq)
structure Zrc(S:StV)(d:NdV)(g:RgV)(c:Int)(es:List Zou)(n:Nat):Prop where
 nd:Zk7 S d g es n
 ent:Zoz n c es
 kb:KB S.m d.qC
 kT:ZoP d.kT
 told:ZoP d.told
variable{S:StV}{zs:List Zon}{ss:List Sgn}
structure PlN(S:StV)(d d':NdV):Prop where
 lat:d'.uw=Pl.uS d'.told 0
 pln:d'.kT=Pl.yx d'.told
 told:d'.told=d.kT\/∃v up hold,(0<=v/\v<=2000)/\up<=20/\hold<=20/\d'.told=zJ2 S.car (Zh2 d S.car.ub.toNat) d.uw v up hold
theorem Zra(d:NdV)(K:zci):(goN S zs ss d K).kT=d.kT\/∃v up hold,(0<=v/\v<=2000)/\up<=20/\hold<=20/\(goN S zs ss d K).kT=zJ2 S.car (Zh2 d S.car.ub.toNat) d.uw v up hold:=by
 unfold goN;by_cases hm:(ZiF S { d with qC:=K }).mode=1
 ·rw[if_pos hm];by_cases h:0<=(Zkd S zs ss (ZiF S { d with qC:=K })).1
  ·right;unfold ZiG;simp only[if_pos h];unfold Zkd zOU at h ⊢;obtain⟨j,h1,h2,h3⟩:=Zkn _ _ _ 0 h;unfold zMT;rw[h2,if_neg (by omega),show(((0+j:Nat):Int)).toNat=j by omega];have yw:=jf h1;simp only[jw,jq h1,ul];refine⟨max 0 (min K.ego.vhi 2000),?_⟩;simp only[Pl.yp,jK,qf,or_false]at yw;rcases yw with h|h|h|h|h|h|h|h<;>exact⟨_,_,by omega,by decide,by decide,h⟩
  ·left;unfold ZiG;simp only[if_neg h];rfl
 ·rw[if_neg hm];exact .inl rfl
theorem Zq8(d d2:NdV)(K:zci)(hp:d2.kT=d.kT)(hl:d2.uw=d.uw):PlN S d (ZjL (goN S zs ss d2 K)):=by
 refine⟨rfl,rfl,?_⟩;have h:=Zra (S:=S) (zs:=zs) (ss:=ss) d2 K;unfold Zh2 at h ⊢;rw[hp,hl]at h;exact h
theorem Zqh(hS:z6u S zs ss){d:NdV}{g:RgV}(hg:ZjQ g)(hk:KB S.m g.jV)(hn:d.now=g.jV.tick+g.na)(ht:d.now<=100000):KB S.m (ZoJ S zs ss d g)/\(ZoJ S zs ss d g).tick=d.now:=by
 have hacts:g.jM.length=g.na:=by simp[RgV.jM];have:=hg.few;omega
 obtain⟨k1,k2⟩:=Zpn (zs:=zs) (ss:=ss) hS g.jM g.jV hk (by omega);have h0:=hk.nd.t;have hkn:KNd S.m ⟨d.now,zTA 0 S.m.jd,(ZoW S zs ss g.jM g.jV).ego⟩:=⟨⟨fun b hb=>(zTQ hS.full.full.qO S.m.jd 0 rfl b hb).1,zTX hS.full.full.qO S.m.jd 0 rfl,k1.nd.j.ego⟩,by grind⟩;have hf:=k1.far;refine⟨⟨KNd.own hkn,?_,?_⟩,rfl⟩
 ·show(ZoW S zs ss g.jM g.jV).ego.shi<=1000000000+2000*d.now
  grind
 ·show d.now<=100000
  grind
theorem Zrd(hS:z6u S zs ss){d:NdV}{K:zci}(hp:ZoP d.kT) :
  (goN S zs ss d K).now=d.now/\(goN S zs ss d K).qC=K/\(goN S zs ss d K).last=d.last/\ZoP (goN S zs ss d K).kT:=by
 unfold goN;by_cases hm:(ZiF S { d with qC:=K }).mode=1
 ·rw[if_pos hm];by_cases hf:0<=(Zkd S zs ss (ZiF S { d with qC:=K })).1
  ·obtain⟨v1,v2⟩:=ZkW hS.car (ZiF S { d with qC:=K }) hf;exact⟨rfl,rfl,rfl,(zNC (ZkU v1)).1,v2⟩
  ·have e:(ZiG S zs ss (ZiF S { d with qC:=K })).kT=d.kT:=by
    unfold ZiG;simp only[if_neg hf];rfl
   exact⟨rfl,rfl,rfl,by rw[e];exact hp⟩
 ·rw[if_neg hm];exact⟨rfl,rfl,rfl,hp⟩
def ZqB(S:StV)(d:NdV)(g:RgV)(c:Int)(es:List Zou)(v w u:Nat)(x:Zjo)(r:Int)(d':NdV)(g':RgV)(c':Int)(es':List Zou):Prop :=
 (∃v' w' u',(v<v'/\w<w'/\(u<=u'/\(u'=u->c'=c/\es'=es)))/\R L Cs Zh5 [Pt 0,.a (inC x)] (ndM S d g c es v w u)=some (.t [W r,W 0],ndM S d' g' c' es' v' w' u')) \/
 (c'=0/\es'=[]/\g'.ini=false/\∃g1 c1 es1 v' w1 u1,(v<v'/\(w<=w1/\(w1=w->g1=g))/\(u<=u1/\(u1=u->c1=c/\es1=es)))/\R L Cs Zh5 [Pt 0,.a (inC x)] (ndM S d g c es v w u)=some (.t [W r,W 0],Zqz S d' g' v' 2 g1 c1 es1 w1 u1))
def TkD(S:StV)(zs:List Zon)(ss:List Sgn)(d:NdV)(g:RgV)(c:Int)(es:List Zou)(x:Zjo)(d':NdV)(g':RgV)(c':Int)(es':List Zou):Prop :=
 (∃d2 K,hrN S zs ss d g c es (ksE es) x=(d2,c',es')/\Zkz S zs ss (Zhl S zs ss es g) es'=(K,true)/\K.tick=d.now/\KB S.m K/\d2.now=d.now/\d2.kT=d.kT/\d2.mode=d.mode/\d'=ZjL (goN S zs ss d2 K)/\g'=ZhJ (Zhl S zs ss es g) (Pl.uS (goN S zs ss d2 K).kT 0)) \/
 (∃d2 c2 es2,hrN S zs ss d g c es (ksE es) x=(d2,c2,es2)/\(Zkz S zs ss (Zhl S zs ss es g) es2).2=false/\KB S.m (ZoJ S zs ss d2 (Zhl S zs ss es g))/\(ZoJ S zs ss d2 (Zhl S zs ss es g)).tick=d.now/\d2.now=d.now/\d'=Zpr S zs ss d2 (Zhl S zs ss es g)/\g'=Zp7 S zs ss d2 (Zhl S zs ss es g)/\c'=0/\es'=[])
theorem Zrc.tick(hS:z6u S zs ss){d:NdV}{g:RgV}{c:Int}{es:List Zou}{n:Nat}(H:Zrc S d g c es n)(hn:n+300<=1000)(hd:d.now<=1000){x:Zjo}(hx:Zlc x)(hx8:x.j8.length<=8/\x.jO.length<=8/\x.kd.length<=8)(ht:x.tick=d.now)(v w u:Nat) :
  ∃d' g' c' es',Zrc S d' g' c' es' (n+24)/\d'.now=d.now+1/\PlN S d d'/\TkD S zs ss d g c es x d' g' c' es'/\ZqB S d g c es v w u x (Zlu S d') d' g' c' es':=by
 have hK:=Zpz H.ent (by omega);have hks:(ksE es).length<=1000:=jL (Zqi H.ent) (by omega);obtain⟨r1,r2,r3,r4,r5⟩:=ZkX (zs:=zs) (ss:=ss) hS H.nd;have hk0:=r4.nd.t;have hal:(Zhl S zs ss es g).jM.length=(Zhl S zs ss es g).na:=by grind [RgV.jM]
 have hd0:0<=d.now:=by omega
 have BB:=(H.ent.fgt (Zhl S zs ss es g).jV.tick (ksE es)).hear (d:=d) ⟨hd0,by omega⟩ (q:=(c,Zh0 (Zhl S zs ss es g).jV.tick (ksE es) es)) x;have C0:=EsN.hear (d:=d) (q:=(c,Zh0 (Zhl S zs ss es g).jV.tick (ksE es) es)) (H.nd.ents.fgt (Zhl S zs ss es g).jV.tick (ksE es)) hx;have hdd:=Zla x.j8 d (x.kd.foldl (he2 d) (x.jO.foldl (he1 d) (c,Zh0 (Zhl S zs ss es g).jV.tick (ksE es) es)));have hll:=Zj2 x.j8 d (x.kd.foldl (he2 d) (x.jO.foldl (he1 d) (c,Zh0 (Zhl S zs ss es g).jV.tick (ksE es) es))) H.nd.last (by omega);change _ at BB;have eh:ZiQ d (c,Zh0 (Zhl S zs ss es g).jV.tick (ksE es) es) x=hrN S zs ss d g c es (ksE es) x:=rfl;have eh':heS x.j8 (d,x.kd.foldl (he2 d) (x.jO.foldl (he1 d) (c,Zh0 (Zhl S zs ss es g).jV.tick (ksE es) es)))=hrN S zs ss d g c es (ksE es) x:=rfl;rw[eh]at BB C0;rw[eh']at hdd hll;obtain⟨⟨d2,c2,es2⟩,e2⟩:∃y,hrN S zs ss d g c es (ksE es) x=y:=⟨_,rfl⟩;rw[e2]at BB C0 hdd hll;simp only at BB C0 hdd hll;obtain⟨AX,Aa,d_first,d_mode,DH,d_told,d_know⟩:=hdd;have hent:Zoz (n+24) c2 es2:=BB.mono (by omega);have hesn:EsN (n+24) es2:=C0.mono (by omega);have Bw:ZoP d2.kT:=by rw[Aa];exact H.kT
 by_cases hok:(Zkz S zs ss (Zhl S zs ss es g) es2).2=true
 ·obtain⟨K,eK⟩:∃K,Zkz S zs ss (Zhl S zs ss es g) es2=(K,true):=⟨_,Prod.ext rfl hok⟩;obtain⟨v',w',u',hvw,_,hR⟩:=Zlp hS H.nd hn c v w u (ksE es) hK hks hx hx8 ht e2 eK;obtain⟨k1,k2⟩:=r4.AS (S:=S) (znB (Zhl S zs ss es g).jV.tick es2);have Bn:=ZkP (zs:=zs) (ss:=ss) hS es2 (Zhl S zs ss es g).jM (znE S (znB (Zhl S zs ss es g).jV.tick es2) (Zhl S zs ss es g).jV).1 (znE S (znB (Zhl S zs ss es g).jV.tick es2) (Zhl S zs ss es g).jV).2 k1 (by grind);have Bn:KB S.m (Zkz S zs ss (Zhl S zs ss es g) es2).1/\(Zkz S zs ss (Zhl S zs ss es g) es2).1.tick=(znE S (znB (Zhl S zs ss es g).jV.tick es2) (Zhl S zs ss es g).jV).1.tick+(Zhl S zs ss es g).jM.length:=Bn;rw[eK]at Bn;simp only at Bn;have hKt:K.tick=d.now:=by grind
  obtain⟨q1,q2,q3,q4⟩:=Zrd (zs:=zs) (ss:=ss) (K:=K) hS Bw;obtain⟨a1,a2,a3,a4,a5⟩:=ZjF (g:=Zhl S zs ss es g) (by omega) (Pl.uS (goN S zs ss d2 K).kT 0);refine⟨ZjL (goN S zs ss d2 K),ZhJ (Zhl S zs ss es g) (Pl.uS (goN S zs ss d2 K).kT 0),c2,es2,⟨⟨a4,fun a ha=>?_,by grind,?_,?_,hesn,?_,?_⟩,hent,?_,q4.tail,q4⟩,?_,Zq8 d d2 K Aa DH,.inl ⟨d2,K,e2,eK,hKt,Bn.1,AX,Aa,d_mode,rfl,rfl⟩,.inl ⟨v',w',u',hvw,hR⟩⟩
  ·rw[a1]at ha;rcases jI.1 ha with ha|ha
   ·grind
   ·rw[jt.1 ha];exact q4.act 0
  ·show(goN S zs ss d2 K).now+1=_
   grind
  ·show(goN S zs ss d2 K).now+1<=_
   grind
  ·show 0<=(goN S zs ss d2 K).last/\(goN S zs ss d2 K).last<=_
   grind
  ·exact jL q4.tail.len (by simp)
  ·show KB S.m (goN S zs ss d2 K).qC
   grind
  ·show(goN S zs ss d2 K).now+1=_
   grind
 ·obtain⟨v',w1,u1,hvw,hR⟩:=Zqo (zs:=zs) (ss:=ss) hS H.nd hn c v w u (ksE es) hK hks hx hx8 ht e2 (by grind);obtain⟨l1,l2⟩:=Zqh (zs:=zs) (ss:=ss) hS (d:=d2) r1 r4 (by grind) (by grind);have e0:(ZoH (ZoJ S zs ss d2 (Zhl S zs ss es g))).jM=[]:=rfl;obtain⟨a1,a2,a3,a4,a5⟩:=ZjF (g:=ZoH (ZoJ S zs ss d2 (Zhl S zs ss es g))) (show 0<=4 by simp) (Pl.uS d2.kT 0);rw[e0]at a1;refine⟨Zpr S zs ss d2 (Zhl S zs ss es g),Zp7 S zs ss d2 (Zhl S zs ss es g),0,[],⟨⟨a4,fun a ha=>?_,?_,?_,?_,.nil _,hll,?_⟩,(Zoz.nil 0).mono (by omega),l1,Bw.tail,Bw⟩,?_,⟨rfl,rfl,.inl Aa⟩,.inr ⟨d2,c2,es2,e2,by grind,l1,l2.trans AX,AX,rfl,rfl,rfl,rfl⟩,.inr ⟨rfl,rfl,a5,_,_,_,v',w1,u1,hvw,hR⟩⟩
  ·have ha:a∈(ZhJ (ZoH (ZoJ S zs ss d2 (Zhl S zs ss es g))) (Pl.uS d2.kT 0)).jM:=ha;rw[a1]at ha;rw[jt.1 ha];exact Bw.act 0
  ·show KB S.m (ZhJ (ZoH (ZoJ S zs ss d2 (Zhl S zs ss es g))) (Pl.uS d2.kT 0)).jV;rw[a3];exact l1
  ·show d2.now+1=(ZhJ (ZoH (ZoJ S zs ss d2 (Zhl S zs ss es g))) (Pl.uS d2.kT 0)).jV.tick+(ZhJ (ZoH (ZoJ S zs ss d2 (Zhl S zs ss es g))) (Pl.uS d2.kT 0)).na;rw[a3,a2];show d2.now+1=(ZoJ S zs ss d2 (Zhl S zs ss es g)).tick+((0+1:Nat):Int)
   grind
  ·show d2.now+1<=_
   grind
  ·exact jL Bw.tail.len (by simp)
  ·show d2.now+1=_
   grind
end Go.TrRun
namespace Go.TrRun
open Go Go.Eng Go.PlanLaw
def ZrI(x:Zjo)(t:Int)(h:Hrd):Hrd:=⟨h.jO++x.jO.filter (fun y=>decide (y.st=t)),h.kd++x.kd.filter (fun y=>decide (y.st=t)),h.j8++x.j8.filter (fun y=>decide (y.qi=t))⟩
theorem ZrD(d:NdV)(t:Int):∀(l:List Mrk) (q:Int×List Zou),Ziq (l.foldl (he1 d) q).2 t=if Zjv d t then { Ziq q.2 t with jO:=(Ziq q.2 t).jO++l.filter (fun y=>decide (y.st=t)) } else Ziq q.2 t
 |[],q=>by simp
 |y::l,q=>by
  rw[jZ,ZrD d t l];by_cases e:y.st=t
  ·subst e;unfold he1;by_cases c:Zjv d y.st=true
   ·simp[c,Zo3]
   ·simp[c]
  ·have:Ziq (he1 d q y).2 t=Ziq q.2 t:=by
    unfold he1;split
    ·rw[Zo3,if_neg (kF e)]
    ·rfl
   rw[this];simp[e]
theorem ZrC(d:NdV)(t:Int):∀(l:List Mrk) (q:Int×List Zou),Ziq (l.foldl (he2 d) q).2 t=if Zjv d t then { Ziq q.2 t with kd:=(Ziq q.2 t).kd++l.filter (fun y=>decide (y.st=t)) } else Ziq q.2 t
 |[],q=>by simp
 |y::l,q=>by
  rw[jZ,ZrC d t l];by_cases e:y.st=t
  ·subst e;unfold he2;by_cases c:Zjv d y.st=true
   ·simp[c,Zo3]
   ·simp[c]
  ·have:Ziq (he2 d q y).2 t=Ziq q.2 t:=by
    unfold he2;split
    ·rw[Zo3,if_neg (kF e)]
    ·rfl
   rw[this];simp[e]
theorem ZrF(d:NdV)(y:zZP)(t:Int):Zjv (heD d y) t=Zjv d t:=by
 unfold heD;split<;>rfl
theorem ZrB(t:Int):∀(l:List zZP) (d:NdV) (q:Int×List Zou),Ziq (heS l (d,q)).2.2 t=if Zjv d t then { Ziq q.2 t with j8:=(Ziq q.2 t).j8++l.filter (fun y=>decide (y.qi=t)) } else Ziq q.2 t
 |[],d,q=>by simp[heS]
 |y::l,d,q=>by
  show Ziq (heS l (heD d y,he3 d q y)).2.2 t=_;rw[ZrB t l,ZrF];by_cases e:y.qi=t
  ·subst e;unfold he3;by_cases c:Zjv d y.qi=true
   ·simp[c,Zo3]
   ·simp[c]
  ·have:Ziq (he3 d q y).2 t=Ziq q.2 t:=by
    unfold he3;split
    ·rw[Zo3,if_neg (kF e)]
    ·rfl
   rw[this];simp[e]
theorem Zrx(d:NdV)(q:Int×List Zou)(x:Zjo)(t:Int):Ziq (ZiQ d q x).2.2 t=if Zjv d t then ZrI x t (Ziq q.2 t) else Ziq q.2 t:=by
 unfold ZiQ;rw[ZrB,ZrC,ZrD];by_cases c:Zjv d t=true<;>simp[c,ZrI]
theorem Zrs{T t:Int}(h:T<=t)(ks:List Int)(es:List Zou):Ziq (Zh0 T ks es) t=Ziq es t:=by
 unfold Ziq;rw[Zpl h]
variable{S:StV}{zs:List Zon}{ss:List Sgn}
theorem sea0(ok:List Int->Bool)(l:List (List Int)):(zK5 0 ok l 0).1=-1:=by
 cases l with
 |nil=>rfl
 |cons p t=>rfl
theorem Zrt(hb:S.kH=0)(d:NdV)(K:zci):(goN S zs ss d K).kT=d.kT/\(goN S zs ss d K).first=d.first:=by
 unfold goN;split
 ·have h:¬0<=(Zkd S zs ss (ZiF S { d with qC:=K })).1:=by
   unfold Zkd zOU;rw[hb,sea0];decide
  unfold ZiG;simp only[if_neg h];exact⟨rfl,rfl⟩
 ·exact⟨rfl,rfl⟩
structure Two(S:StV)(zs:List Zon)(ss:List Sgn)(d e:NdV)(g f:RgV)(es fs:List Zou):Prop where
 now:e.now=d.now
 fst:e.first=d.first
 jM:f.jM=g.jM
 na:f.na=g.na
 jV:InK g.jV f.jV
 hrd:∀t,g.jV.tick<=t->HLe (Ziq fs t) (Ziq es t)
 ok:0<g.na->(znE S (znB g.jV.tick es) g.jV).2=true
 p1:d.kT=[0]
 p2:e.kT=[0]
structure Zrv(y x:Zjo):Prop where
 sp:y.jO.Sublist x.jO
 fx:y.kd.Sublist x.kd
 sc:y.j8.Sublist x.j8
theorem Two.fgt(hS:z6u S zs ss){d e:NdV}{g f:RgV}{es fs:List Zou}{n m:Nat}(H:Two S zs ss d e g f es fs)(h1:Zk7 S d g es n)(h2:Zk7 S e f fs m) :
  (Zhl S zs ss fs f).jM=(Zhl S zs ss es g).jM/\(Zhl S zs ss fs f).na=(Zhl S zs ss es g).na/\InK (Zhl S zs ss es g).jV (Zhl S zs ss fs f).jV/\g.jV.tick<=(Zhl S zs ss es g).jV.tick:=by
 have hna:=H.na;unfold Zhl;by_cases c5:g.na=5
 ·rw[if_pos c5,if_pos (by rw[hna];exact c5)];have i1:g.ini=false:=by
   cases hi:g.ini with
   |false=>rfl
   |true=>have:=h1.rg.ini hi;omega
  have i2:f.ini=false:=by
   cases hi:f.ini with
   |false=>rfl
   |true=>have:=h2.rg.ini hi;omega
  have t1:=h1.jV.nd.t;have t2:=h2.jV.nd.t;have n1:=h1.now;have n2:=h2.now;have w1:=h1.few;have w2:=h2.few;obtain⟨a1,a2,a3,a4,a5,a6⟩:=Zj0 (zs:=zs) (ss:=ss) hS h1.rg.few (by omega) i1 h1.jV (by omega) es;obtain⟨b1,b2,b3,b4,b5,b6⟩:=Zj0 (zs:=zs) (ss:=ss) hS h2.rg.few (by omega) i2 h2.jV (by omega) fs;have e0:f.s0=g.s0:=by
   have:=H.jM;unfold RgV.jM at this;rw[hna,c5]at this;exact(j6 this).1
  refine⟨by rw[a3,b3,H.jM],by omega,?_,by omega⟩;rw[a4,b4,e0];have ok:=H.ok (by omega);rw[ZoU]at ok;obtain⟨k1,_⟩:=h1.jV.AS (S:=S) (znB g.jV.tick es);obtain⟨k2,_⟩:=h2.jV.AS (S:=S) (znB f.jV.tick fs);refine Zpt hS ?_ k1.nd k2.nd g.s0;rw[ZoU S es,ZoU S fs,<-H.jV.tick];exact Zo4 (H.hrd _ (jR _)) H.jV h1.jV.nd ok
 ·rw[if_neg c5,if_neg (by rw[hna];exact c5)];exact⟨H.jM,hna,H.jV,jR _⟩
theorem Two.tick(hS:z6u S zs ss)(hb:S.kH=0){d e:NdV}{g f:RgV}{c1 c2:Int}{es fs:List Zou}{n m:Nat}(H:Two S zs ss d e g f es fs)(h1:Zrc S d g c1 es n)(h2:Zrc S e f c2 fs m){x y:Zjo}(hxy:Zrv y x)
  {d' e':NdV} {g' f':RgV} {c1' c2':Int} {es' fs':List Zou} (m1:d'.mode=1) (m2:e'.mode=1) (T1:TkD S zs ss d g c1 es x d' g' c1' es') (T2:TkD S zs ss e f c2 fs y e' f' c2' fs') :
  Two S zs ss d' e' g' f' es' fs'/\InK d'.qC e'.qC:=by
 have los:∀(d2:NdV) (g1:RgV),¬(Zpr S zs ss d2 g1).mode=1:=fun d2 g1 hm=>by
  revert hm;have:(Zpr S zs ss d2 g1).mode=(ZiF S (ZoO S zs ss d2 g1)).mode:=rfl;rw[this];unfold ZiF ZoO;split<;>simp
 rcases T1 with⟨d2,K,x1,x2,x3,x4,x5,x6,x7,rfl,rfl⟩ |⟨d2,_,_,_,_,_,_,_,rfl,_⟩
 case inr=>exact absurd m1 (los _ _)
 rcases T2 with⟨e2,J,y1,y2,y3,y4,y5,y6,y7,rfl,rfl⟩ |⟨d2,_,_,_,_,_,_,_,rfl,_⟩
 case inr=>exact absurd m2 (los _ _)
 obtain⟨q1,q2,q3,q4⟩:=H.fgt hS h1.nd h2.nd;obtain⟨r1,r2,r3,r4,r5⟩:=ZkX (zs:=zs) (ss:=ss) hS h1.nd;obtain⟨s1,s2,s3,s4,s5⟩:=ZkX (zs:=zs) (ss:=ss) hS h2.nd;have f1:d2.first=d.first:=by
  have:=(Zla x.j8 d (x.kd.foldl (he2 d) (x.jO.foldl (he1 d) (c1,Zh0 (Zhl S zs ss es g).jV.tick (ksE es) es)))).2.2.1;have e0:heS x.j8 (d,x.kd.foldl (he2 d) (x.jO.foldl (he1 d) (c1,Zh0 (Zhl S zs ss es g).jV.tick (ksE es) es)))=(d2,c1',es'):=x1;rw[e0]at this;exact this
 have f2:e2.first=e.first:=by
  have:=(Zla y.j8 e (y.kd.foldl (he2 e) (y.jO.foldl (he1 e) (c2,Zh0 (Zhl S zs ss fs f).jV.tick (ksE fs) fs)))).2.2.1;have e0:heS y.j8 (e,y.kd.foldl (he2 e) (y.jO.foldl (he1 e) (c2,Zh0 (Zhl S zs ss fs f).jV.tick (ksE fs) fs)))=(e2,c2',fs'):=y1;rw[e0]at this;exact this
 have hle:∀t,(Zhl S zs ss es g).jV.tick<=t->HLe (Ziq fs' t) (Ziq es' t):=fun t ht=>by
  have a1:=Zrx d (c1,Zh0 (Zhl S zs ss es g).jV.tick (ksE es) es) x t;have a2:=Zrx e (c2,Zh0 (Zhl S zs ss fs f).jV.tick (ksE fs) fs) y t;rw[show ZiQ d (c1,Zh0 (Zhl S zs ss es g).jV.tick (ksE es) es) x=(d2,c1',es') from x1,Zrs ht]at a1;rw[show ZiQ e (c2,Zh0 (Zhl S zs ss fs f).jV.tick (ksE fs) fs) y=(e2,c2',fs') from y1,Zrs (by rw[<-q3.tick];exact ht)]at a2;have hc:Zjv e t=Zjv d t:=by
   unfold Zjv;rw[H.now,H.fst]
  rw[a1,a2,hc];have hh:=H.hrd t (by omega);split
  ·exact⟨hh.sp.append (hxy.sp.filter _),hh.fx.append (hxy.fx.filter _),hh.sc.append (hxy.sc.filter _)⟩
  ·exact hh
 have ok0:(znE S (znB (Zhl S zs ss es g).jV.tick es') (Zhl S zs ss es g).jV).2=true:=by
  have:=congrArg Prod.snd x2;exact Zqa _ (znE S (znB (Zhl S zs ss es g).jV.tick es') (Zhl S zs ss es g).jV).1 _ this
 obtain⟨z1,z2⟩:=Zrt (zs:=zs) (ss:=ss) hb d2 K;obtain⟨z3,z4⟩:=Zrt (zs:=zs) (ss:=ss) hb e2 J;have hp1:ZoP d2.kT:=by rw[x6];exact h1.kT
 have hp2:ZoP e2.kT:=by rw[y6];exact h2.kT
 obtain⟨u1,u2,-,-⟩:=Zrd (zs:=zs) (ss:=ss) (K:=K) hS hp1;obtain⟨v1,v2,-,-⟩:=Zrd (zs:=zs) (ss:=ss) (K:=J) hS hp2;have pl1:(goN S zs ss d2 K).kT=[0]:=by rw[z1,x6,H.p1]
 have pl2:(goN S zs ss e2 J).kT=[0]:=by rw[z3,y6,H.p2]
 have hK:InK K J:=by
  have hf:InK (znE S (znB (Zhl S zs ss es g).jV.tick es') (Zhl S zs ss es g).jV).1 (znE S (znB (Zhl S zs ss fs f).jV.tick fs') (Zhl S zs ss fs f).jV).1:=by
   rw[ZoU]at ok0 ⊢;rw[ZoU S fs',<-q3.tick];exact Zo4 (hle _ (jR _)) q3 r4.nd ok0
  obtain⟨k1,k2⟩:=r4.AS (S:=S) (znB (Zhl S zs ss es g).jV.tick es');obtain⟨k3,_⟩:=s4.AS (S:=S) (znB (Zhl S zs ss fs f).jV.tick fs');have hal:(Zhl S zs ss es g).jM.length<=5:=by simp[RgV.jM];omega
  have hfew:=h1.nd.few;have:=ZpL (zs:=zs) (ss:=ss) hS (es:=fs') (es2:=es') (Zhl S zs ss es g).jM (znE S (znB (Zhl S zs ss es g).jV.tick es') (Zhl S zs ss es g).jV).2 (znE S (znB (Zhl S zs ss fs f).jV.tick fs') (Zhl S zs ss fs f).jV).2 hf k1 k3 (fun t ht=>hle t (by rw[k2]at ht;omega)) (by rw[k2];omega) (congrArg Prod.snd x2);have e1:(Zkz S zs ss (Zhl S zs ss es g) es').1=K:=congrArg Prod.fst x2;have e2:(Zkz S zs ss (Zhl S zs ss fs f) fs').1=J:=congrArg Prod.fst y2;unfold Zkz at e1 e2;rw[q1]at e2;rw[<-e1,<-e2];exact this
 obtain⟨a1,a2,a3,a4,a5⟩:=ZjF (g:=Zhl S zs ss es g) (by omega) (Pl.uS (goN S zs ss d2 K).kT 0);obtain⟨b1,b2,b3,b4,b5⟩:=ZjF (g:=Zhl S zs ss fs f) (by omega) (Pl.uS (goN S zs ss e2 J).kT 0);refine⟨⟨?_,?_,?_,?_,?_,?_,?_,?_,?_⟩,?_⟩
 ·show(goN S zs ss e2 J).now+1=(goN S zs ss d2 K).now+1;rw[u1,v1,x5,y5,H.now]
 ·show(goN S zs ss e2 J).first=(goN S zs ss d2 K).first;rw[z2,z4,f1,f2,H.fst]
 ·rw[a1,b1,q1,pl1,pl2]
 ·rw[a2,b2,q2]
 ·rw[a3,b3];exact q3
 ·intro t ht;rw[a3]at ht;exact hle t ht
 ·intro _;rw[a3];exact ok0
 ·show Pl.yx (goN S zs ss d2 K).kT=[0];rw[pl1];rfl
 ·show Pl.yx (goN S zs ss e2 J).kT=[0];rw[pl2];rfl
 ·show InK (goN S zs ss d2 K).qC (goN S zs ss e2 J).qC;rw[u2,v2];exact hK
end Go.TrRun
namespace Go.TrRun
open Go Go.Eng
variable{k:Nat}{S:StV}{zs:List Zon}{ss:List Sgn}{d:NdV}{g:RgV}{c:Int}{es:List Zou}{v w u p q:Nat}{M:Mem}
theorem ZpX(S:StV)(d:NdV)(g:RgV)(c:Int)(es:List Zou)(v w u:Nat)(x:Zjo)(hn:0<=d.now/\d.now<=100000)(hx:x.tick=d.now->8<x.j8.length\/8<x.jO.length\/8<x.kd.length) :
  ∃e,(e=0->False)/\(x.tick=d.now->e=8)/\R L Cs Zh5 [Pt 0,.a (inC x)] (ndM S d g c es v w u)=some (.t [W 0,W e],ndM S d g c es v w u):=by
 have h0:=ZkQ S d g c es v w u;have hc0:zx (R L Cs) ⟨true⟩ (.c (.fn Zh3 [] [])) [Pt 0] (ndM S d g c es v w u++[bx 4 (inC x)])=some (.w (Bo false),ndM S d g c es v w u++[bx 4 (inC x)],.no):=by
  obtain⟨s0,s1,s2,s3,s4,na,ini,p⟩:=g;cases ini<;>simp[ndM,ndC,rgC,mpB,bxv]at h0<;>simp[h0,Zly]
 obtain⟨xt,xsc,xsp,xfx⟩:=x;simp only at hx;simp only[inC,ndM,ji,je]at hc0;by_cases ht:xt=d.now
 ·subst ht;have c1:8<max (xsc.length:Int) (max xsp.length xfx.length):=by have:=hx rfl;omega
  refine⟨8,by omega,fun _=>rfl,?_⟩;rw[zUa Zji rfl];obtain⟨s0,s1,s2,s3,s4,na,ini,p⟩:=g;cases ini<;>simp[-zx,ZhG,hc0,c1,Zly,zr]
 ·refine⟨11,by omega,fun e=>absurd e ht,?_⟩;rw[zUa Zji rfl];obtain⟨s0,s1,s2,s3,s4,na,ini,p⟩:=g;cases ini<;>simp[-zx,ZhG,hc0,ht,Zly,zr]
theorem LM.same(h:LM k S d g c es v w u p q M){f:Nat}{r:AV}(hr:(∃n,r=.w (W n))\/(∃k,r=.w (.a (zG k)))\/(∃y,r=.w (.a (zJ4 y)))\/(∃l,r=.w (.a [.jb (zu l)])))
  (hR:R L Cs f [Pt 0] (ndM S d g c es v w u)=some (r,ndM S d g c es v w u)) :
  zx (R L Cs) ⟨true⟩ (.c (.fn f [] [])) [Pt k] M=some (r,M,.no):=by
 refine(h.on (.inl rfl) hR).trans ?_;obtain⟨h1,h2,h3,n1,n2,n3⟩:=h;obtain⟨ρ,hρ⟩:∃ρ:Nat->Option Nat,∀j,ρ j=match ([k,p,q]:List Nat)[j]? with|some id=>some id|none=>some (M.length+(j-3)):=⟨_,fun _=>rfl⟩
 have hrA:znn ρ r=some r:=by
  rcases hr with⟨n,rfl⟩ |⟨y,rfl⟩ |⟨⟨y1,y2,y3⟩,rfl⟩ |⟨l,rfl⟩<;>simp[zG,zJ4,zJY]
 have hb:Eng.back ρ [k,p,q] (ndM S d g c es v w u) M=some (M,[]):=by simp[Eng.back,h1,h2,h3]
 have hl:=Zo2 hρ hb (new:=[]) rfl hrA
 rwa [qe]at hl
theorem Zrr(hS:z6u S zs ss){n:Nat}(H:Zrc S d g c es n)(hn:n+300<=1000)(hd:d.now<=1000){x:Zjo}(hx:Zlc x)(h:LM k S d g c es v w u p q M)(ht:x.tick=d.now)(h8:x.j8.length<=8/\x.jO.length<=8/\x.kd.length<=8) :
  ∃d' g' c' es' v' w' u' p' q' M' fp,Zrc S d' g' c' es' (n+24)/\LM k S d' g' c' es' v' w' u' p' q' M'/\M.length<=M'.length/\zx (R L Cs) ⟨true⟩ (.c (.fn Zh5 [] [])) [Pt k,.a (inC x)] M=some (.t [W (Zlu S d'),W 0],M',fp) /\
   d'.now=d.now+1/\PlN S d d'/\TkD S zs ss d g c es x d' g' c' es'/\Fr k p q p' q' M M':=by
 obtain⟨d',g',c',es',H',BT,hP,hD,hT⟩:=H.tick (zs:=zs) (ss:=ss) hS hn hd hx h8 ht v w u;rcases hT with⟨v',w',u',hvw,hR⟩ |⟨rfl,rfl,hi,g1,c1,es1,v',w1,u1,⟨hv,hw,hu⟩,hR⟩
 ·obtain⟨M',fp,hC,hM,hl,hF⟩:=h.call (v':=v') (w':=w') (u':=u') (f:=Zh5) (xs:=inC x) (.inr ⟨x,rfl⟩) (.inl ⟨_,_,rfl⟩) (fun e=>absurd e (by omega)) (fun e=>absurd e (by omega)) hvw.2.2.2 (by simpa using hR);exact⟨d',g',c',es',v',w',u',p,q,M',fp,H',hM,by omega,by simpa using hC,BT,hP,hD,hF⟩
 ·obtain⟨M',fp,hC,hM,hl,hF⟩:=h.lose hv hw.2 hu.2 hi hR;exact⟨d',g',0,[],_,_,_,_,_,M',fp,H',hM,hl,hC,BT,hP,hD,hF⟩
theorem Zru{n:Nat}(H:Zrc S d g c es n){x:Zjo}(h:LM k S d g c es v w u p q M)(hno:¬(x.tick=d.now/\x.j8.length<=8/\x.jO.length<=8/\x.kd.length<=8)) :
  ∃e M' fp,LM k S d g c es v w u p q M'/\M'.length=M.length/\zx (R L Cs) ⟨true⟩ (.c (.fn Zh5 [] [])) [Pt k,.a (inC x)] M=some (.t [W 0,W e],M',fp)/\e≠0/\(x.tick=d.now->e=8)/\Fr k p q p q M M':=by
 have Bm:0<=d.now/\d.now<=100000:=by
  have h1:=H.nd.now;have h2:=H.nd.jV.nd.t;have h3:=H.nd.few;omega
 obtain⟨e,he,he8,hR⟩:=ZpX S d g c es v w u x Bm (fun ht=>by omega);obtain⟨M',fp,hC,hM,hl,hF⟩:=h.call (v':=v) (w':=w) (u':=u) (f:=Zh5) (xs:=inC x) (.inr ⟨x,rfl⟩) (.inl ⟨_,_,rfl⟩) (fun _=>rfl) (fun _=>rfl) (fun _=>⟨rfl,rfl⟩) (by simpa using hR);exact⟨e,M',fp,hM,hl,by simpa using hC,he,he8,hF⟩
theorem Zrc.mono{n m:Nat}(H:Zrc S d g c es n)(h:n<=m):Zrc S d g c es m:=⟨⟨H.nd.rg,H.nd.jM,H.nd.jV,H.nd.now,H.nd.few,H.nd.ents.mono h,H.nd.last,H.nd.kT⟩,H.ent.mono h,H.kb,H.kT,H.told⟩
theorem ZpW(hS:z6u S zs ss){n:Nat}(H:Zrc S d g c es n)(hn:n+300<=1000)(hd:d.now<=1000){x:Zjo}(hx:Zlc x)(h:LM k S d g c es v w u p q M) :
  ∃r e d' g' c' es' v' w' u' p' q' M' fp,Zrc S d' g' c' es' (n+24)/\d'.now<=d.now+1/\LM k S d' g' c' es' v' w' u' p' q' M'/\M.length<=M'.length/\zx (R L Cs) ⟨true⟩ (.c (.fn Zh5 [] [])) [Pt k,.a (inC x)] M=some (.t [W r,W e],M',fp) /\
   ((e=0/\r=Zlu S d'/\d'.now=d.now+1/\PlN S d d'/\TkD S zs ss d g c es x d' g' c' es')\/(e≠0/\(x.tick=d.now->e=8)/\d'=d/\g'=g/\c'=c/\es'=es))/\Fr k p q p' q' M M':=by
 by_cases hok:x.tick=d.now/\x.j8.length<=8/\x.jO.length<=8/\x.kd.length<=8
 ·obtain⟨d',g',c',es',v',w',u',p',q',M',fp,H',hM,hl,hC,BT,hP,hD,hF⟩:=Zrr (zs:=zs) (ss:=ss) hS H hn hd hx h hok.1 hok.2;exact⟨_,_,d',g',c',es',v',w',u',p',q',M',fp,H',by omega,hM,hl,hC,.inl ⟨rfl,rfl,BT,hP,hD⟩,hF⟩
 ·obtain⟨e,M',fp,hM,hl,hC,he,he8,hF⟩:=Zru H h hok;exact⟨_,_,d,g,c,es,v,w,u,p,q,M',fp,H.mono (by omega),by omega,hM,by omega,hC,.inr ⟨he,he8,rfl,rfl,rfl,rfl⟩,hF⟩
end Go.TrRun
namespace Go.TrRun
open Go Go.Eng
abbrev ZoM(l:List Zjo):List (List Cl):=l.map inC
def Zpi(y:zZP):Bool:=decide (y.seen.length<=8)&&decide (y.pts.length<=20)
def ZpQ(x:Zjo):Bool:=decide (x.j8.length<=10)&&(decide (x.jO.length<=10)&&(decide (x.kd.length<=10)&&x.j8.all Zpi))
def smB(l:List Zjo):Bool:=decide (l.length<=8)&&l.all ZpQ
theorem ZoY{α:Type}{l r:List α}{x:α}{i:Nat}(h:l.drop i=x::r):∃hi:i<l.length,l[i]=x/\l.drop (i+1)=r:=by
 have hi:i<l.length:=by
  have:=congrArg List.length h;simp at this;omega
 rw[Go.jx hi]at h;exact⟨hi,(j6 h).1,(j6 h).2⟩
theorem ZoS{α:Type}{l:List α}{i:Nat}(h:l.drop i=[])(hi:i<=l.length):i=l.length:=by
 have:=congrArg List.length h;simp at this;omega
theorem Zpw(l:List Zjo)(i:Nat)(hi:i<l.length)(hs:l[i].j8.length<=10):∀(r:List zZP) (k:Nat),l[i].j8.drop k=r->k<=l[i].j8.length ->
  Y L Cs ZoD (some [0,3,4]) 0 [(0,.w (.c (.jb (ZoM l)))),(3,.w (W i)),(4,.w (W k))] [] =
    if r.all Zpi then some (.exit 2,[(46,.w (Bo false)),(3,.w (W i)),(0,.w (.c (.jb (ZoM l)))),(4,.w (W l[i].j8.length))],[]) else some (.ret,[(2,.w (Bo false))],[])
 |[],k,hd,hk=>by
  obtain rfl:=ZoS hd hk;rw[ZfM ZoD.eq_1];simp[hi,ZlG]
 |y::r,k,hd,hk=>by
  obtain⟨hk1,hy,hd'⟩:=ZoY hd;have hw:=zB (i:=k) (by omega);have ih:=Zpw l i hi hs r (k+1) hd' (by omega);have hck:(k:Int)<l[i].j8.length:=by omega
  rw[qB];rw[ZfM ZoD.eq_1];by_cases c1:y.seen.length<=8
  ·by_cases c2:y.pts.length<=20
   ·have e:Zpi y=true:=by simp[Zpi,c1,c2]
    rw[e,ui,<-ih];have d1:¬(8:Int)<y.seen.length:=by omega
    have d2:¬(20:Int)<y.pts.length:=by omega
    simp[hi,ZlG,hck,hk1,hy,hw,zX6,zWx,zWs,d1,d2]
   ·have e:Zpi y=false:=by simp[Zpi,c2]
    rw[e,yS,if_neg (by simp)];have d1:¬(8:Int)<y.seen.length:=by omega
    have d2:(20:Int)<y.pts.length:=by omega
    simp[hi,ZlG,hck,hk1,hy,zX6,zWx,zWs,d1,d2]
  ·have e:Zpi y=false:=by simp[Zpi,c1]
   rw[e,yS,if_neg (by simp)];have d1:(8:Int)<y.seen.length:=by omega
   simp[hi,ZlG,hck,hk1,hy,zX6,zWx,zWs,d1]
theorem Zpv(l:List Zjo)(hl:l.length<=8):∀(r:List Zjo) (i:Nat),l.drop i=r->i<=l.length ->
  Y L Cs ZoC (some [3,0]) 0 [(3,.w (W i)),(0,.w (.c (.jb (ZoM l))))] [] =
    if r.all ZpQ then some (.exit 0,[(11,.w (Bo false)),(3,.w (W l.length)),(0,.w (.c (.jb (ZoM l))))],[]) else some (.ret,[(2,.w (Bo false))],[])
 |[],i,hd,hi=>by
  obtain rfl:=ZoS hd hi;rw[ZfM ZoC.eq_1];simp
 |x::r,i,hd,hi=>by
  obtain⟨hi1,hx,hd'⟩:=ZoY hd;have hw:=zB (i:=i) (by omega);have ih:=Zpv l hl r (i+1) hd' (by omega);have hci:(i:Int)<l.length:=by omega
  rw[qB];rw[ZfM ZoC.eq_1];unfold ZpQ;by_cases c1:x.j8.length<=10
  ·have d1:¬(10:Int)<x.j8.length:=by omega
   by_cases c2:x.jO.length<=10
   ·have d2:¬(10:Int)<x.jO.length:=by omega
    by_cases c3:x.kd.length<=10
    ·have d3:¬(10:Int)<x.kd.length:=by omega
     have h1:=Zpw l i hi1 (by rw[hx];exact c1) x.j8 0 (by rw[hx];rfl) (jp _);simp only[jg]at h1;simp only[c1,c2,c3,decide_true,ui];by_cases c4:x.j8.all Zpi=true
     ·rw[if_pos c4]at h1;rw[c4,ui];unfold ZpQ at ih;rw[<-ih];simp[hi1,hx,hci,hw,d1,d2,d3,ZlG,zb,h1]
     ·rw[if_neg c4]at h1;simp only[Am]at c4;rw[c4,yS,if_neg (by simp)];simp[hi1,hx,hci,hw,d1,d2,d3,ZlG,zb,h1]
    ·have d3:(10:Int)<x.kd.length:=by omega
     simp[c3,hi1,hx,hci,hw,d1,d2,d3,ZlG,zb]
   ·have d2:(10:Int)<x.jO.length:=by omega
    simp[c2,hi1,hx,hci,hw,d1,d2,ZlG,zb]
  ·have d1:(10:Int)<x.j8.length:=by omega
   simp[c1,hi1,hx,hci,hw,d1,ZlG,zb]
theorem Zqn(l:List Zjo):R L Cs ZoI [.c (.jb (ZoM l))] []=some (.w (Bo (smB l)),[]):=by
 rw[zUa ZoV rfl];unfold smB;by_cases h:l.length<=8
 ·have h2:=Zpv l h l 0 rfl (jp _);simp only[jg]at h2;have d:¬(8:Int)<l.length:=by omega
  rw[decide_eq_true h,ui];by_cases c:l.all ZpQ=true
  ·rw[if_pos c]at h2;rw[c];simp[ZoB,d,h2]
  ·rw[if_neg c]at h2;simp only[Am]at c;rw[c];simp[ZoB,d,h2]
 ·have d:(8:Int)<l.length:=by omega
  rw[decide_eq_false h,yS];simp[ZoB,d]
def w64(n:Int):Int:=IntKind.i64.wrap n
def ZoR(t:Int)(x:Mrk):Mrk:=⟨w64 (x.st+t),x.lo,x.hi⟩
def Zo8(t:Int)(x:zZP):zZP:=⟨w64 (x.qi+t),x.seen,x.pts⟩
def shI(t:Int)(x:Zjo):Zjo:=⟨w64 (x.tick+t),x.j8.map (Zo8 t),x.jO.map (ZoR t),x.kd.map (ZoR t)⟩
abbrev z4:List Cl:=[I 0,.jc,.jc,.jc]
abbrev shM(x:Zjo)(t:Int)(s1 s2 s3:Cl)(v:Nat)(G:Mem):Mem:=bx 4 (inC x)::bx 4 z4::bxv v 4 [I t,s1,s2,s3]::G
inductive LsN (n:Nat) (G:Mem):List (List Cl)->Cl->Prop
 |nil:LsN n G [] .jc
 |own (j:Nat) (hj:n<=j) (rows:List (List Cl)) (h0:rows≠[]) (h:G[j]?=some (some (own 3 rows))):LsN n G rows (.slice (j+3) rows.length 3 0 rows.length none)
theorem LsN.vg{n m:Nat}{G G':Mem}{rows:List (List Cl)}{s:Cl}(h:LsN n G rows s)(hk:∀k,k<G.length->G'[k]?=G[k]?)(hn:m<=n):LsN m G' rows s:=by
 cases h with
 |nil=>exact .nil
 |own j hj _ h0 h=>grind [own,List.getElem?_eq_some_iff]
theorem ZoX{x:Zjo}{t:Int}{s1 s2 s3:Cl}{v n:Nat}{G:Mem}{E:Env}(hn:3<=n)(h:Eng.below n s1=false\/Eng.below n s2=false\/Eng.below n s3=false):kL n E (shM x t s1 s2 s3 v G)=shM x t s1 s2 s3 v G:=by
 unfold kL;split
 ·rfl
 ·rw[if_neg];intro hb;simp only[jk]at hb;obtain⟨m,rfl⟩:∃m,n=m+3:=⟨n-3,by omega⟩
  simp_all
abbrev Zp3(i:Nat)(t:Int):Env:=[(7,.w (W i)),(4,.w (Pt 1)),(1,.w (W t)),(2,.w (Pt 0)),(5,.w (Pt 2))]
theorem Zpb(x:Zjo)(t t':Int)(s1 s3:Cl)(hs:x.jO.length<=100)(G0:Mem):∀(r:List Mrk) (i v:Nat) (s2:Cl) (G:Mem),x.jO.drop i=r->i<=x.jO.length->LsN G0.length G (zb ((x.jO.take i).map (ZoR t))) s2->G0.length<=G.length->(∀k,k<G0.length->G[k]?=G0[k]?) ->
  ∃v' S' G',Y L Cs Zox (some [7,4,1,2,5]) (G0.length+3) (Zp3 i t) (shM x t' s1 s2 s3 v G)=some (.exit 2,(55,.w (Bo false))::Zp3 x.jO.length t,(shM x t' s1 S' s3 v' G'))/\LsN G0.length G' (zb (x.jO.map (ZoR t))) S'/\G0.length<=G'.length/\(∀k,k<G0.length->G'[k]?=G0[k]?)
 |[],i,v,s2,G,hd,hi,hL,hg,hk=>by
  obtain rfl:=ZoS hd hi;refine⟨v,s2,G,?_,by rw[kJ]at hL;exact hL,hg,hk⟩;rw[ZfM Zox.eq_1];simp[inC,zb,ZjO]
 |y::r,i,v,s2,G,hd,hi,hL,hg,hk=>by
  obtain⟨hi1,hy,hd'⟩:=ZoY hd;have hw:=zB (i:=i) (by omega);have hci:(i:Int)<x.jO.length:=by omega
  have htk:zb ((x.jO.take (i+1)).map (ZoR t))=zb ((x.jO.take i).map (ZoR t))++[[I (w64 (y.st+t)),I y.lo,I y.hi]]:=by
   rw[qG hi1,hy];simp[zb,ZoR,ZjO]
  have hln:(zb ((x.jO.take i).map (ZoR t))).length=i:=by simp[zb];omega
  generalize zb ((x.jO.take i).map (ZoR t))=rows at hL htk hln;cases hL with
  |nil =>
   obtain rfl:i=0:=by simpa using hln.symm
   have hdr:kL (G0.length+3) (Zp3 1 t) (shM x t' s1 (.slice ((G.length+1)+3) 1 3 0 1 none) s3 (v+1) (G++[some (own 3 [[I (w64 (y.st+t)),I y.lo,I y.hi]]),some (own 3 [[I (w64 (y.st+t)),I y.lo,I y.hi]])]))=(shM x t' s1 (.slice ((G.length+1)+3) 1 3 0 1 none) s3 (v+1) (G++[some (own 3 [[I (w64 (y.st+t)),I y.lo,I y.hi]]),some (own 3 [[I (w64 (y.st+t)),I y.lo,I y.hi]])])):=ZoX (by omega) (.inr (.inl (by simp[Eng.below,yD];omega)));obtain⟨v',S',G',ih,h1,h2,h3⟩:=Zpb x t t' s1 s3 hs G0 r 1 (v+1) (.slice ((G.length+1)+3) 1 3 0 1 none) (G++[some (own 3 [[I (w64 (y.st+t)),I y.lo,I y.hi]]),some (own 3 [[I (w64 (y.st+t)),I y.lo,I y.hi]])]) hd' (by omega) (by
    rw[htk];exact .own (G.length+1) (by omega) _ (by simp) (by simp[own])) (by simp;omega) (fun k hk'=>by rw[js (by omega)];exact hk k hk')
   refine⟨v',S',G',?_,h1,h2,h3⟩;rw[<-ih,<-hdr];rw[ZfM Zox.eq_1];simp[-kL,inC,zb,ZjO,hi1,hy,wk1,own,w64]<;>rfl
  |own j hj _ h0 hG =>
   have hjl:=(jT.1 hG).1;have hi0:i≠0:=fun e=>h0 (jN (hln.trans e))
   have hj2:∀N:Mem,(G++N)[j]?=some (some (own 3 rows)):=fun N=>by rw[js hjl];exact hG
   have hr:(i+1)*24<=140737488355328:=by omega
   have htr:List.take i rows=rows:=by rw[<-hln];exact kJ
   rw[hln];have hdr:kL (G0.length+3) (Zp3 (i+1) t) (shM x t' s1 (.slice (j+3) (i+1) 3 0 (i+1) none) s3 (v+1) ((G++[some (own 3 [[I (w64 (y.st+t)),I y.lo,I y.hi]])]).set j (some (own 3 (rows++[[I (w64 (y.st+t)),I y.lo,I y.hi]])))))=(shM x t' s1 (.slice (j+3) (i+1) 3 0 (i+1) none) s3 (v+1) ((G++[some (own 3 [[I (w64 (y.st+t)),I y.lo,I y.hi]])]).set j (some (own 3 (rows++[[I (w64 (y.st+t)),I y.lo,I y.hi]]))))):=ZoX (by omega) (.inr (.inl (by simp[Eng.below,yD];omega)));obtain⟨v',S',G',ih,h1,h2,h3⟩:=Zpb x t t' s1 s3 hs G0 r (i+1) (v+1) (.slice (j+3) (i+1) 3 0 (i+1) none) ((G++[some (own 3 [[I (w64 (y.st+t)),I y.lo,I y.hi]])]).set j (some (own 3 (rows++[[I (w64 (y.st+t)),I y.lo,I y.hi]])))) hd' (by omega) (by
    rw[htk];have:=LsN.own (n:=G0.length) (G:=(G++[some (own 3 [[I (w64 (y.st+t)),I y.lo,I y.hi]])]).set j (some (own 3 (rows++[[I (w64 (y.st+t)),I y.lo,I y.hi]])))) j hj (rows++[[I (w64 (y.st+t)),I y.lo,I y.hi]]) (by simp) (kc (by simp;omega));simpa [hln]using this) (by simp;omega) (fun k hk'=>by rw[jH (by omega),js (by omega)];exact hk k hk')
   refine⟨v',S',G',?_,h1,h2,h3⟩;rw[<-ih,<-hdr];rw[ZfM Zox.eq_1];simp[-kL,inC,zb,ZjO,hi1,hci,hy,hw,own,w64,hj2,hln,hr,htr]<;>rfl
abbrev Zp2(i:Nat)(t:Int):Env:=[(8,.w (W i)),(4,.w (Pt 1)),(1,.w (W t)),(2,.w (Pt 0)),(5,.w (Pt 2))]
theorem Zpa(x:Zjo)(t t':Int)(s1 s2:Cl)(hs:x.kd.length<=100)(G0:Mem):∀(r:List Mrk) (i v:Nat) (s3:Cl) (G:Mem),x.kd.drop i=r->i<=x.kd.length->LsN G0.length G (zb ((x.kd.take i).map (ZoR t))) s3->G0.length<=G.length->(∀k,k<G0.length->G[k]?=G0[k]?) ->
  ∃v' S' G',Y L Cs Zow (some [8,4,1,2,5]) (G0.length+3) (Zp2 i t) (shM x t' s1 s2 s3 v G)=some (.exit 4,(88,.w (Bo false))::Zp2 x.kd.length t,(shM x t' s1 s2 S' v' G'))/\LsN G0.length G' (zb (x.kd.map (ZoR t))) S'/\G0.length<=G'.length/\(∀k,k<G0.length->G'[k]?=G0[k]?)
 |[],i,v,s3,G,hd,hi,hL,hg,hk=>by
  obtain rfl:=ZoS hd hi;refine⟨v,s3,G,?_,by rw[kJ]at hL;exact hL,hg,hk⟩;rw[ZfM Zow.eq_1];simp[inC,zb,ZjO]
 |y::r,i,v,s3,G,hd,hi,hL,hg,hk=>by
  obtain⟨hi1,hy,hd'⟩:=ZoY hd;have hw:=zB (i:=i) (by omega);have hci:(i:Int)<x.kd.length:=by omega
  have htk:zb ((x.kd.take (i+1)).map (ZoR t))=zb ((x.kd.take i).map (ZoR t))++[[I (w64 (y.st+t)),I y.lo,I y.hi]]:=by
   rw[qG hi1,hy];simp[zb,ZoR,ZjO]
  have hln:(zb ((x.kd.take i).map (ZoR t))).length=i:=by simp[zb];omega
  generalize zb ((x.kd.take i).map (ZoR t))=rows at hL htk hln;cases hL with
  |nil =>
   obtain rfl:i=0:=by simpa using hln.symm
   have hdr:kL (G0.length+3) (Zp2 1 t) (shM x t' s1 s2 (.slice ((G.length+1)+3) 1 3 0 1 none) (v+1) (G++[some (own 3 [[I (w64 (y.st+t)),I y.lo,I y.hi]]),some (own 3 [[I (w64 (y.st+t)),I y.lo,I y.hi]])]))=(shM x t' s1 s2 (.slice ((G.length+1)+3) 1 3 0 1 none) (v+1) (G++[some (own 3 [[I (w64 (y.st+t)),I y.lo,I y.hi]]),some (own 3 [[I (w64 (y.st+t)),I y.lo,I y.hi]])])):=ZoX (by omega) (.inr (.inr (by simp[Eng.below,yD];omega)));obtain⟨v',S',G',ih,h1,h2,h3⟩:=Zpa x t t' s1 s2 hs G0 r 1 (v+1) (.slice ((G.length+1)+3) 1 3 0 1 none) (G++[some (own 3 [[I (w64 (y.st+t)),I y.lo,I y.hi]]),some (own 3 [[I (w64 (y.st+t)),I y.lo,I y.hi]])]) hd' (by omega) (by
    rw[htk];exact .own (G.length+1) (by omega) _ (by simp) (by simp[own])) (by simp;omega) (fun k hk'=>by rw[js (by omega)];exact hk k hk')
   refine⟨v',S',G',?_,h1,h2,h3⟩;rw[<-ih,<-hdr];rw[ZfM Zow.eq_1];simp[-kL,inC,zb,ZjO,hi1,hy,wk1,own,w64]<;>rfl
  |own j hj _ h0 hG =>
   have hjl:=(jT.1 hG).1;have hi0:i≠0:=fun e=>h0 (jN (hln.trans e))
   have hj2:∀N:Mem,(G++N)[j]?=some (some (own 3 rows)):=fun N=>by rw[js hjl];exact hG
   have hr:(i+1)*24<=140737488355328:=by omega
   have htr:List.take i rows=rows:=by rw[<-hln];exact kJ
   rw[hln];have hdr:kL (G0.length+3) (Zp2 (i+1) t) (shM x t' s1 s2 (.slice (j+3) (i+1) 3 0 (i+1) none) (v+1) ((G++[some (own 3 [[I (w64 (y.st+t)),I y.lo,I y.hi]])]).set j (some (own 3 (rows++[[I (w64 (y.st+t)),I y.lo,I y.hi]])))))=(shM x t' s1 s2 (.slice (j+3) (i+1) 3 0 (i+1) none) (v+1) ((G++[some (own 3 [[I (w64 (y.st+t)),I y.lo,I y.hi]])]).set j (some (own 3 (rows++[[I (w64 (y.st+t)),I y.lo,I y.hi]]))))):=ZoX (by omega) (.inr (.inr (by simp[Eng.below,yD];omega)));obtain⟨v',S',G',ih,h1,h2,h3⟩:=Zpa x t t' s1 s2 hs G0 r (i+1) (v+1) (.slice (j+3) (i+1) 3 0 (i+1) none) ((G++[some (own 3 [[I (w64 (y.st+t)),I y.lo,I y.hi]])]).set j (some (own 3 (rows++[[I (w64 (y.st+t)),I y.lo,I y.hi]])))) hd' (by omega) (by
    rw[htk];have:=LsN.own (n:=G0.length) (G:=(G++[some (own 3 [[I (w64 (y.st+t)),I y.lo,I y.hi]])]).set j (some (own 3 (rows++[[I (w64 (y.st+t)),I y.lo,I y.hi]])))) j hj (rows++[[I (w64 (y.st+t)),I y.lo,I y.hi]]) (by simp) (kc (by simp;omega));simpa [hln]using this) (by simp;omega) (fun k hk'=>by rw[jH (by omega),js (by omega)];exact hk k hk')
   refine⟨v',S',G',?_,h1,h2,h3⟩;rw[<-ih,<-hdr];rw[ZfM Zow.eq_1];simp[-kL,inC,zb,ZjO,hi1,hci,hy,hw,own,w64,hj2,hln,hr,htr]<;>rfl
abbrev Zp4(i:Nat)(t:Int):Env:=[(6,.w (W i)),(4,.w (Pt 1)),(1,.w (W t)),(2,.w (Pt 0)),(5,.w (Pt 2))]
theorem Zpc(x:Zjo)(t t':Int)(s2 s3:Cl)(hs:x.j8.length<=100)(G0:Mem)(hsz:∀y∈x.j8,y.seen.length<=5000/\y.pts.length<=1000):∀(r:List zZP) (i v:Nat) (s1:Cl) (G:Mem),x.j8.drop i=r->i<=x.j8.length->LsN G0.length G (ZlG ((x.j8.take i).map (Zo8 t))) s1->G0.length<=G.length->(∀k,k<G0.length->G[k]?=G0[k]?) ->
  ∃v' S' G',Y L Cs Zoy (some [6,4,1,2,5]) (G0.length+3) (Zp4 i t) (shM x t' s1 s2 s3 v G)=some (.exit 0,(18,.w (Bo false))::Zp4 x.j8.length t,(shM x t' S' s2 s3 v' G'))/\LsN G0.length G' (ZlG (x.j8.map (Zo8 t))) S'/\G0.length<=G'.length/\(∀k,k<G0.length->G'[k]?=G0[k]?)
 |[],i,v,s1,G,hd,hi,hL,hg,hk=>by
  obtain rfl:=ZoS hd hi;refine⟨v,s1,G,?_,by rw[kJ]at hL;exact hL,hg,hk⟩;rw[ZfM Zoy.eq_1];simp[inC,ZlG,zX6,zWx,zWs,zX]
 |y::r,i,v,s1,G,hd,hi,hL,hg,hk=>by
  obtain⟨hi1,hy,hd'⟩:=ZoY hd;have hw:=zB (i:=i) (by omega);have hci:(i:Int)<x.j8.length:=by omega
  have htk:ZlG ((x.j8.take (i+1)).map (Zo8 t))=ZlG ((x.j8.take i).map (Zo8 t))++[[I (w64 (y.qi+t)),.jb (zWx y.seen),.jb (zWs y.pts)]]:=by
   rw[qG hi1,hy];simp[ZlG,Zo8,zX6]
  have hln:(ZlG ((x.j8.take i).map (Zo8 t))).length=i:=by simp[ZlG];omega
  have hy2:=hsz y (by rw[<-hy];exact jf hi1);have q1:y.seen.length*24<=140737488355328:=by omega
  have q2:y.pts.length*24<=140737488355328:=by omega
  have q3:List.take y.seen.length (List.map zWX y.seen)=List.map zWX y.seen:=jA (by simp);have q4:List.take y.pts.length (List.map zYi y.pts)=List.map zYi y.pts:=jA (by simp);generalize ZlG ((x.j8.take i).map (Zo8 t))=rows at hL htk hln;cases hL with
  |nil =>
   obtain rfl:i=0:=by simpa using hln.symm
   have hdr:kL (G0.length+3) (Zp4 1 t) (shM x t' (.slice ((G.length+3)+3) 1 3 0 1 none) s2 s3 (v+1) (G++[some { box:=false,esz:=3,rows:=zWx y.seen,gen:=y.seen.length,fz:=true,ver:=y.seen.length+1 },some { box:=false,esz:=3,rows:=zWs y.pts,gen:=y.pts.length,fz:=true,ver:=y.pts.length+1 },some (own 3 [[I (w64 (y.qi+t)),.jb (zWx y.seen),.jb (zWs y.pts)]]),some (own 3 [[I (w64 (y.qi+t)),.jb (zWx y.seen),.jb (zWs y.pts)]])]))=(shM x t' (.slice ((G.length+3)+3) 1 3 0 1 none) s2 s3 (v+1) (G++[some { box:=false,esz:=3,rows:=zWx y.seen,gen:=y.seen.length,fz:=true,ver:=y.seen.length+1 },some { box:=false,esz:=3,rows:=zWs y.pts,gen:=y.pts.length,fz:=true,ver:=y.pts.length+1 },some (own 3 [[I (w64 (y.qi+t)),.jb (zWx y.seen),.jb (zWs y.pts)]]),some (own 3 [[I (w64 (y.qi+t)),.jb (zWx y.seen),.jb (zWs y.pts)]])])):=ZoX (by omega) (.inl (by simp[Eng.below,yD];omega));obtain⟨v',S',G',ih,h1,h2,h3⟩:=Zpc x t t' s2 s3 hs G0 hsz r 1 (v+1) (.slice ((G.length+3)+3) 1 3 0 1 none) (G++[some { box:=false,esz:=3,rows:=zWx y.seen,gen:=y.seen.length,fz:=true,ver:=y.seen.length+1 },some { box:=false,esz:=3,rows:=zWs y.pts,gen:=y.pts.length,fz:=true,ver:=y.pts.length+1 },some (own 3 [[I (w64 (y.qi+t)),.jb (zWx y.seen),.jb (zWs y.pts)]]),some (own 3 [[I (w64 (y.qi+t)),.jb (zWx y.seen),.jb (zWs y.pts)]])]) hd' (by omega) (by
    rw[htk];exact .own (G.length+3) (by omega) _ (by simp) (by simp[own])) (by simp;omega) (fun k hk'=>by rw[js (by omega)];exact hk k hk')
   refine⟨v',S',G',?_,h1,h2,h3⟩;rw[<-ih,<-hdr];rw[ZfM Zoy.eq_1];by_cases c1:y.seen=[]<;>by_cases c2:y.pts=[]<;>simp[-kL,inC,ZlG,zX6,zWx,zWs,zX,hi1,hy,wk1,own,w64,q1,q2,q3,q4,c1,c2]<;>rfl
  |own j hj _ h0 hG =>
   have hjl:=(jT.1 hG).1;have hi0:i≠0:=fun e=>h0 (jN (hln.trans e))
   have hj2:∀N:Mem,(G++N)[j]?=some (some (own 3 rows)):=fun N=>by rw[js hjl];exact hG
   have hr:(i+1)*56<=140737488355328:=by omega
   have htr:List.take i rows=rows:=by rw[<-hln];exact kJ
   rw[hln];have hdr:kL (G0.length+3) (Zp4 (i+1) t) (shM x t' (.slice (j+3) (i+1) 3 0 (i+1) none) s2 s3 (v+1) ((G++[some { box:=false,esz:=3,rows:=zWx y.seen,gen:=y.seen.length,fz:=true,ver:=y.seen.length+1 },some { box:=false,esz:=3,rows:=zWs y.pts,gen:=y.pts.length,fz:=true,ver:=y.pts.length+1 },some (own 3 [[I (w64 (y.qi+t)),.jb (zWx y.seen),.jb (zWs y.pts)]])]).set j (some (own 3 (rows++[[I (w64 (y.qi+t)),.jb (zWx y.seen),.jb (zWs y.pts)]])))))=(shM x t' (.slice (j+3) (i+1) 3 0 (i+1) none) s2 s3 (v+1) ((G++[some { box:=false,esz:=3,rows:=zWx y.seen,gen:=y.seen.length,fz:=true,ver:=y.seen.length+1 },some { box:=false,esz:=3,rows:=zWs y.pts,gen:=y.pts.length,fz:=true,ver:=y.pts.length+1 },some (own 3 [[I (w64 (y.qi+t)),.jb (zWx y.seen),.jb (zWs y.pts)]])]).set j (some (own 3 (rows++[[I (w64 (y.qi+t)),.jb (zWx y.seen),.jb (zWs y.pts)]]))))):=ZoX (by omega) (.inl (by simp[Eng.below,yD];omega));obtain⟨v',S',G',ih,h1,h2,h3⟩:=Zpc x t t' s2 s3 hs G0 hsz r (i+1) (v+1) (.slice (j+3) (i+1) 3 0 (i+1) none) ((G++[some { box:=false,esz:=3,rows:=zWx y.seen,gen:=y.seen.length,fz:=true,ver:=y.seen.length+1 },some { box:=false,esz:=3,rows:=zWs y.pts,gen:=y.pts.length,fz:=true,ver:=y.pts.length+1 },some (own 3 [[I (w64 (y.qi+t)),.jb (zWx y.seen),.jb (zWs y.pts)]])]).set j (some (own 3 (rows++[[I (w64 (y.qi+t)),.jb (zWx y.seen),.jb (zWs y.pts)]])))) hd' (by omega) (by
    rw[htk];have:=LsN.own (n:=G0.length) (G:=(G++[some { box:=false,esz:=3,rows:=zWx y.seen,gen:=y.seen.length,fz:=true,ver:=y.seen.length+1 },some { box:=false,esz:=3,rows:=zWs y.pts,gen:=y.pts.length,fz:=true,ver:=y.pts.length+1 },some (own 3 [[I (w64 (y.qi+t)),.jb (zWx y.seen),.jb (zWs y.pts)]])]).set j (some (own 3 (rows++[[I (w64 (y.qi+t)),.jb (zWx y.seen),.jb (zWs y.pts)]])))) j hj (rows++[[I (w64 (y.qi+t)),.jb (zWx y.seen),.jb (zWs y.pts)]]) (by simp) (kc (by simp;omega));simpa [hln]using this) (by simp;omega) (fun k hk'=>by rw[jH (by omega),js (by omega)];exact hk k hk')
   refine⟨v',S',G',?_,h1,h2,h3⟩;rw[<-ih,<-hdr];rw[ZfM Zoy.eq_1];by_cases c1:y.seen=[]<;>by_cases c2:y.pts=[]<;>simp[-kL,inC,ZlG,zX6,zWx,zWs,zX,hi1,hci,hy,hw,own,w64,hj2,hln,hr,htr,q1,q2,q3,q4,c1,c2]<;>rfl
theorem LsN.frz{n:Nat}{G:Mem}{rows:List (List Cl)}{s:Cl}(h:LsN n G rows s)(a b c:Option Blk):zdR (a::b::c::G) s=some (.jb rows):=by
 cases h with
 |nil=>rfl
 |own j hj _ h0 h=>simp[zdR,Eng.look,h,own]
theorem Zp9:∀(l:List Nat) (M:Mem),(List.foldl zX M l).length=M.length
 |[],M=>rfl
 |id::l,M=>by
  show(List.foldl zX (zX M id) l).length=_;rw[Zp9 l];unfold zX;split
  ·split<;>simp
  ·rfl
theorem Zqx(l:List Nat)(M:Mem):(List.foldl zX M l=[])=(M=[]):=by
 rw[<-kh,<-kh,Zp9]
theorem Zqm(M:Mem)(k:IntKind)(n:Int):zdR M (.int k n)=some (.int k n):=rfl
theorem ZpV(x:Zjo)(t:Int)(hx:Zlc x) :
  R L Cs ZoG [.a (inC x),W t] []=some (.w (.a (inC (shI t x))),[]):=by
 obtain⟨v1,S1,G1,y1,l1,g1,k1⟩:=Zpc x t (w64 (x.tick+t)) .jc .jc hx.n1 [] hx.sc x.j8 0 1 .jc [] rfl (jp _) .nil (jm _) (fun k hk=>by cases hk);obtain⟨v2,S2,G2,y2,l2,g2,k2⟩:=Zpb x t (w64 (x.tick+t)) S1 .jc hx.n2 G1 x.jO 0 v1 .jc G1 rfl (jp _) .nil (jm _) (fun k hk=>rfl);obtain⟨v3,S3,G3,y3,l3,g3,k3⟩:=Zpa x t (w64 (x.tick+t)) S1 S2 hx.n3 G2 x.kd 0 v2 .jc G2 rfl (jp _) .nil (jm _) (fun k hk=>rfl);have a1:=((l1.vg k2 (jp _)).vg (fun k hk=>k3 k hk) (jp _));have a2:=l2.vg k3 (jp _);have f1:=a1.frz;have f2:=a2.frz;have f3:=l3.frz;clear l1 l2 l3 a1 a2 k1 k2 k3;show _=some (AV.w (WV.a [I (w64 (x.tick+t)),.jb (ZlG (x.j8.map (Zo8 t))),.jb (zb (x.jO.map (ZoR t))),.jb (zb (x.kd.map (ZoR t)))]),([]:Mem));generalize ZlG (x.j8.map (Zo8 t))=z1 at *;generalize zb (x.jO.map (ZoR t))=z2 at *;generalize zb (x.kd.map (ZoR t))=z3 at *;simp only[shM,Zp4,Zp3,Zp2,jg,jo,jF]at y1 y2 y3;rw[zUa ZoQ rfl];simp only[inC,w64]at y1 y2 y3 ⊢;simp[-zdR,ZoF,y1,y2,y3,f1,f2,f3,Zqm,Zqx]
open Go Go.Eng Go.PlanLaw
theorem Zk9(n:Nat):EsN n []:=fun e he=>by cases he
def Zoc(S:StV)(zs:List Zon)(ss:List Sgn)(y:zZP):NdV:=ZjL (goN S zs ss { nd0 S with last:=0 } (znE S (some ⟨[],[],[y]⟩) (rg0 S).jV).1)
theorem Zre{S:StV}{zs:List Zon}{ss:List Sgn}(hL:ZkT S zs ss)(ht:S.t0=0)(y:zZP)(hst:y.qi=0)(hp:y.pts=[])(hse:y.seen.length<=5000) :
  ∃v' w' u',(4<v'/\0<w'/\u'≠0)/\(ZhJ (rg0 S) (Pl.uS (goN S zs ss { nd0 S with last:=0 } (znE S (some ⟨[],[],[y]⟩) (rg0 S).jV).1).kT 0)).ini=false/\R L Cs Zh5 [Pt 0,.a (inC ⟨0,[y],[],[]⟩)] (ndM S (nd0 S) (rg0 S) 0 [] 4 0 0)=some (.t [W (Zlu S (Zoc S zs ss y)),W 0],ndM S (Zoc S zs ss y) (ZhJ (rg0 S) (Pl.uS (goN S zs ss { nd0 S with last:=0 } (znE S (some ⟨[],[],[y]⟩) (rg0 S).jV).1).kT 0)) 1 (Zju ⟨[],[],[y]⟩) v' w' u'):=by
 unfold Zoc;have hk:=KB.zero hL.ok hL.be;have hr0:ZjQ (rg0 S):=⟨jp _,fun _=>rfl⟩;have hnd:Zk7 S (nd0 S) (rg0 S) [] 1:=by
  refine⟨hr0,fun a ha=>?_,hk,?_,?_,Zk9 1,?_,?_⟩
  ·cases ha
  ·show S.t0=S.t0+0;omega
  ·show S.t0<=90000;omega
  ·show 0<=S.t0/\S.t0<=1099511627776;omega
  ·show 1<=900;decide
 have hq:Zlb ⟨[],[],[y]⟩:=⟨rfl,rfl,fun s hs=>by rw[jt.1 hs];exact hp⟩;have e2:hrN S zs ss (nd0 S) (rg0 S) 0 [] [] ⟨0,[y],[],[]⟩=({ nd0 S with last:=0 },(1,Zju ⟨[],[],[y]⟩)):=by
  show(heD (nd0 S) y,he3 (nd0 S) (0,[]) y)=_;have hc:Zjv (nd0 S) y.qi=true:=by
   unfold Zjv nd0;simp only[hst,ht];decide
  unfold heD he3;rw[if_pos hc,if_pos hc,hst];have e:max (nd0 S).last 0=0:=by show max S.t0 0=0;omega
  rw[e];rfl
 have eK:Zkz S zs ss (Zhl S zs ss [] (rg0 S)) (Zju ⟨[],[],[y]⟩)=((znE S (some ⟨[],[],[y]⟩) (rg0 S).jV).1,true):=by
  have e:Zkz S zs ss (Zhl S zs ss [] (rg0 S)) (Zju ⟨[],[],[y]⟩)=znE S (znB S.t0 (Zju ⟨[],[],[y]⟩)) (rg0 S).jV:=rfl;rw[e,ht];show znE S (some ⟨[],[],[y]⟩) (rg0 S).jV=_;rw[<-Zkg (S:=S) hq (rg0 S).jV]
 obtain⟨v',w',u',hvw,hes2,hR⟩:=Zlp hL.ok hnd (by decide) 0 4 0 0 [] (ZkF 0) (by decide) (x:=⟨0,[y],[],[]⟩) ⟨by simp,by simp,by simp,fun z hz=>by rw[jt.1 hz,hp];exact⟨hse,by simp⟩⟩ ⟨by simp,by simp,by simp⟩ ht.symm e2 eK;have r0:Zhl S zs ss [] (rg0 S)=rg0 S:=rfl;rw[r0]at hR;exact⟨v',w',u',⟨hvw.1,hvw.2.1,fun q=>by cases (hvw.2.2.2 q).1⟩,(ZjF (g:=rg0 S) (jp _) _).2.2.2.2,hR⟩
abbrev lit5(x0 q:Int):Option Blk:=some { box:=false,esz:=3,rows:=[[I x0,I 0,I q]],gen:=1,fz:=true,ver:=2 }
abbrev lit6(x0 q:Int)(z:Bool)(v:Nat):Option Blk:=some { box:=false,esz:=3,rows:=[[I 0,.jb [[I x0,I 0,I q]],.jb []]],gen:=1,fz:=z,ver:=v }
variable{S:StV}{zs:List Zon}{ss:List Sgn}
theorem Zrc.zero(hL:ZkT S zs ss)(ht:S.t0=0):Zrc S (nd0 S) (rg0 S) 0 [] 0:=by
 have hk:=KB.zero hL.ok hL.be;refine⟨⟨⟨jp _,fun _=>rfl⟩,(fun a ha=>by cases ha),hk,?_,?_,EsN.nil _,?_,by show 1<=900;decide⟩,Zoz.nil 0,hk,⟨fun a ha=>?_,by show 1<=125;decide⟩,⟨fun a ha=>?_,by show 1<=125;decide⟩⟩
 ·show S.t0=S.t0+0;omega
 ·show S.t0<=90000;omega
 ·show 0<=S.t0/\S.t0<=1099511627776;omega
 ·obtain rfl:a=0:=jt.1 ha;unfold zk0;omega
 ·obtain rfl:a=0:=jt.1 ha;unfold zk0;omega
theorem Zp1{l:List Zjo}(h:smB l=true):l.length<=8/\∀x∈l,∀t,Zlc (shI t x):=by
 unfold smB at h;simp only[jk,decide_eq_true_eq,jy]at h;refine⟨h.1,fun x hx t=>?_⟩;have h2:=h.2 x hx;unfold ZpQ at h2;simp only[jk,decide_eq_true_eq,jy]at h2;obtain⟨a,b,c,d⟩:=h2;refine⟨by simp[shI];omega,by simp[shI];omega,by simp[shI];omega,fun y hy=>?_⟩;simp only[shI,jX]at hy;obtain⟨z,hz,rfl⟩:=hy;have:=d z hz;unfold Zpi at this;simp only[jk,decide_eq_true_eq]at this;simp only[Zo8];omega
theorem Zqy{l:List Zjo}(h:smB l=true){x:Zjo}(hx:x∈l):Zlc x:=by
 have h2:=(Zp1 h).2 x hx 0;refine⟨by simpa [shI]using h2.n1,by simpa [shI]using h2.n2,by simpa [shI]using h2.n3,fun y hy=>?_⟩;exact h2.sc (Zo8 0 y) (by simp only[shI];exact qI hy)
abbrev stA(n r dl bu si s sp ln ac br ra:Int)(sg:Bool):List Cl:=[I n,I r,I dl,I bu,I si,I s,I sp,I ln,I ac,I br,I ra,.bool sg]
end Go.TrRun
namespace Go.TrRun
open Go Go.Eng Go.PlanLaw
variable{k:Nat}{S:StV}{zs:List Zon}{ss:List Sgn}{d:NdV}{g:RgV}{c:Int}{es:List Zou}{v w u p q:Nat}{M:Mem}
theorem LM.app(h:LM k S d g c es v w u p q M)(X:Mem):LM k S d g c es v w u p q (M++X):=by
 obtain⟨l1,l2,l3⟩:=h.len;exact⟨by rw[js l1];exact h.nd,by rw[js l2];exact h.rg,by rw[js l3];exact h.mp,h.kp,h.kq,h.pq⟩
end Go.TrRun
namespace Go.TrRun
open Go Go.Eng Go.PlanLaw
theorem Zrv.refl(x:Zjo):Zrv x x:=⟨.refl _,.refl _,.refl _⟩
theorem ZrH(x:Zjo)(n:Int)(h0:0<=n)(h8:n<8):∃y,Zrv y x/\y.tick=x.tick/\R L Cs Zrk [.a (inC x),W n] []=some (.w (.a (inC y)),[]):=by
 have hc:n=0\/n=1\/n=2\/n=3\/n=4\/n=5\/n=6\/n=7:=by omega
 have z1:([]:List zZP).Sublist x.j8:=Aj _;have z2:([]:List Mrk).Sublist x.jO:=Aj _;have z3:([]:List Mrk).Sublist x.kd:=Aj _;have w0:IntKind.i64.wrap 0=0:=rfl;have w1:IntKind.i64.wrap 1=1:=rfl;have w2:IntKind.i64.wrap 2=2:=rfl;have w3:IntKind.i64.wrap 3=3:=rfl;obtain⟨t,a,b,c⟩:=x;have key:∀(a':List zZP) (b' c':List Mrk),a'.Sublist a->b'.Sublist b->c'.Sublist c->R L Cs Zrk [.a (inC ⟨t,a,b,c⟩),W n] []=some (.w (.a (inC ⟨t,a',b',c'⟩)),[])->∃y,Zrv y ⟨t,a,b,c⟩/\y.tick=t/\R L Cs Zrk [.a (inC ⟨t,a,b,c⟩),W n] []=some (.w (.a (inC y)),[]):=fun a' b' c' h1 h2 h3 h=>⟨⟨t,a',b',c'⟩,⟨h2,h3,h1⟩,rfl,h⟩
 rcases hc with rfl|rfl|rfl|rfl|rfl|rfl|rfl|rfl
 ·refine key [] [] [] z1 z2 z3 ?_;rw[zUa Zri rfl];simp[Zrh,inC,ZlG,zb,w0,w1,w2,w3]
 ·refine key a [] [] (.refl _) z2 z3 ?_;rw[zUa Zri rfl];simp[Zrh,inC,ZlG,zb,w0,w1,w2,w3]
 ·refine key [] b [] z1 (.refl _) z3 ?_;rw[zUa Zri rfl];simp[Zrh,inC,ZlG,zb,w0,w1,w2,w3]
 ·refine key a b [] (.refl _) (.refl _) z3 ?_;rw[zUa Zri rfl];simp[Zrh,inC,ZlG,zb,w0,w1,w2,w3]
 ·refine key [] [] c z1 z2 (.refl _) ?_;rw[zUa Zri rfl];simp[Zrh,inC,ZlG,zb,w0,w1,w2,w3]
 ·refine key a [] c (.refl _) z2 (.refl _) ?_;rw[zUa Zri rfl];simp[Zrh,inC,ZlG,zb,w0,w1,w2,w3]
 ·refine key [] b c z1 (.refl _) (.refl _) ?_;rw[zUa Zri rfl];simp[Zrh,inC,ZlG,zb,w0,w1,w2,w3]
 ·refine key a b c (.refl _) (.refl _) (.refl _) ?_;rw[zUa Zri rfl];simp[Zrh,inC,ZlG,zb,w0,w1,w2,w3]
def Zrq(S:StV):StV:={ S with kH:=0,vJ:=1000 }
theorem Zrz{S:StV}{zs:List Zon}{ss:List Sgn}(h:ZkT S zs ss):ZkT (Zrq S) zs ss :=
 ⟨⟨h.ok.full,h.ok.vU,h.ok.car,by show(0:Int)<=0/\(0:Int)<=8;decide,by show(0:Int)<=1000/\(1000:Int)<=1000;decide⟩,by
   obtain⟨h1,h2,h3,h4⟩:=h;cases h2;constructor<;>assumption,h.con,h.wl⟩
theorem ZrG{S:StV}(n r dl bu si s sp ln ac br ra:Int)(sg:Bool)
  (hSet:R L Cs ZlI [.a (stA n r dl bu si s sp ln ac br ra sg)] []=some (.w (.a (ZlR S)),[])):R L Cs Zrn [.a (stA n r dl bu si s sp ln ac br ra sg)] []=some (.w (.a (ZlR (Zrq S))),[]):=by
 have c1:∀M,zx (R L Cs) ⟨true⟩ (.c (.fn ZlI [] [])) [.a (stA n r dl bu si s sp ln ac br ra sg)] M=some (.w (.a (ZlR S)),M,.no):=fun M=>by simp[hSet]
 rw[zUa Zrp rfl];simp[-zx,Zrm,c1,Zrq]
variable{k:Nat}{S:StV}{zs:List Zon}{ss:List Sgn}{d e:NdV}{g f:RgV}{c c2:Int}{es fs:List Zou}{v w u p q v2 w2 u2 p2 q2:Nat}{M M':Mem}
theorem LM.fr{k1 p1 q1 p1' q1':Nat}(h:LM k S d g c es v w u p q M)(F:Fr k1 p1 q1 p1' q1' M M')(n1:k≠k1/\k≠p1/\k≠q1)(n2:p≠k1/\p≠p1/\p≠q1)(n3:q≠k1/\q≠p1/\q≠q1):LM k S d g c es v w u p q M':=by
 obtain⟨l1,l2,l3⟩:=h.len;exact⟨by rw[(F k l1 n1.1 n1.2.1 n1.2.2).1];exact h.nd,by rw[(F p l2 n2.1 n2.2.1 n2.2.2).1];exact h.rg,by rw[(F q l3 n3.1 n3.2.1 n3.2.2).1];exact h.mp,h.kp,h.kq,h.pq⟩
structure TM(S:StV)(d e:NdV)(g f:RgV)(c c2:Int)(es fs:List Zou)(v w u p q v2 w2 u2 p2 q2:Nat)(M:Mem):Prop where
 a:LM 1 S d g c es v w u p q M
 b:LM 4 S e f c2 fs v2 w2 u2 p2 q2 M
 n1:p≠4/\q≠4
 n2:p2≠1/\q2≠1
 n3:p2≠p/\p2≠q
 n4:q2≠p/\q2≠q
theorem TM.drop(h:TM S d e g f c c2 es fs v w u p q v2 w2 u2 p2 q2 M){n:Nat}(hn:4<n)(E:Env):TM S d e g f c c2 es fs v w u p q v2 w2 u2 p2 q2 (kL n E M):=⟨h.a.drop (by omega) E,h.b.drop hn E,h.n1,h.n2,h.n3,h.n4⟩
theorem TM.fst{d':NdV}{g':RgV}{c':Int}{es':List Zou}{v' w' u' p' q':Nat}(h:TM S d e g f c c2 es fs v w u p q v2 w2 u2 p2 q2 M)(a:LM 1 S d' g' c' es' v' w' u' p' q' M')(F:Fr 1 p q p' q' M M'):TM S d' e g' f c' c2 es' fs v' w' u' p' q' v2 w2 u2 p2 q2 M':=by
 obtain⟨l1,l2,l3⟩:=h.b.len;have k1:=h.b.kp;have k2:=h.b.kq;obtain⟨x1,x2,x3⟩:=F 4 l1 (by decide) (kF h.n1.1) (kF h.n1.2);obtain⟨y1,y2,y3⟩:=F p2 l2 h.n2.1 h.n3.1 h.n3.2;obtain⟨z1,z2,z3⟩:=F q2 l3 h.n2.2 h.n4.1 h.n4.2;exact⟨a,h.b.fr F ⟨by decide,kF h.n1.1,kF h.n1.2⟩ ⟨h.n2.1,h.n3.1,h.n3.2⟩ ⟨h.n2.2,h.n4.1,h.n4.2⟩,⟨kF x2,kF x3⟩,h.n2,⟨y2,y3⟩,⟨z2,z3⟩⟩
theorem TM.snd{e':NdV}{f':RgV}{c':Int}{fs':List Zou}{v' w' u' p' q':Nat}(h:TM S d e g f c c2 es fs v w u p q v2 w2 u2 p2 q2 M)(b:LM 4 S e' f' c' fs' v' w' u' p' q' M')(F:Fr 4 p2 q2 p' q' M M'):TM S d e' g f' c c' es fs' v w u p q v' w' u' p' q' M':=by
 obtain⟨l1,l2,l3⟩:=h.a.len;obtain⟨x1,x2,x3⟩:=F 1 l1 (by decide) (kF h.n2.1) (kF h.n2.2);obtain⟨y1,y2,y3⟩:=F p l2 h.n1.1 (kF h.n3.1) (kF h.n4.1);obtain⟨z1,z2,z3⟩:=F q l3 h.n1.2 (kF h.n3.2) (kF h.n4.2);exact⟨h.a.fr F ⟨by decide,kF h.n2.1,kF h.n2.2⟩ ⟨h.n1.1,kF h.n3.1,kF h.n4.1⟩ ⟨h.n1.2,kF h.n3.2,kF h.n4.2⟩,b,h.n1,⟨kF x2,kF x3⟩,⟨kF y2,kF z2⟩,⟨kF y3,kF z3⟩⟩
end Go.TrRun
set_option maxRecDepth 100000
namespace Go.TrRun
open Go Go.Eng Go.PlanLaw
def mpA:zD:=⟨0,[⟨1,[(0,0),(100000,0)],1500,1500,[],100000⟩],[],[],[]⟩
def Zn8:StV:=⟨mpA,[0],⟨4000,20,60,30,0⟩,⟨10000,10000,0,0⟩,0,8,5,true⟩
theorem Zod{l:zfn}(h:l∈mpA.jd):l=⟨1,[(0,0),(100000,0)],1500,1500,[],100000⟩:=jt.1 h
theorem Zoh(a:Int):zS mpA a=[]:=by
 by_cases h:mpA.jd.length<=a.toNat
 ·exact zyt h
 ·have e:a.toNat=0:=by
   have:mpA.jd.length=1:=rfl;omega
  unfold zS;rw[e];rfl
theorem Zor:zcp mpA where
 small:=⟨by decide,fun l h=>by rw[Zod h];decide,fun l h=>by rw[Zod h];intro x hx;cases hx⟩
 chk:=zah.2 ⟨200,by kernel_rfl⟩
 rchk:=zah.2 ⟨200,by kernel_rfl⟩
 len:=fun l h=>by rw[Zod h];exact zah.2 ⟨200,by kernel_rfl⟩
 rlen:=fun l h=>by rw[Zod h];exact zah.2 ⟨200,by kernel_rfl⟩
 Cj:=fun l h=>by rw[Zod h];decide
 kind:=fun l h=>by rw[Zod h];exact .inl rfl
 v7:=fun l h=>by rw[Zod h];decide
theorem Zos:zmq mpA [] [] where
 qO:=Zor
 one:=⟨fun l h=>by rw[Zod h];exact⟨0,0,100000,0,rfl,⟨by decide,by decide,zah.2 ⟨400,by kernel_rfl⟩,zah.2 ⟨400,by kernel_rfl⟩,zah.2 ⟨400,by kernel_rfl⟩,zah.2 ⟨400,by kernel_rfl⟩⟩⟩,by decide⟩
 yn:=⟨by decide,fun a=>by rw[Zoh];decide,fun a x h=>(by rw[Zoh]at h;cases h),fun a x h=>(by rw[Zoh]at h;cases h),fun a x h=>(by rw[Zoh]at h;cases h)⟩
 zd:=⟨rfl,rfl,by decide,by decide,fun z h=>(by cases h),fun z h=>(by cases h),fun z h=>(by cases h)⟩
 asc:=fun _ _=>by simp
 nd:=fun z h=>by cases h
 pv:=fun z h=>by cases h
theorem Zok:∀l:List Int,∀a,zKh mpA [] a l=[]
 |[],_=>rfl
 |x::l,a=>by
  unfold zKh;rw[Zok l];rfl
theorem Zol:zKj mpA [] []:=⟨Zos,by decide,by decide,by decide,⟨by kernel_rfl,by kernel_rfl⟩,fun l _=>by rw[Zok];simp[zN1],fun l _=>by rw[Zok];decide⟩
theorem Zoq:ZkT Zn8 [] [] where
 ok:=⟨Zol,by kernel_rfl,by unfold Car.ok Zn8;simp only;omega,by decide,by decide⟩
 be:=⟨⟨rfl,rfl⟩,by decide,by decide,by decide,fun p h=>(by rw[show zKh Zn8.m [] 0 Zn8.r=[] from Zok _ _]at h;cases h),by kernel_rfl,by decide⟩
 con:=fun z h=>by cases h
 wl:=fun w h=>by cases h
abbrev scA:zZP:=⟨0,[⟨0,0,60000⟩],[]⟩
theorem Zoi:R L Cs Zn7 [] []=some (.w (.a (ZlR Zn8)),[]):=zah.2 ⟨200,by kernel_rfl⟩
theorem Zot:Zlu Zn8 (Zoc Zn8 [] [] scA)=20/\(Zoc Zn8 [] [] scA).looked=1/\(Zoc Zn8 [] [] scA).mode=1/\(Zoc Zn8 [] [] scA).now=1:=by
 have h1:decide (Zlu Zn8 (Zoc Zn8 [] [] scA)=20/\(Zoc Zn8 [] [] scA).looked=1/\(Zoc Zn8 [] [] scA).mode=1/\(Zoc Zn8 [] [] scA).now=1)=true:=by kernel_rfl
 exact of_decide_eq_true h1
theorem Zog(S:StV)(d:NdV)(g:RgV)(c:Int)(es:List Zou)(v w u:Nat):R L Cs Zoa [Pt 0] (ndM S d g c es v w u)=some (.w (W d.looked),ndM S d g c es v w u):=by
 have h:=ZkQ S d g c es v w u;obtain⟨s0,s1,s2,s3,s4,n,ini,p⟩:=g;rw[zUa Zob rfl];cases ini<;>simp[ndM,ndC,rgC,mpB,bxv]at h<;>simp[ZiM,h]
abbrev Zom(S:StV)(d:NdV)(g:RgV)(es:List Zou)(v w u:Nat)(x0 q:Int):Mem:=[bxv v 46 (ndX S d 1 2),bxv w 12 (rgC 1 g),mpB 1 es u,lit5 x0 q,lit6 x0 q true 2]
theorem Zoe{S:StV}{d:NdV}{g:RgV}{es:List Zou}{v w u:Nat}{x0 q:Int}(hi:g.ini=false){f:Nat}{n:Int}
  (hR:R L Cs f [Pt 0] (ndM S d g 1 es v w u)=some (.w (W n),ndM S d g 1 es v w u)) :
  zx (R L Cs) ⟨true⟩ (.c (.fn f [] [])) [Pt 0] (Zom S d g es v w u x0 q)=some (.w (W n),Zom S d g es v w u x0 q,.no):=by
 obtain⟨s0,s1,s2,s3,s4,na,ini,p⟩:=g;simp only at hi;subst hi;simp[ndM,ndC,rgC,mpB,bxv]at hR;simp[Zom,ndX,hR,Zly]
theorem Zop{S:StV}{zs:List Zon}{ss:List Sgn}(hL:ZkT S zs ss) :
  ∃fp,zx (R L Cs) ⟨true⟩ (.c (.fn ZlW [] [])) [.a (ZlR S)] []=some (.t [Pt 0,W 0],[bxv 4 46 (ndX S (nd0 S) 1 2),bxv 0 12 (rgC 1 (rg0 S)),mpB 0 [] 0],fp):=by
 have CR:=Znz hL.ok hL.be;refine⟨.no,?_⟩;simp[ndM,ndC,rgC,mpB,bxv,nd0,rg0,ZlR]at CR;simp[CR,ndX,nd0,rg0,ZlR]
theorem Zoo{S:StV}{d':NdV}{g':RgV}{es':List Zou}{v' w' u':Nat}(hi':g'.ini=false)(h:4<v'/\0<w'/\u'≠0)(x0 q x:Int)
  (hR:R L Cs Zh5 [Pt 0,.a (inC ⟨0,[⟨0,[⟨x0,0,q⟩],[]⟩],[],[]⟩)] (ndM S (nd0 S) (rg0 S) 0 [] 4 0 0)=some (.t [W x,W 0],ndM S d' g' 1 es' v' w' u')) :
  ∃fp,zx (R L Cs) ⟨true⟩ (.c (.fn Zh5 [] [])) [Pt 0,.a [I 0,.slice 4 1 3 0 1 none,.jc,.jc]] [bxv 4 46 (ndX S (nd0 S) 1 2),bxv 0 12 (rgC 1 (rg0 S)),mpB 0 [] 0,lit5 x0 q,lit6 x0 q false 1] =
   some (.t [W x,W 0],Zom S d' g' es' v' w' u' x0 q,fp):=by
 obtain⟨r0,r1,r2,r3,r4,ma,jni,p'⟩:=g';simp only at hi';subst hi';have a1:¬v'=4:=by omega
 have a2:¬w'=0:=by omega
 have a3:=h.2.2;refine⟨.wr [(4,0,whole),(0,0,whole),(1,0,whole),(2,0,whole)],?_⟩;simp[ndM,ndC,rgC,mpB,bxv,inC,ZlG,zb,zX6,zWx,zWX,zWs,rg0,nd0]at hR;simp[ndX,hR,Zly,a1,a2,a3,rg0,nd0,lit5,lit6,zX]
theorem Zoj:R L Cs ZlH [] []=some (.w (Bo true),[]):=by
 obtain⟨v1,w1,u1,hv1,hi1,hT1⟩:=Zre Zoq rfl scA rfl rfl (by decide);obtain⟨f1,f2,f3,f4⟩:=Zot;generalize Zoc Zn8 [] [] scA=d1 at *;generalize ZhJ (rg0 Zn8) _=g1 at *;rw[f1]at hT1;have c1:zx (R L Cs) ⟨true⟩ (.c (.fn Zn7 [] [])) [] []=some (.w (.a (ZlR Zn8)),[],.no):=by simp[Zoi]
 obtain⟨fp,hN⟩:=Zop Zoq;obtain⟨fp1,hT⟩:=Zoo hi1 hv1 0 60000 20 hT1;have hL:=Zoe (S:=Zn8) (x0:=0) (q:=60000) hi1 (Zog Zn8 d1 g1 1 (Zju ⟨[],[],[scA]⟩) v1 w1 u1);have hM:=Zoe (S:=Zn8) (x0:=0) (q:=60000) hi1 (Zmn Zn8 d1 g1 1 (Zju ⟨[],[],[scA]⟩) v1 w1 u1);have hW:=Zoe (S:=Zn8) (x0:=0) (q:=60000) hi1 (ZnT Zn8 d1 g1 1 (Zju ⟨[],[],[scA]⟩) v1 w1 u1);rw[f2]at hL;rw[f3]at hM;rw[f4]at hW;rw[zUa Zn9 rfl];simp (maxSteps:=400000) [-zx,Zin,c1,hN,hT,hL,hM,hW,zg,zX,zH]
theorem ZnL.law{m:zD}{zs:List Zon}{ss:List Sgn}(hM:ZnL m zs ss){k:Int}(hk:k=0\/zaK m ((zDT m k).headD 0)=1)(bu si dl s sp ln ac br ra:Int)(sg:Bool):ZkT (Zns m k bu si dl s sp ln ac br ra sg) zs ss:=by
 obtain⟨h1,h2⟩:=ZnR hM hk bu si dl s sp ln ac br ra sg;exact⟨h1,h2,fun z hz=>hM.con _ h1.vU z hz,hM.wl⟩
theorem ZoT{α:Type}{f:α->List Cl}{P:List Cl->Prop}(h:∀r,P r->∃x,r=f x):∀{rows:List (List Cl)},(∀r∈rows,P r)->∃l:List α,rows=l.map f
 |[],_=>⟨[],rfl⟩
 |r::rows,hr=>by
  obtain⟨x,rfl⟩:=h r (hr r (jr ..));obtain⟨l,rfl⟩:=ZoT h (fun q hq=>hr q (jD _ hq));exact⟨x::l,rfl⟩
abbrev ZpZ:Sh:=.st [zmN,zmN,zmN]
abbrev Zqs:Sh:=.st [zmN,.slice (.st [zmN,.slice ZpZ,.slice ZpZ]),.slice ZpZ,.slice ZpZ]
abbrev Zng:Sh:=.st [zmN,zmN,zmN,zmN,zmN,zmN,zmN,zmN,zmN,zmN,zmN,.bool]
theorem Zpm{r:List Cl}(h:zfo ZpZ r):∃a b c,r=[I a,I b,I c]:=by
 simp only[zfo,znD]at h;obtain⟨_,_,rfl,⟨a,rfl,_⟩,_,_,rfl,⟨b,rfl,_⟩,_,_,rfl,⟨c,rfl,_⟩,rfl⟩:=h;exact⟨a,b,c,rfl⟩
theorem Zqj{rows:List (List Cl)}(h:∀r∈rows,zfo Zqs r):∃l,rows=ZoM l:=ZoT (f:=inC) (P:=zfo Zqs) (fun r hr=>by
 unfold zfo at hr;simp only[znD]at hr;obtain⟨_,_,rfl,h1,_,_,rfl,h2,_,_,rfl,h3,_,_,rfl,h4,rfl⟩:=hr;simp only[zfo]at h1;obtain⟨t,rfl,_⟩:=h1;unfold zfo at h2 h3 h4;obtain⟨r2,rfl,_,h2⟩:=h2;obtain⟨r3,rfl,_,h3⟩:=h3;obtain⟨r4,rfl,_,h4⟩:=h4;obtain⟨sc,rfl⟩:=ZoT (f:=zX6) (fun r hr=>by
  unfold zfo at hr;simp only[znD]at hr;obtain⟨_,_,rfl,h1,_,_,rfl,h2,_,_,rfl,h3,rfl⟩:=hr;simp only[zfo]at h1;obtain⟨t,rfl,_⟩:=h1;unfold zfo at h2 h3;obtain⟨r2,rfl,_,h2⟩:=h2;obtain⟨r3,rfl,_,h3⟩:=h3;obtain⟨se,rfl⟩:=ZoT (f:=zWX) (fun r hr=>by obtain⟨a,b,c,rfl⟩:=Zpm hr;exact⟨⟨a,b,c⟩,rfl⟩) h2;obtain⟨pt,rfl⟩:=ZoT (f:=zYi) (fun r hr=>by obtain⟨a,b,c,rfl⟩:=Zpm hr;exact⟨⟨a,b,c⟩,rfl⟩) h3;exact⟨⟨t,se,pt⟩,rfl⟩) h2
 obtain⟨sp,rfl⟩:=ZoT (f:=ZjO) (fun r hr=>by obtain⟨a,b,c,rfl⟩:=Zpm hr;exact⟨⟨a,b,c⟩,rfl⟩) h3;obtain⟨fx,rfl⟩:=ZoT (f:=ZjO) (fun r hr=>by obtain⟨a,b,c,rfl⟩:=Zpm hr;exact⟨⟨a,b,c⟩,rfl⟩) h4;exact⟨⟨t,sc,sp,fx⟩,rfl⟩) h
theorem Zp0{r:List Cl}(h:zfo Zng r):∃n q dl bu si s sp ln ac br ra sg,r=stA n q dl bu si s sp ln ac br ra sg:=by
 simp only[zfo,znD]at h;obtain⟨_,_,rfl,⟨n1,rfl,_⟩,_,_,rfl,⟨n2,rfl,_⟩,_,_,rfl,⟨n3,rfl,_⟩,_,_,rfl,⟨n4,rfl,_⟩,_,_,rfl,⟨n5,rfl,_⟩,_,_,rfl,⟨n6,rfl,_⟩,_,_,rfl,⟨n7,rfl,_⟩,_,_,rfl,⟨n8,rfl,_⟩,_,_,rfl,⟨n9,rfl,_⟩,_,_,rfl,⟨n10,rfl,_⟩,_,_,rfl,⟨n11,rfl,_⟩,_,_,rfl,⟨b,rfl⟩,rfl⟩:=h;exact⟨n1,n2,n3,n4,n5,n6,n7,n8,n9,n10,n11,b,rfl⟩
end Go.TrRun
