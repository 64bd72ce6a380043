/- This text proves what functions of this seat's program answer, run by the evaluator; no condition. -/
import Derived.Test.YtjmaghejnagjeaaGreatKTx2
import Derived.KernelRfl
import Derived.WalkSmall
set_option maxHeartbeats 8000000
set_option linter.unusedVariables false
set_option linter.unusedSimpArgs false
set_option linter.unusedSectionVars false
set_option maxRecDepth 10000
namespace Go.TrRun
open Go Go.Eng
structure Pss where
 kO:Int
 part:Int
 lo:Int
 hi:Int
 deriving DecidableEq
def zKF(p:Pss):List Cl:=[I p.kO,I p.part,I p.lo,I p.hi]
def zKd(l:List Pss):List (List Cl):=l.map zKF
@[simp] theorem zLE(l:List Pss):(zKd l).length=l.length:=by simp[zKd]
@[simp] theorem zNO:zKd []=[]:=rfl
@[simp] theorem zPO(x:Pss)(l:List Pss):zKd (x::l)=zKF x::zKd l:=rfl
@[simp] theorem zMu(l k:List Pss):zKd (l++k)=zKd l++zKd k:=by simp[zKd]
@[simp] theorem zPM(l:List Pss):(zKd l).take l.length=zKd l:=jX (by simp)
@[simp] theorem zOV{l:List Pss}{i:Nat}(h:i<(zKd l).length):(zKd l)[i]=zKF (l[i]'(by simpa using h)):=by simp[zKd]
@[simp] theorem zNu(p:Pss):(zKF p).length=4:=rfl
@[simp] theorem zPN(l:List Pss):(∀x,x∈zKd l->x.length=4)<->True:=by simp[zKd]
def zI2(a b:Pss):Prop:=a.lo<b.lo\/(a.lo=b.lo/\a.kO<b.kO)
instance(a b:Pss):Decidable (zI2 a b):=by unfold zI2;infer_instance
def zN1(l:List Pss):Prop:=∀(i:Nat) (h:i+1<l.length),¬zI2 l[i+1] l[i]
def zLB(st:Int)(z:Nat)(x:Int):Nat->List Prt->List Pss
 |_,[]=>[]
 |k,p::r=>if p.lane=x then⟨z,k,st+p.lo,st+p.hi⟩::zLB st z x (k+1) r else zLB st z x (k+1) r
def zLA(st x:Int):Nat->List Zon->List Pss
 |_,[]=>[]
 |z,q::r=>zLB st z x 0 q.parts++zLA st x (z+1) r
def zKh(m:zD)(zs:List Zon):Int->List Int->List Pss
 |_,[]=>[]
 |a,x::r=>zLA a x 0 zs++zKh m zs (a+z8 m x) r
theorem zLR(st:Int)(z:Nat)(x:Int):∀(l:List Prt) (k:Nat),(zLB st z x k l).length<=l.length
 |[],k=>by simp[zLB]
 |p::l,k=>by
  have:=zLR st z x l (k+1);unfold zLB;split<;>simp<;>omega
def zM8(a b:Pss):Int:=if zgQ a.lo b.lo≠0 then zgQ a.lo b.lo else zgQ a.kO b.kO
theorem zO9(a b:Pss):zM8 a b<0<->zI2 a b:=by
 unfold zM8 zgQ zI2;by_cases h1:a.lo<b.lo
 ·simp[h1]
 ·by_cases h2:b.lo<a.lo
  ·have:¬a.lo=b.lo:=by omega
   simp[h1,h2,this]
  ·have e:a.lo=b.lo:=by omega
   by_cases h3:a.kO<b.kO
   ·simp[e,h3]
   ·by_cases h4:b.kO<a.kO
    ·simp[e,h3,h4]
    ·simp[e,h3,h4]
theorem zN5(a b:Pss):R L Cs zLe [.a (zKF a),.a (zKF b)] []=some (.w (W (zM8 a b)),[]):=by
 have h1:=zp1 a.lo b.lo;have h2:=zsr a.kO b.kO;have h3:=zA0 (zgQ a.lo b.lo) (zgQ a.kO b.kO);unfold zM8;generalize zgQ a.lo b.lo=c1 at *;generalize zgQ a.kO b.kO=c2 at *;generalize (if c1≠0 then c1 else c2)=r at *;simp only[zaP,zay]at h3;rw[zUa zL9 rfl];simp[zIu,zKF,h1,h2,h3,zg,zX]
abbrev Az(v:Nat)(l:List Pss):Option Blk:=some { box:=false,esz:=4,rows:=zKd l,gen:=l.length,fz:=false,ver:=v }
abbrev pfn:WV:=.c (.fn zLe [] [])
theorem zNT(l:List Pss)(hs:zN1 l)(hl:l.length<=19)(i:Nat)(h0:0<i)(hi:i<l.length)(v:Nat):Y L Cs zTg (some [9,3,1,2,8,0]) 1 [(9,.w (W i)),(3,.w pfn),(1,.w (W 0)),(2,.w (W l.length)),(8,.w (W i)),(0,.w (.c (.slice 0 l.length 4 0 l.length none)))] [Az v l] =
  some (.exit 2,[(34,.w (Bo false)),(9,.w (W i)),(3,.w pfn),(1,.w (W 0)),(2,.w (W l.length)),(8,.w (W i)),(0,.w (.c (.slice 0 l.length 4 0 l.length none)))],[Az v l]):=by
 obtain⟨j,rfl⟩:∃j,i=j+1:=⟨i-1,by omega⟩;have h2:j<l.length:=by omega
 have hc:=zN5 l[j+1] l[j];have hn:¬zM8 l[j+1] l[j]<0:=fun h=>hs j hi ((zO9 _ _).1 h)
 have hw:IntKind.i64.wrap ((j:Int)+1-1)=(j:Int):=by rw[zTd _ (by omega) (by omega)];omega
 have hg:(0:Int)<(j:Int)+1:=by omega
 have hwj:IntKind.i64.wrap (j:Int)=(j:Int):=zTd _ (by omega) (by omega);have a4:(j:Int)<(l.length:Int):=by omega
 have a1:(0:Int)<=(j:Int)+1:=by omega
 have a2:(j:Int)+1<(l.length:Int):=by omega
 have a3:((j:Int)+1).toNat=j+1:=by omega
 generalize zM8 l[j+1] l[j]=c at *;simp only[zKF]at hc;rw[zj zTg.eq_1];simp[hg,hc,hn,hw,hwj,hi,h2,a1,a2,a3,a4,zKF]
theorem zNS(l:List Pss)(hs:zN1 l)(hl:l.length<=19)(v:Nat):∀(n i:Nat),i+n=l.length\/(n=0/\l.length<=i)->0<i->∃i',Y L Cs zTf (some [2,1,3,8,0]) 1 [(2,.w (W l.length)),(1,.w (W 0)),(3,.w pfn),(8,.w (W i)),(0,.w (.c (.slice 0 l.length 4 0 l.length none)))] [Az v l] =
  some (.exit 0,[(14,.w (Bo false)),(3,.w pfn),(1,.w (W 0)),(2,.w (W l.length)),(8,.w (W i')),(0,.w (.c (.slice 0 l.length 4 0 l.length none)))],[Az v l]):=by
 intro n;induction n with
 |zero =>
  intro i hi h0;have hc:¬(i:Int)<l.length:=by omega
  have hc':¬i<l.length:=by omega
  refine⟨i,?_⟩;rw[zj zTf.eq_1];simp[hc,hc']
 |succ n ih =>
  intro i hi h0;have hil:i<l.length:=by omega
  have hc:(i:Int)<l.length:=by omega
  have hw:=zB (i:=i) (by omega);have hin:=zNT l hs hl i h0 hil v;obtain⟨i',h⟩:=ih (i+1) (by omega) (by omega);refine⟨i',?_⟩;rw[<-h,zj zTf.eq_1];simp[hc,hil,hw,hin]
theorem zOK(l:List Pss)(hs:zN1 l)(hl:l.length<=19)(v:Nat):R L Cs zKK [.c (.slice 0 l.length 4 0 l.length none),pfn] [Az v l]=some (.t [],[Az v l]):=by
 obtain⟨i',h⟩:=zNS l hs hl v (l.length-1) 1 (by omega) (by omega);have h1:¬(20:Int)<=(l.length:Int):=by omega
 have h2:¬(20:Int)<(l.length:Int):=by omega
 have h3:¬20<=l.length:=by omega
 have h4:¬20<l.length:=by omega
 have hw:IntKind.i64.wrap 1=1:=rfl;simp only[j8]at h;have hI:R L Cs zKz [.c (.slice 0 l.length 4 0 l.length none),W 0,W l.length,pfn] [Az v l]=some (.t [],[Az v l]):=by
  rw[zUa zKA rfl];simp[zTh,hw,h]
 have hS:R L Cs zKP [.c (.slice 0 l.length 4 0 l.length none),W l.length,pfn] [Az v l]=some (.t [],[Az v l]):=by
  have e1:∀E M,Y L Cs zHj (some [7,8,1,0,2,6]) 1 [(7,.w (W 0)),(8,.w (W 20)),(1,.w (W l.length)),(0,E),(2,.w pfn),(6,.w (W 20))] M=some (.exit 0,[(13,.w (Bo false)),(7,.w (W 0)),(8,.w (W 20)),(1,.w (W l.length)),(0,E),(2,.w pfn),(6,.w (W 20))],M):=by
   intro E M;rw[zj zHj.eq_1];simp[h1,h3]
  have e2:∀E M,Y L Cs zHh (some [1,0,2,6]) 1 [(1,.w (W l.length)),(0,E),(2,.w pfn),(6,.w (W 20))] M=some (.exit 2,[(30,.w (Bo false)),(1,.w (W l.length)),(0,E),(2,.w pfn),(6,.w (W 20))],M):=by
   intro E M;rw[zj zHh.eq_1];simp[h2,h4]
  rw[zUa zKS rfl];simp[zHo,e1,e2,hI]
 rw[zUa zKL rfl];simp[zHn,hS]
abbrev paM(m:zD)(l:List Int)(o:List Pss):Mem:=[bx 5 (zf m),gb 4,bxv 1 8 (zlf m l (.jc (zu (zW m 0 l))) (zmd m 0 l)),some (own 4 (zKd o))]
abbrev paS(o:List Pss):WV:=.c (.slice 3 o.length 4 0 o.length none)
abbrev zO1(l:List Int)(zl:List (List Cl))(nz i z:Nat)(x:Int)(ps:List Prt)(k:Nat)(o:List Pss):Env:=[(6,.w (paS o)),(35,.w (W k)),(34,.w (W ps.length)),(25,.w (.c (.jc zl))),(19,.w (W i)),(18,.w (W l.length)),(17,.w (.c (.jc (zu l)))),(2,.w (Pt 0)),(26,.w (W nz)),(27,.w (W z)),(33,.w (.c (.jc (zkl ps)))),(8,.w (W x)),(9,.w (W z)),(5,.w (Pt 2)),(7,.w (W i))]
structure zOj(p:Prt):Prop where
 lo:0<=p.lo/\p.lo<=1000000
 hi:0<=p.hi/\p.hi<=1000000
theorem zO0(m:zD)(l:List Int)(i:Nat)(st:Int)(his:i<(zW m 0 l).length)(hst:(zW m 0 l)[i]=st)(hsb:0<=st/\st<=100000000)(x:Int)(q:Zon)(hq:q.parts.length<=6)(hpo:∀p∈q.parts,zOj p)(zl:List (List Cl))(nz z:Nat):∀(t:List Prt) (k:Nat) (o:List Pss),q.parts.drop k=t->k<=q.parts.length->o.length<=1000+k ->
  Y L Cs zIj (some [6,35,34,25,19,18,17,2,26,27,33,8,9,5,7]) 5 (zO1 l zl nz i z x q.parts k o) (paM m l o++[bxv 1 2 (zdP q)]) =
    some (.exit 4,(36,.w (Bo false))::zO1 l zl nz i z x q.parts q.parts.length (o++zLB st z x k t),paM m l (o++zLB st z x k t)++[bxv 1 2 (zdP q)]):=by
 intro t;induction t with
 |nil =>
  intro k o hd hk ho;obtain rfl:=zUb hd hk;rw[zj zIj.eq_1];simp[zLB]
 |cons p t ih =>
  intro k o hd hk ho;obtain⟨hkl,hp,hd'⟩:=zL hd;have hw:=zB (i:=k) (by omega);have hok:=hpo p (by rw[<-hp];exact jf hkl);have w1:IntKind.i64.wrap (st+p.lo)=st+p.lo:=zTd _ (by have:=hok.lo;omega) (by have:=hok.lo;omega);have w2:IntKind.i64.wrap (st+p.hi)=st+p.hi:=zTd _ (by have:=hok.hi;omega) (by have:=hok.hi;omega);have jW:(o.length+1)*32<=140737488355328:=by omega
  unfold zLB;by_cases c:p.lane=x
  ·have cb:(p.lane==x)=true:=by simp[c]
   rw[if_pos c];have h:=ih (k+1) (o++[⟨z,k,st+p.lo,st+p.hi⟩]) hd' hkl (by simp;omega);have e1:o++⟨z,k,st+p.lo,st+p.hi⟩::zLB st z x (k+1) t=(o++[⟨z,k,st+p.lo,st+p.hi⟩])++zLB st z x (k+1) t:=by simp
   rw[e1,<-h,zj zIj.eq_1];clear h ih e1;simp[zO1,paS,paM,own,zlf,zdP,zeB,zKF,hkl,hp,hw,his,hst,w1,w2,c,cb,jW,zg,zf,zH]
  ·have cb:(p.lane==x)=false:=by simp[c]
   rw[if_neg c];have h:=ih (k+1) o hd' hkl (by omega);rw[<-h,zj zIj.eq_1];clear h ih;simp[zO1,paS,paM,own,zlf,zdP,zeB,zKF,hkl,hp,hw,c,cb,zg,zf,zH]
abbrev zPZ(l:List Int)(zs:List Zon)(i z:Nat)(x:Int)(o:List Pss):Env:=[(6,.w (paS o)),(26,.w (W zs.length)),(2,.w (Pt 0)),(17,.w (.c (.jc (zu l)))),(18,.w (W l.length)),(19,.w (W i)),(25,.w (.c (.jc (zk8 zs)))),(27,.w (W z)),(8,.w (W x)),(5,.w (Pt 2)),(7,.w (W i))]
abbrev zQe(l:List Int)(zs:List Zon)(i:Nat)(x:Int)(o:List Pss):Env:=[(28,.w (Bo false)),(6,.w (paS o)),(25,.w (.c (.jc (zk8 zs)))),(19,.w (W i)),(18,.w (W l.length)),(17,.w (.c (.jc (zu l)))),(2,.w (Pt 0)),(26,.w (W zs.length)),(27,.w (W zs.length)),(8,.w (W x)),(5,.w (Pt 2)),(7,.w (W i))]
theorem zNv(st x:Int):∀(l:List Zon) (z:Nat),(∀q∈l,q.parts.length<=6)->(zLA st x z l).length<=6*l.length
 |[],z,_=>by simp[zLA]
 |q::l,z,h=>by
  have h1:=zNv st x l (z+1) fun y hy=>h y (jr _ hy)
  have h2:=zLR st z x q.parts 0;have h3:=h q (jp ..);unfold zLA;simp;omega
theorem zOZ(m:zD)(l:List Int)(i:Nat)(st:Int)(his:i<(zW m 0 l).length)(hst:(zW m 0 l)[i]=st)(hsb:0<=st/\st<=100000000)(x:Int)(zs:List Zon)(hz:zs.length<=12)(hq:∀q∈zs,q.parts.length<=6)(hpo:∀q∈zs,∀p∈q.parts,zOj p):∀(t:List Zon) (z:Nat) (o:List Pss),zs.drop z=t->z<=zs.length->o.length<=900+6*z ->
  Y L Cs zIi (some [6,26,2,17,18,19,25,27,8,5,7]) 4 (zPZ l zs i z x o) (paM m l o)=some (.exit 2,zQe l zs i x (o++zLA st x z t),paM m l (o++zLA st x z t)):=by
 intro t;induction t with
 |nil =>
  intro z o hd hk ho;obtain rfl:=zUb hd hk;rw[zj zIi.eq_1];simp[zLA]
 |cons q t ih =>
  intro z o hd hk ho;obtain⟨hkl,hp,hd'⟩:=zL hd;have hw:=zB (i:=z) (by omega);have hqm:q∈zs:=by rw[<-hp];exact jf hkl
  have hp6:=hq q hqm;have hpl:=zLR st z x q.parts 0;have h1:=zO0 m l i st his hst hsb x q hp6 (hpo q hqm) (zk8 zs) zs.length z q.parts 0 o rfl (jA _) (by omega);have h:=ih (z+1) (o++zLB st z x 0 q.parts) hd' hkl (by simp;omega);unfold zLA;rw[<-jE,<-h,zj zIi.eq_1];clear h ih;generalize zLB st z x 0 q.parts=pp at *;simp only[zO1,paS,paM,own,zlf,zdP,zf,zLE,zMu,ju,ji,jk,jg]at h1;simp[zPZ,paS,paM,own,zlf,zdP,hkl,hp,hw,h1,zg,zf,zH]
abbrev zPY(l:List Int)(i:Nat)(o:List Pss):Env:=[(6,.w (paS o)),(18,.w (W l.length)),(17,.w (.c (.jc (zu l)))),(2,.w (Pt 0)),(19,.w (W i)),(5,.w (Pt 2))]
abbrev zQd(l:List Int)(o:List Pss):Env:=[(20,.w (Bo false)),(6,.w (paS o)),(2,.w (Pt 0)),(17,.w (.c (.jc (zu l)))),(18,.w (W l.length)),(19,.w (W l.length)),(5,.w (Pt 2))]
theorem zOY{m:zD}(h:zcp m)(l:List Int)(hl:l.length<=8)(hon:zj2 m l)(zs:List Zon)(hzz:m.qZ=zk8 zs)(hz:zs.length<=12)(hq:∀q∈zs,q.parts.length<=6)(hpo:∀q∈zs,∀p∈q.parts,zOj p):∀(t:List Int) (i:Nat) (a:Int) (o:List Pss),l.drop i=t->i<=l.length->(zW m 0 l).drop i=zW m a t->0<=a->a<=i*1000000->o.length<=100*i ->
  Y L Cs zIh (some [6,18,17,2,19,5]) 4 (zPY l i o) (paM m l o)=some (.exit 0,zQd l (o++zKh m zs a t),paM m l (o++zKh m zs a t)):=by
 intro t;induction t with
 |nil =>
  intro i a o hd hk hs h0 h1 ho;obtain rfl:=zUb hd hk;rw[zj zIh.eq_1];simp[zKh]
 |cons x t ih =>
  intro i a o hd hk hs h0 h1 ho;obtain⟨hkl,hp,hd'⟩:=zL hd;have hw:=zB (i:=i) (by omega);have hx:=hon x (by rw[<-hp];exact jf hkl);have hle:=zcX h hx;have hsl:i<(zW m 0 l).length:=by rw[zcO];exact hkl
  have hsd:=kC hsl;rw[hs,zW]at hsd;simp only[List.cons.injEq]at hsd;have hzl:=zNv a x zs 0 hq;have g:=zOZ m l i a hsl hsd.1.symm ⟨h0,by omega⟩ x zs hz hq hpo zs 0 o rfl (jA _) (by omega);have hh:=ih (i+1) (a+z8 m x) (o++zLA a x 0 zs) hd' hkl hsd.2.symm (by omega) (by omega) (by simp;omega);unfold zKh;rw[<-jE,<-hh,zj zIh.eq_1];clear hh ih;generalize zLA a x 0 zs=pp at *;simp only[zPZ,zQe,paS,paM,own,zlf,zf,hzz,zLE,zMu,ju,ji]at g;simp[zPY,paS,paM,own,zlf,hkl,hp,hw,g,zg,zf,zH,hzz]
theorem zO7{m:zD}{zs:List Zon}{ss:List Sgn}(hf:zmq m zs ss):∀q∈zs,∀p∈q.parts,zOj p:=by
 intro q hq p hp;obtain⟨a0,a1,a2,a3,_⟩:=hf.pv q hq p hp;have:=zcX hf.qW a0;exact⟨by omega,by omega⟩
theorem zPm{m:zD}{zs:List Zon}{ss:List Sgn}(hf:zmq m zs ss){l:List Int}(hr:zdA m l=0)(hs:zN1 (zKh m zs 0 l))(hn:(zKh m zs 0 l).length<=19) :
  R L Cs zMC [.a (zf m),.c (.jc (zu l))] []=some (.w (.c (.jc (zKd (zKh m zs 0 l)))),[]):=by
 have h:=hf.qW;obtain⟨hon,hne,hl8⟩:=zg1 h hr;have hF:=zvR h hr;have g:=zOY h l hl8 hon zs hf.zd.z hf.zd.few hf.zd.pfew (zO7 hf) l 0 0 [] rfl (jA _) rfl (jJ _) (by omega) (by simp);have hS:=zOK (zKh m zs 0 l) hs hn (zKh m zs 0 l).length;rw[jg]at g;generalize zKh m zs 0 l=o at *;simp only[zPY,zQd,paS,paM,own,zlf,zf,zLE,zNO,jw,ji,Az]at g hF hS;rw[zUa zMO rfl];simp[zIL,zf,hF,g,hS,zg,zX]
set_option maxRecDepth 100000
open Go Go.Eng
def isE:Option (AV×Mem)->Bool
 |some (.w (.c (.jc [])),[])=>true
 |_=>false
theorem zLU:∀{x:Option (AV×Mem)},isE x=true->x=some (.w (.c (.jc [])),[])
 |some (.w (.c (.jc [])),[]),_=>rfl
 |none,h=>by cases h
 |some (.u,_),h=>by cases h
 |some (.t _,_),h=>by cases h
 |some (.w (.a _),_),h=>by cases h
 |some (.w (.c (.jc (_::_))),_),h=>by cases h
 |some (.w (.c (.jc [])),_::_),h=>by cases h
 |some (.w (.c (.bool _)),_),h=>by cases h
 |some (.w (.c (.int _ _)),_),h=>by cases h
 |some (.w (.c (.str _)),_),h=>by cases h
 |some (.w (.c (.ptr ..)),_),h=>by cases h
 |some (.w (.c (.ul ..)),_),h=>by cases h
 |some (.w (.c .qs),_),h=>by cases h
 |some (.w (.c (.slice ..)),_),h=>by cases h
 |some (.w (.c .jd),_),h=>by cases h
 |some (.w (.c (.fn ..)),_),h=>by cases h
 |some (.w (.c .uG),_),h=>by cases h
 |some (.w (.c (.iface ..)),_),h=>by cases h
 |some (.w (.c .kZ),_),h=>by cases h
 |some (.w (.c (.yld ..)),_),h=>by cases h
def zLW(m:zD):Bool:=isE (zaH L Cs 400 zMz [.a (zf m)] [])&&isE (zaH L Cs 400 zMB [.a (zf m)] [])&&isE (zaH L Cs 400 zMW [.a (zf m)] [])&&isE (zaH L Cs 400 zMA [.a (zf m)] [])
def zMm(m:zD):Bool:=isE (zaH L Cs 400 zQ2 [.a (zf m)] [])&&isE (zaH L Cs 400 zQ3 [.a (zf m)] [])&&isE (zaH L Cs 400 zQK [.a (zf m),W 3] [])&&isE (zaH L Cs 400 zQK [.a (zf m),W 4] [])
theorem zQo(lim r o1 o2 o3 v:Int)(ws:List zCP):zLW (zq 0 lim r o1 o2 o3 v ws)=true:=by kernel_rfl
theorem zQk(lim r o1 o2 o3 v:Int)(ws:List zCP):zMm (zq 0 lim r o1 o2 o3 v ws)=true:=by kernel_rfl
theorem zQn(lim r o1 o2 o3 v:Int)(ws:List zCP):zLW (zq 3 lim r o1 o2 o3 v ws)=true:=by kernel_rfl
theorem zQj(lim r o1 o2 o3 v:Int)(ws:List zCP):zMm (zq 3 lim r o1 o2 o3 v ws)=true:=by kernel_rfl
theorem zQm(lim r o1 o2 o3 v:Int)(ws:List zCP):zLW (zq 4 lim r o1 o2 o3 v ws)=true:=by kernel_rfl
theorem zQi(lim r o1 o2 o3 v:Int)(ws:List zCP):zMm (zq 4 lim r o1 o2 o3 v ws)=true:=by kernel_rfl
theorem zQl(lim r o1 o2 o3 v:Int)(ws:List zCP):zLW (zq 5 lim r o1 o2 o3 v ws)=true:=by kernel_rfl
theorem zQh(lim r o1 o2 o3 v:Int)(ws:List zCP):zMm (zq 5 lim r o1 o2 o3 v ws)=true:=by kernel_rfl
theorem zPF(lim o1 o2 o3 v:Int)(ws:List zCP):zLW (zq 1 lim 0 o1 o2 o3 v ws)=true:=by kernel_rfl
theorem zPz(lim o1 o2 o3 v:Int)(ws:List zCP):zMm (zq 1 lim 0 o1 o2 o3 v ws)=true:=by kernel_rfl
theorem zPE(lim o1 o2 o3 v:Int)(ws:List zCP):zLW (zq 1 lim 1 o1 o2 o3 v ws)=true:=by kernel_rfl
theorem zPy(lim o1 o2 o3 v:Int)(ws:List zCP):zMm (zq 1 lim 1 o1 o2 o3 v ws)=true:=by kernel_rfl
theorem zPD(lim o1 o2 o3 v:Int)(ws:List zCP):zLW (zq 2 lim 0 o1 o2 o3 v ws)=true:=by kernel_rfl
theorem zPx(lim o1 o2 o3 v:Int)(ws:List zCP):zMm (zq 2 lim 0 o1 o2 o3 v ws)=true:=by kernel_rfl
theorem zPC(lim o1 o2 o3 v:Int)(ws:List zCP):zLW (zq 2 lim 1 o1 o2 o3 v ws)=true:=by kernel_rfl
theorem zPw(lim o1 o2 o3 v:Int)(ws:List zCP):zMm (zq 2 lim 1 o1 o2 o3 v ws)=true:=by kernel_rfl
theorem zPB(lim o1 o2 o3 v:Int)(ws:List zCP):zLW (zq 6 lim 0 o1 o2 o3 v ws)=true:=by kernel_rfl
theorem zPv(lim o1 o2 o3 v:Int)(ws:List zCP):zMm (zq 6 lim 0 o1 o2 o3 v ws)=true:=by kernel_rfl
theorem zPA(lim o1 o2 o3 v:Int)(ws:List zCP):zLW (zq 6 lim 1 o1 o2 o3 v ws)=true:=by kernel_rfl
theorem zPu(lim o1 o2 o3 v:Int)(ws:List zCP):zMm (zq 6 lim 1 o1 o2 o3 v ws)=true:=by kernel_rfl
theorem zQg(k:Nat)(hk:k<7)(lim r o1 o2 o3 v:Int)(ws:List zCP)(hr:r=0\/r=1):zLW (zq k lim r o1 o2 o3 v ws)=true/\zMm (zq k lim r o1 o2 o3 v ws)=true:=by
 match k,hk with
 |0,_=>exact⟨zQo ..,zQk ..⟩
 |1,_=>rcases hr with rfl |rfl;exact⟨zPF ..,zPz ..⟩;exact⟨zPE ..,zPy ..⟩
 |2,_=>rcases hr with rfl |rfl;exact⟨zPD ..,zPx ..⟩;exact⟨zPC ..,zPw ..⟩
 |3,_=>exact⟨zQn ..,zQj ..⟩
 |4,_=>exact⟨zQm ..,zQi ..⟩
 |5,_=>exact⟨zQl ..,zQh ..⟩
 |6,_=>rcases hr with rfl |rfl;exact⟨zPB ..,zPv ..⟩;exact⟨zPA ..,zPu ..⟩
theorem zQC{m:zD}(h:zcp m)(hf:zLW m=true):R L Cs zNA [.a (zf m)] []=some (.w (Bo true),[]):=by
 unfold zLW at hf;simp only[jh]at hf;obtain⟨⟨⟨a1,a2⟩,a3⟩,a4⟩:=hf;have h1:=zah.2 ⟨400,zLU a1⟩;have h2:=zah.2 ⟨400,zLU a2⟩;have h3:=zah.2 ⟨400,zLU a3⟩;have h4:=zah.2 ⟨400,zLU a4⟩;have h0:=h.chk;have w0:IntKind.i64.wrap 0=0:=rfl;simp only[zf]at h0 h1 h2 h3 h4;rw[zUa zNI rfl];simp[zIV,zf,h0,h1,h2,h3,h4,w0,zg]
structure zKj(m:zD)(zs:List Zon)(ss:List Sgn):Prop where
 full:zmq m zs ss
 pos:0<m.jb.length
 kx:m.kx.length<=1000
 two:zs.length<=2
 fit:zLW m=true/\zMm m=true
 srt:∀l,zdA m l=0->zN1 (zKh m zs 0 l)
 few:∀l,zdA m l=0->(zKh m zs 0 l).length<=19
theorem zOu{m:zD}{zs:List Zon}{ss:List Sgn}(hf:zmq m zs ss)(hz:zs.length<=2)(hn:∀q∈zs,q.parts.length<=4){l:List Int}(hr:zdA m l=0):(zKh m zs 0 l).length<=16:=by
 have hl:=zlP hf.yQ hr;have key:∀(t:List Zon) (a x:Int) (z:Nat),(∀q∈t,q.parts.length<=4)->(zLA a x z t).length<=4*t.length:=by
  intro t;induction t with
  |nil=>intro a x z _;simp[zLA]
  |cons q t ih =>
   intro a x z h;have h1:=ih a x (z+1) fun y hy=>h y (jr _ hy)
   have h2:=zLR a z x q.parts 0;have h3:=h q (jp ..);unfold zLA;simp;omega
 have k2:∀(t:List Int) (a:Int),(zKh m zs a t).length<=8*t.length:=by
  intro t;induction t with
  |nil=>intro a;simp[zKh]
  |cons x t ih =>
   intro a;have h1:=ih (a+z8 m x);have h2:=key zs a x 0 hn;unfold zKh;simp;omega
 have:=k2 l 0;omega
def zOT:List Pss->Bool
 |a::b::r=>!decide (zI2 b a)&&zOT (b::r)
 |_=>true
theorem zMq:∀{l:List Pss},zOT l=true->zN1 l
 |[],_=>fun i h=>by simp at h
 |[_],_=>fun i h=>by simp at h
 |a::b::r,h=>by
  simp only[zOT,jh,kE,decide_eq_false_iff_not]at h;intro i hi;cases i with
  |zero=>exact h.1
  |succ i=>exact zMq h.2 i (by simpa using hi)
def zTx(m:zD)(C:List Int->Bool):Bool:=(List.range 4).all fun x=>C [(x:Int)]&&(zS m x).all fun y=>C [(x:Int),y]
theorem zQa(k:Nat)(hk:k<7)(lim r o1 o2 o3 v:Int)(ws:List zCP):zTx (zq k lim r o1 o2 o3 v ws) (fun l=>zOT (zKh (zq k lim r o1 o2 o3 v ws) (zsP k r) 0 l))=true:=match k,hk with
 |0,_=>by kernel_rfl
 |1,_=>by kernel_rfl
 |2,_=>by kernel_rfl
 |3,_=>by kernel_rfl
 |4,_=>by kernel_rfl
 |5,_=>by kernel_rfl
 |6,_=>by kernel_rfl
theorem zTp{m:zD}(hs:zmX m){C:List Int->Bool}(qB:zTx m C=true){l:List Int}(hr:zdA m l=0):C l=true:=by
 have hl:=zlP hs hr;have few:=hs.few;have qB:=jz.1 qB
 match l,hl,hr with
 |[],_,hr=>cases hr
 |[x],_,hr =>
  simp only[zdA]at hr;split at hr
  ·cases hr
  split at hr
  ·cases hr
  split at hr
  ·cases hr
  rename_i h2 h3;obtain⟨n,rfl⟩:=jv (show 0<=x by omega);have:=qB n (uv.2 (by omega));rw[jh]at this;exact this.1
 |[x,y],_,hr =>
  simp only[zdA]at hr;split at hr
  ·cases hr
  split at hr
  ·cases hr
  split at hr
  ·cases hr
  rename_i h2 h3;split at hr
  ·cases hr
  split at hr
  ·rename_i hg;obtain⟨n,rfl⟩:=jv (show 0<=x by omega);have:=qB n (uv.2 (by omega));rw[jh]at this;simp only[goF,jh,decide_eq_true_eq]at hg;exact jz.1 this.2 y hg.1
  ·cases hr
theorem zOQ(k:Nat)(hk:k<7)(r:Int):(zsP k r).length<=2/\∀q∈zsP k r,q.parts.length<=4:=by
 match k,hk with
 |0,_ |1,_ |2,_ |3,_ |4,_ |5,_ |6,_=>simp[zsP]
theorem zTs(k:Nat)(hk:k<7){lim r o1 o2 o3 v:Int}{ws:List zCP}(nu:zp2 k lim r o1 o2 o3 v ws):zKj (zq k lim r o1 o2 o3 v ws) (zsP k r) (ssP k r o1 o2 o3):=by
 have hf:=zCE k hk nu;obtain⟨z1,z2⟩:=zOQ k hk r;refine⟨hf,zE9 k hk _ _ _ _ _ _ _,?_,z1,zQg k hk lim r o1 o2 o3 v ws nu.r,fun l hr=>zMq (zTp hf.yQ (zQa k hk lim r o1 o2 o3 v ws) hr),fun l hr=>?_⟩
 ·have:=nu.wl;show ws.length<=1000;omega
 ·have:=zOu hf z1 z2 hr;omega
set_option maxRecDepth 10000
open Go Go.Eng
structure Vis where
 kO:Int
 entry:Int
 first:Pss
 last:Pss
abbrev zKw:Pss:=⟨0,0,0,0⟩
def zJ1(v:Vis):List Cl:=[I v.kO,I v.entry,I v.first.kO,I v.first.part,I v.first.lo,I v.first.hi,I v.last.kO,I v.last.part,I v.last.lo,I v.last.hi]
def zKt(l:List Vis):List (List Cl):=l.map zJ1
@[simp] theorem zJZ(l:List Vis):(zKt l).length=l.length:=by simp[zKt]
@[simp] theorem zP7:zKt []=[]:=rfl
@[simp] theorem zPS(x:Vis)(l:List Vis):zKt (x::l)=zJ1 x::zKt l:=rfl
@[simp] theorem zP8(l k:List Vis):zKt (l++k)=zKt l++zKt k:=by simp[zKt]
@[simp] theorem zPR(l:List Vis):(zKt l).take l.length=zKt l:=jX (by simp)
@[simp] theorem zPo{l:List Vis}{i:Nat}(h:i<(zKt l).length):(zKt l)[i]=zJ1 (l[i]'(by simpa using h)):=by simp[zKt]
@[simp] theorem zNp(v:Vis):(zJ1 v).length=10:=rfl
def zJ5(z:Int)(v:Vis)(p:Pss):Vis:=if p.kO=z then(if v.entry<0 then⟨v.kO,p.part,p,p⟩ else⟨v.kO,v.entry,v.first,p⟩) else v
def zKn(ps:List Pss)(z:Int):Vis:=ps.foldl (zJ5 z) ⟨z,-1,zKw,zKw⟩
def zKE(ps:List Pss):Nat->Nat->List Vis
 |_,0=>[]
 |z,n+1=>if 0<=(zKn ps z).entry then zKn ps z::zKE ps (z+1) n else zKE ps (z+1) n
abbrev jC(m:zD)(r:List Int)(len:Int)(ps:List Pss)(VS:Cl)(was now:List Cl)(SW:Cl):List Cl:=zh m r len++[.jc (zKd ps),VS]++was++now++[SW]
abbrev njE(ps:List Pss)(nz z:Nat)(id:Nat)(i:Nat):Env:=[(34,.w (W i)),(33,.w (W ps.length)),(7,.w (Pt 1)),(23,.w (W nz)),(24,.w (W z)),(32,.w (.c (.jc (zKd ps)))),(8,.w (W z)),(9,.w (Pt id))]
abbrev njM(m:zD)(r:List Int)(len:Int)(ps:List Pss)(u:Nat)(VS:Cl):Mem:=[bx 5 (zf m),bxv u 26 (jC m r len ps VS zox zox .jd)]
theorem nj1(m:zD)(r:List Int)(len:Int)(ps:List Pss)(hp:ps.length<=1000)(nz z:Nat):∀(t:List Pss) (i:Nat) (v:Vis) (w:Nat),ps.drop i=t->i<=ps.length->∃w',w<=w' /\
  Y L Cs zH8 (some [34,33,7,23,24,32,8,9]) 3 (njE ps nz z 2 i) (njM m r len ps 0 .jd++[bxv w 10 (zJ1 v)]) =
    some (.exit 2,(35,.w (Bo false))::njE ps nz z 2 ps.length,njM m r len ps 0 .jd++[bxv w' 10 (zJ1 (t.foldl (zJ5 z) v))]):=by
 intro t;induction t with
 |nil =>
  intro i v w hd hi;obtain rfl:=zUb hd hi;refine⟨w,jl _,?_⟩;rw[zj zH8.eq_1];simp
 |cons p t ih =>
  intro i v w hd hi;obtain⟨hil,hx,hd'⟩:=zL hd;have hw:=zB (i:=i) (by omega);rw[jN];by_cases c:p.kO=z
  ·have cb:(p.kO !=(z:Int))=false:=by simp[c]
   by_cases d:v.entry<0
   ·have e:zJ5 z v p=⟨v.kO,p.part,p,p⟩:=by simp[zJ5,c,d]
    obtain⟨w',h1,h⟩:=ih (i+1) ⟨v.kO,p.part,p,p⟩ (w+3) hd' hil;refine⟨w',by omega,?_⟩;rw[e,<-h,zj zH8.eq_1];clear h ih;simp[njE,njM,jC,zox,zh,zi,zf,zJ1,zKF,hil,hx,hw,c,cb,d,zg,zH]
   ·have e:zJ5 z v p=⟨v.kO,v.entry,v.first,p⟩:=by simp[zJ5,c,d]
    obtain⟨w',h1,h⟩:=ih (i+1) ⟨v.kO,v.entry,v.first,p⟩ (w+1) hd' hil;refine⟨w',by omega,?_⟩;rw[e,<-h,zj zH8.eq_1];clear h ih;simp[njE,njM,jC,zox,zh,zi,zf,zJ1,zKF,hil,hx,hw,c,cb,d,zg,zH]
  ·have cb:(p.kO !=(z:Int))=true:=by simp[c]
   have e:zJ5 z v p=v:=by simp[zJ5,c]
   obtain⟨w',h1,h⟩:=ih (i+1) v w hd' hil;refine⟨w',by omega,?_⟩;rw[e,<-h,zj zH8.eq_1];clear h ih;simp[njE,njM,jC,zox,zh,zi,zf,zJ1,zKF,hil,hx,hw,c,cb,zg,zH]
abbrev zLG(v:Vis):Option Blk:=some { box:=false,esz:=10,rows:=[zJ1 v],gen:=1,fz:=false,ver:=1 }
abbrev zKV(m:zD)(r:List Int)(len:Int)(ps:List Pss)(v0:Vis)(w0:Nat):Mem:=[bx 5 (zf m),bxv 1 26 (jC m r len ps (.slice 4 1 10 0 1 none) zox zox .jd),bxv w0 10 (zJ1 v0),zLG v0,some (own 10 [zJ1 v0])]
abbrev zMw(m:zD)(r:List Int)(len:Int)(ps:List Pss)(v0 v1:Vis)(w0 w1:Nat):Mem:=[bx 5 (zf m),bxv 2 26 (jC m r len ps (.slice 4 2 10 0 2 none) zox zox .jd),bxv w0 10 (zJ1 v0),zLG v0,some (own 10 [zJ1 v0,zJ1 v1]),bxv w1 10 (zJ1 v1),zLG v1]
theorem nj1b(m:zD)(r:List Int)(len:Int)(v0:Vis)(w0:Nat)(ps:List Pss)(hp:ps.length<=1000)(nz z:Nat):∀(t:List Pss) (i:Nat) (v:Vis) (w:Nat),ps.drop i=t->i<=ps.length->∃w',w<=w' /\
  Y L Cs zH8 (some [34,33,7,23,24,32,8,9]) 6 (njE ps nz z 5 i) (zKV m r len ps v0 w0++[bxv w 10 (zJ1 v)]) =
    some (.exit 2,(35,.w (Bo false))::njE ps nz z 5 ps.length,zKV m r len ps v0 w0++[bxv w' 10 (zJ1 (t.foldl (zJ5 z) v))]):=by
 intro t;induction t with
 |nil =>
  intro i v w hd hi;obtain rfl:=zUb hd hi;refine⟨w,jl _,?_⟩;rw[zj zH8.eq_1];simp
 |cons p t ih =>
  intro i v w hd hi;obtain⟨hil,hx,hd'⟩:=zL hd;have hw:=zB (i:=i) (by omega);rw[jN];by_cases c:p.kO=z
  ·have cb:(p.kO !=(z:Int))=false:=by simp[c]
   by_cases d:v.entry<0
   ·have e:zJ5 z v p=⟨v.kO,p.part,p,p⟩:=by simp[zJ5,c,d]
    obtain⟨w',h1,h⟩:=ih (i+1) ⟨v.kO,p.part,p,p⟩ (w+3) hd' hil;refine⟨w',by omega,?_⟩;rw[e,<-h,zj zH8.eq_1];clear h ih;simp[njE,zKV,own,jC,zox,zh,zi,zf,zJ1,zKF,hil,hx,hw,c,cb,d,zg,zH]
   ·have e:zJ5 z v p=⟨v.kO,v.entry,v.first,p⟩:=by simp[zJ5,c,d]
    obtain⟨w',h1,h⟩:=ih (i+1) ⟨v.kO,v.entry,v.first,p⟩ (w+1) hd' hil;refine⟨w',by omega,?_⟩;rw[e,<-h,zj zH8.eq_1];clear h ih;simp[njE,zKV,own,jC,zox,zh,zi,zf,zJ1,zKF,hil,hx,hw,c,cb,d,zg,zH]
  ·have cb:(p.kO !=(z:Int))=true:=by simp[c]
   have e:zJ5 z v p=v:=by simp[zJ5,c]
   obtain⟨w',h1,h⟩:=ih (i+1) v w hd' hil;refine⟨w',by omega,?_⟩;rw[e,<-h,zj zH8.eq_1];clear h ih;simp[njE,zKV,own,jC,zox,zh,zi,zf,zJ1,zKF,hil,hx,hw,c,cb,zg,zH]
abbrev zLk(nz z:Nat):Env:=[(23,.w (W nz)),(7,.w (Pt 1)),(24,.w (W z))]
theorem nj2a(m:zD)(r:List Int)(len:Int)(ps:List Pss)(hp:ps.length<=1000)(nz z:Nat)(hz:z<nz)(hn:nz<=10):∃w,
  Y L Cs zH7 (some [23,7,24]) 2 (zLk nz z) (njM m r len ps 0 .jd) =
    if 0<=(zKn ps z).entry then Y L Cs zH7 (some [23,7,24]) 2 (zLk nz (z+1)) (zKV m r len ps (zKn ps z) w) else Y L Cs zH7 (some [23,7,24]) 2 (zLk nz (z+1)) (njM m r len ps 0 .jd):=by
 have hw:=zB (i:=z) (by omega);have hzi:(z:Int)<nz:=by omega
 obtain⟨w',_,h⟩:=nj1 m r len ps hp nz z ps 0 ⟨z,-1,zKw,zKw⟩ 1 rfl (jA _);refine⟨w',?_⟩;rw[show ps.foldl (zJ5 z) ⟨z,-1,zKw,zKw⟩=zKn ps z from rfl]at h;generalize zKn ps z=v at *;simp only[njE,njM,jC,zox,zh,zi,zf,zJ1,jk,jg,ji]at h;by_cases c:0<=v.entry
 ·rw[if_pos c,zj zH7.eq_1];simp (maxSteps:=1000000) [zLk,njM,zKV,zLG,own,jC,zox,zh,zi,zf,zJ1,hzi,hz,hw,h,c,zg,zH]
 ·rw[if_neg c,zj zH7.eq_1];simp (maxSteps:=1000000) [zLk,njM,zKV,zLG,own,jC,zox,zh,zi,zf,zJ1,hzi,hz,hw,h,c,zg,zH]
theorem nj2b(m:zD)(r:List Int)(len:Int)(ps:List Pss)(v0:Vis)(w0:Nat)(hp:ps.length<=1000)(nz z:Nat)(hz:z<nz)(hn:nz<=10):∃w,
  Y L Cs zH7 (some [23,7,24]) 2 (zLk nz z) (zKV m r len ps v0 w0) =
    if 0<=(zKn ps z).entry then Y L Cs zH7 (some [23,7,24]) 2 (zLk nz (z+1)) (zMw m r len ps v0 (zKn ps z) w0 w) else Y L Cs zH7 (some [23,7,24]) 2 (zLk nz (z+1)) (zKV m r len ps v0 w0++[bxv w 10 (zJ1 (zKn ps z))]):=by
 have hw:=zB (i:=z) (by omega);have hzi:(z:Int)<nz:=by omega
 obtain⟨w',_,h⟩:=nj1b m r len v0 w0 ps hp nz z ps 0 ⟨z,-1,zKw,zKw⟩ 1 rfl (jA _);refine⟨w',?_⟩;rw[show ps.foldl (zJ5 z) ⟨z,-1,zKw,zKw⟩=zKn ps z from rfl]at h;generalize zKn ps z=v at *;simp only[njE,zKV,zLG,own,jC,zox,zh,zi,zf,zJ1,jk,jg,ji,jm,jw]at h;by_cases c:0<=v.entry
 ·rw[if_pos c,zj zH7.eq_1];simp (maxSteps:=1000000) [zLk,zMw,zKV,zLG,own,jC,zox,zh,zi,zf,zJ1,hzi,hz,hw,h,c,zg,zH]
 ·rw[if_neg c,zj zH7.eq_1];simp (maxSteps:=1000000) [zLk,zMw,zKV,zLG,own,jC,zox,zh,zi,zf,zJ1,hzi,hz,hw,h,c,zg,zH]
abbrev zJ3(m:zD)(r:List Int)(len:Int)(ps:List Pss)(vs:List Vis)(u:Nat)(was now:List Cl)(SW:Cl):Mem :=
 if vs=[] then [bxv u 26 (jC m r len ps .jd was now SW)] else [bxv u 26 (jC m r len ps (.slice 1 vs.length 10 0 vs.length none) was now SW),some (own 10 (zKt vs))]
theorem zLF(nz:Nat)(M:Mem):Y L Cs zH7 (some [23,7,24]) 2 (zLk nz nz) M=some (.exit 0,[(25,.w (Bo false)),(7,.w (Pt 1)),(23,.w (W nz)),(24,.w (W nz))],M):=by
 rw[zj zH7.eq_1];simp
theorem zMM{m:zD}{zs:List Zon}{ss:List Sgn}(hF:zKj m zs ss){r:List Int}(hr:zdA m r=0)(len:Int) :
  ∃u,R L Cs zMn [.a (zf m),.c (.jc (zu r)),W len] []=some (.w (.c (.ptr 0 0 0 0)),zJ3 m r len (zKh m zs 0 r) (zKE (zKh m zs 0 r) 0 zs.length) u zox zox .jd):=by
 have hf:=hF.full;have hz:=hF.two;have hA:=zB9 hf.qW hr len;have hP:=zPm hf hr (hF.srt r hr) (hF.few r hr);have hp:=hF.few r hr;have hzz:=hf.zd.z;generalize zKh m zs 0 r=ps at *;rw[zUa zMp rfl];have n2:((2:Nat):Int)=2:=rfl
 match zs,hz,hzz with
 |[],_,hzz =>
  refine⟨0,?_⟩;have yT:m.qZ=[]:=hzz;have h:=zLF 0 (njM m r len ps 0 .jd);rw[show zKE ps 0 ([]:List Zon).length=[] from rfl];simp only[zLk,njM,zKV,zMw,zLG,own,jC,zox,zh,zi,zf,zJ1,yT,jk,jg,jm,jw,ji,j8,n2]at h hA hP;simp (maxSteps:=1000000) [zID,zJ3,jC,zox,zf,zh,zi,hA,hP,yT,h,zJ1,own,zg,zX]
 |[z0],_,hzz =>
  have yT:m.qZ=[zdP z0]:=hzz;obtain⟨w,h1⟩:=nj2a m r len ps (by omega) 1 0 (by omega) (by omega);rw[show [z0].length=1 from rfl];by_cases c:0<=(zKn ps 0).entry
  ·refine⟨1,?_⟩;have e:=zLF 1 (zKV m r len ps (zKn ps 0) w);simp only[ji,c,if_true]at h1;rw[e]at h1;have hv:zKE ps 0 1=[zKn ps 0]:=by simp[zKE,c]
   rw[hv];clear hv e;generalize zKn ps 0=v at *;simp only[zLk,njM,zKV,zMw,zLG,own,jC,zox,zh,zi,zf,zJ1,yT,jk,jg,jm,jw,ji,j8,n2]at h1 hA hP;simp (maxSteps:=1000000) [zID,zJ3,jC,zox,zf,zh,zi,hA,hP,yT,h1,zJ1,own,zg,zX]
  ·refine⟨0,?_⟩;have e:=zLF 1 (njM m r len ps 0 .jd);simp only[ji,c,if_false]at h1;rw[e]at h1;have hv:zKE ps 0 1=[]:=by simp[zKE,c]
   rw[hv];clear hv e;simp only[zLk,njM,zKV,zMw,zLG,own,jC,zox,zh,zi,zf,zJ1,yT,jk,jg,jm,jw,ji,j8,n2]at h1 hA hP;simp (maxSteps:=1000000) [zID,zJ3,jC,zox,zf,zh,zi,hA,hP,yT,h1,zJ1,own,zg,zX]
 |[z0,z1],_,hzz =>
  have yT:m.qZ=[zdP z0,zdP z1]:=hzz;obtain⟨w,h1⟩:=nj2a m r len ps (by omega) 2 0 (by omega) (by omega);rw[show [z0,z1].length=2 from rfl];by_cases c:0<=(zKn ps 0).entry
  ·simp only[ji,c,if_true]at h1;obtain⟨w2,h2⟩:=nj2b m r len ps (zKn ps 0) w (by omega) 2 1 (by omega) (by omega);by_cases d:0<=(zKn ps 1).entry
   ·refine⟨2,?_⟩;have e:=zLF 2 (zMw m r len ps (zKn ps 0) (zKn ps 1) w w2);simp only[j8,d,if_true]at h2;rw[h2,e]at h1;have hv:zKE ps 0 2=[zKn ps 0,zKn ps 1]:=by simp[zKE,c,d]
    rw[hv];clear hv e h2;generalize zKn ps 0=v at *;generalize zKn ps 1=v1 at *;simp only[zLk,njM,zKV,zMw,zLG,own,jC,zox,zh,zi,zf,zJ1,yT,jk,jg,jm,jw,ji,j8,n2]at h1 hA hP;simp (maxSteps:=1000000) [zID,zJ3,jC,zox,zf,zh,zi,hA,hP,yT,h1,zJ1,own,zg,zX]
   ·refine⟨1,?_⟩;have e:=zLF 2 (zKV m r len ps (zKn ps 0) w++[bxv w2 10 (zJ1 (zKn ps 1))]);simp only[j8,d,if_false]at h2;rw[h2,e]at h1;have hv:zKE ps 0 2=[zKn ps 0]:=by simp[zKE,c,d]
    rw[hv];clear hv e h2;generalize zKn ps 0=v at *;generalize zKn ps 1=v1 at *;simp only[zLk,njM,zKV,zMw,zLG,own,jC,zox,zh,zi,zf,zJ1,yT,jk,jg,jm,jw,ji,j8,n2]at h1 hA hP;simp (maxSteps:=1000000) [zID,zJ3,jC,zox,zf,zh,zi,hA,hP,yT,h1,zJ1,own,zg,zX]
  ·simp only[ji,c,if_false]at h1;obtain⟨w2,h2⟩:=nj2a m r len ps (by omega) 2 1 (by omega) (by omega);by_cases d:0<=(zKn ps 1).entry
   ·refine⟨1,?_⟩;have e:=zLF 2 (zKV m r len ps (zKn ps 1) w2);simp only[j8,d,if_true]at h2;rw[h2,e]at h1;have hv:zKE ps 0 2=[zKn ps 1]:=by simp[zKE,c,d]
    rw[hv];clear hv e h2;generalize zKn ps 1=v1 at *;simp only[zLk,njM,zKV,zMw,zLG,own,jC,zox,zh,zi,zf,zJ1,yT,jk,jg,jm,jw,ji,j8,n2]at h1 hA hP;simp (maxSteps:=1000000) [zID,zJ3,jC,zox,zf,zh,zi,hA,hP,yT,h1,zJ1,own,zg,zX]
   ·refine⟨0,?_⟩;have e:=zLF 2 (njM m r len ps 0 .jd);simp only[j8,d,if_false]at h2;rw[h2,e]at h1;have hv:zKE ps 0 2=[]:=by simp[zKE,c,d]
    rw[hv];clear hv e h2;simp only[zLk,njM,zKV,zMw,zLG,own,jC,zox,zh,zi,zf,zJ1,yT,jk,jg,jm,jw,ji,j8,n2]at h1 hA hP;simp (maxSteps:=1000000) [zID,zJ3,jC,zox,zf,zh,zi,hA,hP,yT,h1,zJ1,own,zg,zX]
@[simp] theorem zOb(p:Swp):(swC p).length=4:=rfl
theorem zO6(l:List Pss)(hl:l.length<=100000000000)(fnv:Cl)(f:Pss->Bool)(M:Mem)(hc:∀p∈l,zx (R L Cs) ⟨true⟩ (.c fnv) [.a (zKF p)] M=some (.w (Bo (f p)),M,.no)) :
  ∃k:Int,R L Cs zLd [.c (.jc (zKd l)),.c fnv] M=some (.w (W k),M)/\(decide (0<=k)=l.any f):=by
 have htk:∀p:Pss,List.take (zKF p).length (zKF p)=zKF p:=fun p=>yq
 have h:=zxf (L:=L) (Cs:=Cs) (b:=zHw) (live:=some [7,1,0,8]) (n0:=M.length) l (fun i=>[(7,.w (W l.length)),(1,.w (.c fnv)),(0,.w (.c (.jc (zKd l)))),(8,.w (W i))]) M f (fun i=>(.ret,[(4,.w (W i))],M)) (.exit 0,[(9,.w (Bo false)),(0,.w (.c (.jc (zKd l)))),(1,.w (.c fnv)),(7,.w (W l.length)),(8,.w (W l.length))],M) ?_ ?_ ?_
 ·cases hq:l.findIdx? f with
  |none =>
   rw[hq]at h;refine⟨-1,?_,?_⟩
   ·simp only[ji]at h;rw[zUa zKB rfl];simp[zHI,h]
   ·rw[kJ]at hq;have:l.any f=false:=by simpa using hq
    rw[this];decide
  |some k =>
   rw[hq]at h;refine⟨k,?_,?_⟩
   ·simp only[ji]at h;rw[zUa zKB rfl];simp[zHI,h]
   ·obtain⟨h1,h2,_⟩:=kc.1 hq;have:l.any f=true:=ki.2 ⟨_,jf h1,h2⟩;rw[this];simp
 ·intro i hi hp;have hw:=zB (i:=i) (by omega);have hcc:=hc l[i] (jf hi);have ht:=htk l[i];simp only[zNu]at ht;rw[hp]at hcc;rw[zj zHw.eq_1];simp[hi,hw,hcc,ht,-zx]
 ·intro i hi hp;have hcc:=hc l[i] (jf hi);have ht:=htk l[i];simp only[zNu]at ht;rw[hp]at hcc;rw[zj zHw.eq_1];simp[hi,hcc,ht,-zx]
 ·rw[zj zHw.eq_1];simp
theorem zOz(l:List Swp)(hl:l.length<=100000000000)(fnv:Cl)(f:Swp->Bool)(M:Mem)(hc:∀p∈l,zx (R L Cs) ⟨true⟩ (.c fnv) [.a (swC p)] M=some (.w (Bo (f p)),M,.no)) :
  ∃k:Int,R L Cs zLa [.c (.jc (zbf l)),.c fnv] M=some (.w (W k),M)/\(decide (0<=k)=l.any f):=by
 have htk:∀p:Swp,List.take (swC p).length (swC p)=swC p:=fun p=>yq
 have h:=zxf (L:=L) (Cs:=Cs) (b:=zHr) (live:=some [7,1,0,8]) (n0:=M.length) l (fun i=>[(7,.w (W l.length)),(1,.w (.c fnv)),(0,.w (.c (.jc (zbf l)))),(8,.w (W i))]) M f (fun i=>(.ret,[(4,.w (W i))],M)) (.exit 0,[(9,.w (Bo false)),(0,.w (.c (.jc (zbf l)))),(1,.w (.c fnv)),(7,.w (W l.length)),(8,.w (W l.length))],M) ?_ ?_ ?_
 ·cases hq:l.findIdx? f with
  |none =>
   rw[hq]at h;refine⟨-1,?_,?_⟩
   ·simp only[ji]at h;rw[zUa zKy rfl];simp[zHG,h]
   ·rw[kJ]at hq;have:l.any f=false:=by simpa using hq
    rw[this];decide
  |some k =>
   rw[hq]at h;refine⟨k,?_,?_⟩
   ·simp only[ji]at h;rw[zUa zKy rfl];simp[zHG,h]
   ·obtain⟨h1,h2,_⟩:=kc.1 hq;have:l.any f=true:=ki.2 ⟨_,jf h1,h2⟩;rw[this];simp
 ·intro i hi hp;have hw:=zB (i:=i) (by omega);have hcc:=hc l[i] (jf hi);have ht:=htk l[i];simp only[zOb]at ht;rw[hp]at hcc;rw[zj zHr.eq_1];simp[hi,hw,hcc,ht,-zx]
 ·intro i hi hp;have hcc:=hc l[i] (jf hi);have ht:=htk l[i];simp only[zOb]at ht;rw[hp]at hcc;rw[zj zHr.eq_1];simp[hi,hcc,ht,-zx]
 ·rw[zj zHr.eq_1];simp
theorem zOy(l:List Vis)(hl:l.length<=100000000000)(fnv:Cl)(f:Vis->Bool)(M:Mem)(hc:∀p∈l,zx (R L Cs) ⟨true⟩ (.c fnv) [.a (zJ1 p)] M=some (.w (Bo (f p)),M,.no)) :
  ∃k:Int,R L Cs zKm [.c (.jc (zKt l)),.c fnv] M=some (.w (W k),M)/\(decide (0<=k)=l.any f):=by
 have htk:∀p:Vis,List.take (zJ1 p).length (zJ1 p)=zJ1 p:=fun p=>yq
 have h:=zxf (L:=L) (Cs:=Cs) (b:=zHq) (live:=some [7,1,0,8]) (n0:=M.length) l (fun i=>[(7,.w (W l.length)),(1,.w (.c fnv)),(0,.w (.c (.jc (zKt l)))),(8,.w (W i))]) M f (fun i=>(.ret,[(4,.w (W i))],M)) (.exit 0,[(9,.w (Bo false)),(0,.w (.c (.jc (zKt l)))),(1,.w (.c fnv)),(7,.w (W l.length)),(8,.w (W l.length))],M) ?_ ?_ ?_
 ·cases hq:l.findIdx? f with
  |none =>
   rw[hq]at h;refine⟨-1,?_,?_⟩
   ·simp only[ji]at h;rw[zUa zKb rfl];simp[zHF,h]
   ·rw[kJ]at hq;have:l.any f=false:=by simpa using hq
    rw[this];decide
  |some k =>
   rw[hq]at h;refine⟨k,?_,?_⟩
   ·simp only[ji]at h;rw[zUa zKb rfl];simp[zHF,h]
   ·obtain⟨h1,h2,_⟩:=kc.1 hq;have:l.any f=true:=ki.2 ⟨_,jf h1,h2⟩;rw[this];simp
 ·intro i hi hp;have hw:=zB (i:=i) (by omega);have hcc:=hc l[i] (jf hi);have ht:=htk l[i];simp only[zNp]at ht;rw[hp]at hcc;rw[zj zHq.eq_1];simp[hi,hw,hcc,ht,-zx]
 ·intro i hi hp;have hcc:=hc l[i] (jf hi);have ht:=htk l[i];simp only[zNp]at ht;rw[hp]at hcc;rw[zj zHq.eq_1];simp[hi,hcc,ht,-zx]
 ·rw[zj zHq.eq_1];simp
abbrev juM(m:zD)(r:List Int)(len:Int)(ps:List Pss)(vs:List Vis)(u:Nat)(was now:zci)(sw:List Swp):Mem:=zJ3 m r len ps vs u (zG was) (zG now) (.jc (zbf sw))
abbrev J0:WV:=.c (.ptr 0 0 0 0)
def onW(m:zD)(r:List Int)(now:zci):Int:=if zmd m 0 r<now.ego.shi then 3 else 0
theorem zNc(m:zD)(r:List Int)(len:Int)(ps:List Pss)(vs:List Vis)(u:Nat)(was now:zci)(sw:List Swp) :
  R L Cs zJ6 [J0] (juM m r len ps vs u was now sw)=some (.w (W (onW m r now)),juM m r len ps vs u was now sw):=by
 rw[zUa zLu rfl];unfold onW;by_cases hv:vs=[]<;>by_cases c:zmd m 0 r<now.ego.shi<;>simp[zHV,juM,zJ3,hv,jC,zh,zi,zf,zG,c,zg,zH,own]
def zMt(m:zD)(r:List Int)(now:zci):Int:=if max (zNU m now.ego.slo now.ego.shi now.tick 0 (-1) r) 0<now.ego.vhi then 2 else 0
theorem zPf{m:zD}(h:zcp m)(hwk:m.kx.length<=1000)(r:List Int)(hl:r.length<=1000)(hon:zj2 m r)(len:Int)(ps:List Pss)(vs:List Vis)(u:Nat)(was now:zci)(hn:0<=now.ego.slo/\now.ego.slo<=10000000000/\0<=now.ego.shi/\now.ego.shi<=10000000000)(sw:List Swp) :
  R L Cs zKc [J0] (juM m r len ps vs u was now sw)=some (.w (W (zMt m r now)),juM m r len ps vs u was now sw):=by
 have hL:=zPh h hwk r hl hon len now.ego.slo now.ego.shi now.tick (by omega) (by omega);rw[zUa zL2 rfl];unfold zMt;generalize max (zNU m now.ego.slo now.ego.shi now.tick 0 (-1) r) 0=q at *;simp only[zh,zi,jk,jg]at hL;by_cases hv:vs=[]<;>by_cases c:q<now.ego.vhi<;>simp[zIk,juM,zJ3,hv,jC,zh,zi,zf,zG,hL,c,zg,zH,own]
structure zPI(m:zD)(s:Swp):Prop where
 lane:0<=s.lane/\s.lane<m.jb.length
 lo:0<=s.lo/\s.lo<=1000000
 hi:0<=s.hi/\s.hi<=1000000
def apP(m:zD)(r:List Int)(shi:Int)(s:Swp):Bool:=match zgo r s.lane with
 |some i=>!s.cap&&decide (qu m r i+s.lo<=shi)
 |none=>false
def zMF(m:zD)(r:List Int)(now:zci)(sw:List Swp):Int:=if now.ego.vhi=0 then 0 else if sw.any (apP m r now.ego.shi) then 4 else 0
abbrev apE(sw:List Swp)(i:Nat):Env:=[(17,.w (W sw.length)),(16,.w (.c (.jc (zbf sw)))),(0,.w J0),(18,.w (W i))]
theorem zNY{m:zD}(h:zcp m)(r:List Int)(hl:r.length<=8)(hon:zj2 m r)(len:Int)(ps:List Pss)(vs:List Vis)(u:Nat)(was now:zci)(sw:List Swp)(hs:sw.length<=100000000000)(hok:∀s∈sw,zPI m s)(n0:Nat)(hn0:n0=(juM m r len ps vs u was now sw).length) :
  (sw.any (apP m r now.ego.shi)=true->∃s,Y L Cs zHR (some [17,16,0,18]) n0 (apE sw 0) (juM m r len ps vs u was now sw)=some (.ret,[(2,.w (W 4))],juM m r len ps vs u was now sw++[bxv 1 4 (swC s)])) /\
  (sw.any (apP m r now.ego.shi)=false->Y L Cs zHR (some [17,16,0,18]) n0 (apE sw 0) (juM m r len ps vs u was now sw)=some (.exit 0,[(19,.w (Bo false)),(0,.w J0),(16,.w (.c (.jc (zbf sw)))),(17,.w (W sw.length)),(18,.w (W sw.length))],juM m r len ps vs u was now sw)):=by
 subst hn0;have hly:ziO m r 0:=⟨h,hl,hon,by omega⟩;have key:=zxf (L:=L) (Cs:=Cs) (b:=zHR) (live:=some [17,16,0,18]) (n0:=(juM m r len ps vs u was now sw).length) sw (fun i=>apE sw i) (juM m r len ps vs u was now sw) (apP m r now.ego.shi) (fun i=>(.ret,[(2,.w (W 4))],juM m r len ps vs u was now sw++[bxv 1 4 (swC (sw.getD i zpa))])) (.exit 0,[(19,.w (Bo false)),(0,.w J0),(16,.w (.c (.jc (zbf sw)))),(17,.w (W sw.length)),(18,.w (W sw.length))],juM m r len ps vs u was now sw) ?_ ?_ ?_
 ·rw[key];cases hq:sw.findIdx? (apP m r now.ego.shi)with
  |none =>
   rw[kJ]at hq;have:sw.any (apP m r now.ego.shi)=false:=by simpa using hq
   rw[this];exact⟨fun h=>(by cases h),fun _=>rfl⟩
  |some k =>
   obtain⟨h1,h2,_⟩:=kc.1 hq;have:sw.any (apP m r now.ego.shi)=true:=ki.2 ⟨_,jf h1,h2⟩;rw[this];exact⟨fun _=>⟨_,rfl⟩,fun h=>(by cases h)⟩
 ·intro i hi hp;have hw:=zB (i:=i) (by omega);have hx:=zoq r sw[i].lane (by omega);have hso:=hok sw[i] (jf hi);generalize hsi:sw[i]=s at *;unfold apP at hp;rw[zj zHR.eq_1];cases hL:zgo r s.lane with
  |none =>
   rw[hL]at hx;simp only[zbe]at hx;by_cases hv:vs=[]<;>simp[apE,juM,zJ3,hv,jC,zh,zi,zf,zG,swC,hi,hsi,hw,hx,zg,zH,own]
  |some j =>
   obtain⟨hjl,_⟩:=zfT hL;have hsl:j<(zW m 0 r).length:=by rw[zcO];exact hjl
   have hst:(zW m 0 r)[j]=qu m r j:=by simp[qu,hsl]
   have hsb:=zmA hly hjl;have hlo:=hso.lo;have w2:=kr (qu m r j+s.lo);have hj0:(0:Int)<=(j:Int):=by omega
   rw[hL]at hx hp;simp only[zbe]at hx;cases hc:s.cap with
   |true=>by_cases hv:vs=[]<;>simp[apE,juM,zJ3,hv,jC,zh,zi,zf,zG,swC,hi,hsi,hw,hx,hc,hj0,zg,zH,own]
   |false =>
    simp only[hc,Bool.not_false,vt,decide_eq_false_iff_not]at hp;by_cases hv:vs=[]<;>simp[apE,juM,zJ3,hv,jC,zh,zi,zf,zG,swC,hi,hsi,hw,hx,hc,hj0,hsl,hst,w2,hp,zg,zH,own]
 ·intro i hi hp;have hx:=zoq r sw[i].lane (by omega);have hso:=hok sw[i] (jf hi);have hgd:sw.getD i zpa=sw[i]:=by simp[jo,hi]
  rw[hgd];clear hgd;generalize hsi:sw[i]=s at *;unfold apP at hp;rw[zj zHR.eq_1];cases hL:zgo r s.lane with
  |none=>rw[hL]at hp;cases hp
  |some j =>
   obtain⟨hjl,_⟩:=zfT hL;have hsl:j<(zW m 0 r).length:=by rw[zcO];exact hjl
   have hst:(zW m 0 r)[j]=qu m r j:=by simp[qu,hsl]
   have hsb:=zmA hly hjl;have hlo:=hso.lo;have w2:=kr (qu m r j+s.lo);have hj0:(0:Int)<=(j:Int):=by omega
   rw[hL]at hx hp;simp only[zbe]at hx;simp only[jh,kE,decide_eq_true_eq]at hp;by_cases hv:vs=[]<;>simp[apE,juM,zJ3,hv,jC,zh,zi,zf,zG,swC,hi,hsi,hx,hp.1,hj0,hsl,hst,w2,hp.2,zg,zH,own]
 ·rw[zj zHR.eq_1];by_cases hv:vs=[]<;>simp[apE,juM,zJ3,hv]
theorem zOh{m:zD}(h:zcp m)(r:List Int)(hl:r.length<=8)(hon:zj2 m r)(len:Int)(ps:List Pss)(vs:List Vis)(u:Nat)(was now:zci)(sw:List Swp)(hs:sw.length<=100000000000)(hok:∀s∈sw,zPI m s) :
  R L Cs zJ9 [J0] (juM m r len ps vs u was now sw)=some (.w (W (zMF m r now sw)),juM m r len ps vs u was now sw):=by
 obtain⟨g1,g2⟩:=zNY h r hl hon len ps vs u was now sw hs hok _ rfl;rw[zUa zLM rfl];unfold zMF;by_cases c:now.ego.vhi=0
 ·have cb:(now.ego.vhi==0)=true:=by simp[c]
  by_cases hv:vs=[]<;>simp[zIa,juM,zJ3,hv,jC,zh,zi,zf,zG,c,cb,zg,zH,own]
 ·have cb:(now.ego.vhi==0)=false:=by simp[c]
  cases hq:sw.any (apP m r now.ego.shi)with
  |true =>
   obtain⟨s,g⟩:=g1 hq;clear g1 g2;by_cases hv:vs=[]
   ·simp only[apE,juM,zJ3,hv,jC,zh,zi,zf,zG,swC,if_true,jk,jg,ji,jm,jw]at g;simp[zIa,juM,zJ3,hv,jC,zh,zi,zf,zG,swC,c,cb,g,zg,zH,own]
   ·simp only[apE,juM,zJ3,hv,jC,zh,zi,zf,zG,swC,own,zJZ,if_false,jk,jg,ji,jm,jw]at g;simp[zIa,juM,zJ3,hv,jC,zh,zi,zf,zG,swC,c,cb,g,zg,zH,own]
  |false =>
   have g:=g2 hq;clear g1 g2;by_cases hv:vs=[]
   ·simp only[apE,juM,zJ3,hv,jC,zh,zi,zf,zG,if_true,jk,jg,ji,jm,jw]at g;simp[zIa,juM,zJ3,hv,jC,zh,zi,zf,zG,c,cb,g,zg,zH,own]
   ·simp only[apE,juM,zJ3,hv,jC,zh,zi,zf,zG,own,zJZ,if_false,jk,jg,ji,jm,jw]at g;simp[zIa,juM,zJ3,hv,jC,zh,zi,zf,zG,c,cb,g,zg,zH,own]
def inS(p:Prt)(s:Swp):Bool:=!s.cap&&decide (s.lane=p.lane)&&decide (s.lo<=p.hi)&&decide (p.lo<=s.hi)
theorem zOH(p:Prt)(s:Swp):R L Cs zKG [.a (swC s),.c (.ptr 0 0 0 0)] [bxv 1 4 (zeB p)]=some (.w (Bo (inS p s)),[bxv 1 4 (zeB p)]):=by
 rw[zUa zLt rfl];unfold inS;cases hc:s.cap with
 |true=>simp[zHU,swC,zeB,hc,zg,zH]
 |false =>
  by_cases c1:s.lane=p.lane
  ·have b1:(s.lane==p.lane)=true:=by simp[c1]
   by_cases c2:s.lo<=p.hi<;>by_cases c3:p.lo<=s.hi<;>simp[zHU,swC,zeB,hc,c1,b1,c2,c3,zg,zH]
  ·have b1:(s.lane==p.lane)=false:=by simp[c1]
   simp[zHU,swC,zeB,hc,c1,b1,zg,zH]
abbrev zPL:Cl:=.fn zKG [] [.ptr 0 0 0 0]
theorem zNk(p:Prt)(sw:List Swp)(hs:sw.length<=100000000000):R L Cs zKR [.c (.jc (zbf sw)),.c zPL] [bxv 1 4 (zeB p)]=some (.w (Bo (sw.any (inS p))),[bxv 1 4 (zeB p)]):=by
 obtain⟨k,h1,h2⟩:=zOz sw hs zPL (inS p) [bxv 1 4 (zeB p)] (fun s _=>by
  have h:=zOH p s;simp only[zeB,swC]at h;simp[h,zeB,swC])
 rw[zUa zKU rfl];simp only[zeB]at h1;simp[zHt,h1,h2,zeB]
def zNK(sw:List Swp)(entry:Int):Nat->List Prt->Bool
 |_,[]=>false
 |i,p::r=>(decide ((i:Int)≠entry)&&sw.any (inS p))||zNK sw entry (i+1) r
abbrev tkM(m:zD)(r:List Int)(len:Int)(ps:List Pss)(vs:List Vis)(u:Nat)(was now:zci)(sw:List Swp)(v:Vis):Mem:=juM m r len ps vs u was now sw++[bx 10 (zJ1 v)]
abbrev tkE(n:Nat)(q:Zon)(i:Nat):Env:=[(19,.w (W q.parts.length)),(18,.w (.c (.jc (zkl q.parts)))),(3,.w (Pt n)),(0,.w J0),(20,.w (W i))]
theorem zNJ(m:zD)(r:List Int)(len:Int)(ps:List Pss)(vs:List Vis)(u:Nat)(was now:zci)(sw:List Swp)(hs:sw.length<=100000000000)(v:Vis)(q:Zon)(hq:q.parts.length<=6)(n:Nat)(hn:n=(juM m r len ps vs u was now sw).length):∀(t:List Prt) (i:Nat),q.parts.drop i=t->i<=q.parts.length ->
  (zNK sw v.entry i t=true->∃X,Y L Cs zHP (some [19,18,3,0,20]) (n+1) (tkE n q i) (tkM m r len ps vs u was now sw v)=some (.ret,[(4,.w (Bo true))],tkM m r len ps vs u was now sw v++[bxv 1 4 (zeB X)])) /\
  (zNK sw v.entry i t=false->Y L Cs zHP (some [19,18,3,0,20]) (n+1) (tkE n q i) (tkM m r len ps vs u was now sw v)=some (.exit 0,[(21,.w (Bo false)),(0,.w J0),(3,.w (Pt n)),(18,.w (.c (.jc (zkl q.parts)))),(19,.w (W q.parts.length)),(20,.w (W q.parts.length))],tkM m r len ps vs u was now sw v)):=by
 intro t;induction t with
 |nil =>
  intro i hd hi;obtain rfl:=zUb hd hi;refine⟨fun h=>(by cases h),fun _=>?_⟩;subst hn;rw[zj zHP.eq_1];by_cases hv:vs=[]<;>simp[tkE,tkM,juM,zJ3,hv]
 |cons p t ih =>
  intro i hd hi;obtain⟨hil,hp,hd'⟩:=zL hd;have hw:=zB (i:=i) (by omega);obtain⟨i1,i2⟩:=ih (i+1) hd' hil;have hC:=zNk p sw hs;have hnn:n=if vs=[] then 1 else 2:=by
   rw[hn];unfold juM zJ3;split<;>rfl
  have step:(decide ((i:Int)≠v.entry)&&sw.any (inS p))=false->Y L Cs zHP (some [19,18,3,0,20]) (n+1) (tkE n q i) (tkM m r len ps vs u was now sw v)=Y L Cs zHP (some [19,18,3,0,20]) (n+1) (tkE n q (i+1)) (tkM m r len ps vs u was now sw v):=by
   intro hf;clear i1 i2 ih;simp only[zeB]at hC;rw[zj zHP.eq_1];by_cases c:(i:Int)=v.entry
   ·have cb:((i:Int)==v.entry)=true:=by simp[c]
    have cb':((i:Int) !=v.entry)=false:=by simp[c]
    by_cases hv:vs=[]
    ·rw[if_pos hv]at hnn;subst hnn;simp[tkE,tkM,juM,zJ3,hv,jC,zh,zi,zf,zG,zJ1,zeB,hil,hp,hw,cb',zg,zH,own]
    ·rw[if_neg hv]at hnn;subst hnn;simp[tkE,tkM,juM,zJ3,hv,jC,zh,zi,zf,zG,zJ1,zeB,hil,hp,hw,cb',zg,zH,own]
   ·have cb':((i:Int) !=v.entry)=true:=by simp[c]
    have hf':sw.any (inS p)=false:=by simpa [c]using hf
    rw[hf']at hC;by_cases hv:vs=[]
    ·rw[if_pos hv]at hnn;subst hnn;simp[tkE,tkM,juM,zJ3,hv,jC,zh,zi,zf,zG,zJ1,zeB,hil,hp,hw,cb',hC,zg,zH,own]
    ·rw[if_neg hv]at hnn;subst hnn;simp[tkE,tkM,juM,zJ3,hv,jC,zh,zi,zf,zG,zJ1,zeB,hil,hp,hw,cb',hC,zg,zH,own]
  have hit:(decide ((i:Int)≠v.entry)&&sw.any (inS p))=true->Y L Cs zHP (some [19,18,3,0,20]) (n+1) (tkE n q i) (tkM m r len ps vs u was now sw v)=some (.ret,[(4,.w (Bo true))],tkM m r len ps vs u was now sw v++[bxv 1 4 (zeB p)]):=by
   intro hf;clear i1 i2 ih step;simp only[jh,decide_eq_true_eq]at hf;have cb':((i:Int) !=v.entry)=true:=by simp[hf.1]
   rw[hf.2]at hC;simp only[zeB]at hC;rw[zj zHP.eq_1];by_cases hv:vs=[]
   ·rw[if_pos hv]at hnn;subst hnn;simp[tkE,tkM,juM,zJ3,hv,jC,zh,zi,zf,zG,zJ1,zeB,hil,hp,hw,cb',hC,zg,zH,own]
   ·rw[if_neg hv]at hnn;subst hnn;simp[tkE,tkM,juM,zJ3,hv,jC,zh,zi,zf,zG,zJ1,zeB,hil,hp,hw,cb',hC,zg,zH,own]
  unfold zNK;cases hb:(decide ((i:Int)≠v.entry)&&sw.any (inS p))with
  |true=>exact⟨fun _=>⟨p,hit hb⟩,fun h=>by simp at h⟩
  |false =>
   rw[step hb,uk];exact⟨i1,i2⟩
def zMh(zs:List Zon)(z:Int):List Prt:=((zs[z.toNat]?).map Zon.parts).getD []
structure zKN(zs:List Zon)(v:Vis):Prop where
 z:0<=v.kO/\v.kO<zs.length
 few:(zMh zs v.kO).length<=6
 en:0<=v.entry/\v.entry<(zMh zs v.kO).length
def zNf(zs:List Zon)(sw:List Swp)(v:Vis):Bool:=zNK sw v.entry 0 (zMh zs v.kO)
theorem zPJ{m:zD}{zs:List Zon}(hz:m.qZ=zk8 zs)(r:List Int)(len:Int)(ps:List Pss)(vs:List Vis)(u:Nat)(was now:zci)(sw:List Swp)(hs:sw.length<=100000000000)(v:Vis)(hv:zKN zs v) :
  R L Cs zLI [J0,.a (zJ1 v)] (juM m r len ps vs u was now sw)=some (.w (Bo (zNf zs sw v)),juM m r len ps vs u was now sw):=by
 obtain⟨z,hzz⟩:=jv hv.z.1;have hzl:z<zs.length:=by have:=hv.z.2;omega
 have hzi:(z:Int)<zs.length:=by omega
 have hzp:zMh zs v.kO=zs[z].parts:=by rw[hzz];simp[zMh,hzl]
 have hq:=hv.few;rw[hzp]at hq;unfold zNf;rw[hzp];have key:∀n,n=(juM m r len ps vs u was now sw).length->_:=fun n hn=>zNJ m r len ps vs u was now sw hs v zs[z] hq n hn zs[z].parts 0 rfl (jA _)
 rw[zUa zLL rfl];by_cases h0:vs=[]
 ·obtain⟨g1,g2⟩:=key 1 (by simp[juM,zJ3,h0]);cases hb:zNK sw v.entry 0 zs[z].parts with
  |true =>
   obtain⟨X,g⟩:=g1 hb;clear g1 g2 key;simp only[tkE,tkM,juM,zJ3,h0,jC,zh,zi,zf,zG,zJ1,zeB,hzz,hz,if_true,jk,jg,ji]at g;simp[zH9,juM,zJ3,h0,jC,zh,zi,zf,zG,zJ1,zeB,zdP,hz,hzz,hzl,hzi,g,zg,zH,own]
  |false =>
   have g:=g2 hb;clear g1 g2 key;simp only[tkE,tkM,juM,zJ3,h0,jC,zh,zi,zf,zG,zJ1,zeB,hzz,hz,if_true,jk,jg,ji]at g;simp[zH9,juM,zJ3,h0,jC,zh,zi,zf,zG,zJ1,zeB,zdP,hz,hzz,hzl,hzi,g,zg,zH,own]
 ·obtain⟨g1,g2⟩:=key 2 (by simp[juM,zJ3,h0]);cases hb:zNK sw v.entry 0 zs[z].parts with
  |true =>
   obtain⟨X,g⟩:=g1 hb;clear g1 g2 key;simp only[tkE,tkM,juM,zJ3,h0,jC,zh,zi,zf,zG,zJ1,zeB,hzz,hz,own,zJZ,if_false,jk,jg,ji]at g;simp[zH9,juM,zJ3,h0,jC,zh,zi,zf,zG,zJ1,zeB,zdP,hz,hzz,hzl,hzi,g,zg,zH,own]
  |false =>
   have g:=g2 hb;clear g1 g2 key;simp only[tkE,tkM,juM,zJ3,h0,jC,zh,zi,zf,zG,zJ1,zeB,hzz,hz,own,zJZ,if_false,jk,jg,ji]at g;simp[zH9,juM,zJ3,h0,jC,zh,zi,zf,zG,zJ1,zeB,zdP,hz,hzz,hzl,hzi,g,zg,zH,own]
def zM4(z high low:Int)(p:Pss):Bool:=decide (p.kO=z)&&decide (p.lo<=high)&&decide (low<=p.hi)
abbrev alM(v:Vis)(high low:Int):Mem:=[bxv 1 10 (zJ1 v),bxv 1 1 [I high],bxv 1 1 [I low]]
abbrev zQB:Cl:=.fn zKH [] [.ptr 0 0 0 0,.ptr 1 0 0 0,.ptr 2 0 0 0]
theorem zOL(v:Vis)(high low:Int)(p:Pss):R L Cs zKH [.a (zKF p),.c (.ptr 0 0 0 0),.c (.ptr 1 0 0 0),.c (.ptr 2 0 0 0)] (alM v high low)=some (.w (Bo (zM4 v.kO high low p)),alM v high low):=by
 rw[zUa zLv rfl];unfold zM4;by_cases c1:p.kO=v.kO
 ·have b1:(p.kO==v.kO)=true:=by simp[c1]
  by_cases c2:p.lo<=high<;>by_cases c3:low<=p.hi<;>simp[zHX,zJ1,zKF,c1,b1,c2,c3,zg,zH]
 ·have b1:(p.kO==v.kO)=false:=by simp[c1]
  simp[zHX,zJ1,zKF,c1,b1,zg,zH]
theorem zNl(v:Vis)(high low:Int)(ps:List Pss)(hs:ps.length<=100000000000):R L Cs zKY [.c (.jc (zKd ps)),.c zQB] (alM v high low)=some (.w (Bo (ps.any (zM4 v.kO high low))),alM v high low):=by
 obtain⟨k,h1,h2⟩:=zO6 ps hs zQB (zM4 v.kO high low) (alM v high low) (fun p _=>by
  have h:=zOL v high low p;simp only[alM,zKF,zJ1]at h;simp[h,alM,zKF,zJ1])
 rw[zUa zK2 rfl];simp only[alM,zJ1]at h1;simp[zHz,h1,h2,alM,zJ1]
def alP(zs:List Zon)(ps:List Pss)(sw:List Swp)(high low:Int)(v:Vis):Bool:=ps.any (zM4 v.kO high low)&&zNf zs sw v
abbrev aoM(m:zD)(r:List Int)(len:Int)(ps:List Pss)(vs:List Vis)(u:Nat)(was now:zci)(sw:List Swp)(low high:Int):Mem:=[bxv u 26 (jC m r len ps (.slice 1 vs.length 10 0 vs.length none) (zG was) (zG now) (.jc (zbf sw))),some (own 10 (zKt vs)),bxv 1 1 [I low],bxv 1 1 [I high]]
abbrev aoE(vs:List Vis)(i:Nat):Env:=[(30,.w (W vs.length)),(29,.w (.c (.slice 1 vs.length 10 0 vs.length none))),(3,.w (Pt 2)),(4,.w (Pt 3)),(0,.w J0),(31,.w (W i))]
theorem zNZ{m:zD}{zs:List Zon}(hz:m.qZ=zk8 zs)(r:List Int)(len:Int)(ps:List Pss)(hp:ps.length<=1000)(vs:List Vis)(hv0:vs≠[])(hvl:vs.length<=100)(hvo:∀v∈vs,zKN zs v)(u:Nat)(was now:zci)(sw:List Swp)(hs:sw.length<=100000000000)(low high:Int):∀(t:List Vis) (i:Nat),vs.drop i=t->i<=vs.length ->
  (t.any (alP zs ps sw high low)=true->∃X,Y L Cs zHS (some [30,29,3,4,0,31]) 4 (aoE vs i) (aoM m r len ps vs u was now sw low high)=some (.ret,[(2,.w (W 5))],aoM m r len ps vs u was now sw low high++[bxv 1 10 (zJ1 X)])) /\
  (t.any (alP zs ps sw high low)=false->Y L Cs zHS (some [30,29,3,4,0,31]) 4 (aoE vs i) (aoM m r len ps vs u was now sw low high)=some (.exit 0,[(32,.w (Bo false)),(0,.w J0),(4,.w (Pt 3)),(3,.w (Pt 2)),(29,.w (.c (.slice 1 vs.length 10 0 vs.length none))),(30,.w (W vs.length)),(31,.w (W vs.length))],aoM m r len ps vs u was now sw low high)):=by
 intro t;induction t with
 |nil =>
  intro i hd hi;obtain rfl:=zUb hd hi;refine⟨fun h=>(by cases h),fun _=>?_⟩;rw[zj zHS.eq_1];simp[aoE,aoM]
 |cons v t ih =>
  intro i hd hi;obtain⟨hil,hx,hd'⟩:=zL hd;have hw:=zB (i:=i) (by omega);obtain⟨i1,i2⟩:=ih (i+1) hd' hil;have hC:=zNl v high low ps (by omega);have hT:=zPJ hz r len ps vs u was now sw hs v (hvo v (by rw[<-hx];exact jf hil));simp only[alM,zJ1,juM,zJ3,hv0,jC,zh,zi,zf,zG,own,zJZ,if_false,jk,jg]at hC hT;have step:alP zs ps sw high low v=false->Y L Cs zHS (some [30,29,3,4,0,31]) 4 (aoE vs i) (aoM m r len ps vs u was now sw low high)=Y L Cs zHS (some [30,29,3,4,0,31]) 4 (aoE vs (i+1)) (aoM m r len ps vs u was now sw low high):=by
   intro hf;clear i1 i2 ih;unfold alP at hf;rw[zj zHS.eq_1];cases hc:ps.any (zM4 v.kO high low)with
   |false =>
    rw[hc]at hC;simp[aoE,aoM,jC,zh,zi,zf,zG,zJ1,hil,hx,hw,hC,zg,zH,own]
   |true =>
    have ht:zNf zs sw v=false:=by simpa [hc]using hf
    rw[hc]at hC;rw[ht]at hT;simp[aoE,aoM,jC,zh,zi,zf,zG,zJ1,hil,hx,hw,hC,hT,zg,zH,own]
  have hit:alP zs ps sw high low v=true->Y L Cs zHS (some [30,29,3,4,0,31]) 4 (aoE vs i) (aoM m r len ps vs u was now sw low high)=some (.ret,[(2,.w (W 5))],aoM m r len ps vs u was now sw low high++[bxv 1 10 (zJ1 v)]):=by
   intro hf;clear i1 i2 ih step;unfold alP at hf;rw[jh]at hf;rw[hf.1]at hC;rw[hf.2]at hT;rw[zj zHS.eq_1];simp[aoE,aoM,jC,zh,zi,zf,zG,zJ1,hil,hx,hw,hC,hT,zg,zH,own]
  rw[yg];cases hb:alP zs ps sw high low v with
  |true=>exact⟨fun _=>⟨v,hit hb⟩,fun h=>by simp at h⟩
  |false =>
   rw[step hb,uk];exact⟨i1,i2⟩
def zMG(zs:List Zon)(len:Int)(ps:List Pss)(vs:List Vis)(was now:zci)(sw:List Swp):Int:=if vs.any (alP zs ps sw now.ego.shi (was.ego.slo-len)) then 5 else 0
theorem zOi{m:zD}{zs:List Zon}(hz:m.qZ=zk8 zs)(r:List Int)(len:Int)(hlen:0<=len/\len<=100000)(ps:List Pss)(hp:ps.length<=1000)(vs:List Vis)(hvl:vs.length<=100)(hvo:∀v∈vs,zKN zs v)(u:Nat)(was now:zci)(hws:0<=was.ego.slo/\was.ego.slo<=1000000000000000)(sw:List Swp)(hs:sw.length<=100000000000) :
  R L Cs zKa [J0] (juM m r len ps vs u was now sw)=some (.w (W (zMG zs len ps vs was now sw)),juM m r len ps vs u was now sw):=by
 have w1:=kr (was.ego.slo-len);unfold zMG;by_cases h0:vs=[]
 ·subst h0;have g:∀E M,Y L Cs zHS (some [30,29,3,4,0,31]) 3 [(30,.w (W 0)),(29,E),(3,.w (Pt 1)),(4,.w (Pt 2)),(0,.w J0),(31,.w (W 0))] M=some (.exit 0,[(32,.w (Bo false)),(0,.w J0),(4,.w (Pt 2)),(3,.w (Pt 1)),(29,E),(30,.w (W 0)),(31,.w (W 0))],M):=by
   intro E M;rw[zj zHS.eq_1];simp
  rw[zUa zK3 rfl];simp[zIb,juM,zJ3,jC,zh,zi,zf,zG,g,w1,zg,zH,own]
 ·obtain⟨g1,g2⟩:=zNZ hz r len ps hp vs h0 hvl hvo u was now sw hs (was.ego.slo-len) now.ego.shi vs 0 rfl (jA _);rw[zUa zK3 rfl];cases hb:vs.any (alP zs ps sw now.ego.shi (was.ego.slo-len))with
  |true =>
   obtain⟨X,g⟩:=g1 hb;clear g1 g2;simp only[aoE,aoM,jC,zh,zi,zf,zG,zJ1,own,zJZ,jk,jg,ji]at g;simp[zIb,juM,zJ3,h0,jC,zh,zi,zf,zG,zJ1,g,w1,zg,zH,own]
  |false =>
   have g:=g2 hb;clear g1 g2;simp only[aoE,aoM,jC,zh,zi,zf,zG,zJ1,own,zJZ,jk,jg,ji]at g;simp[zIb,juM,zJ3,h0,jC,zh,zi,zf,zG,zJ1,g,w1,zg,zH,own]
def zPp(zs:List Zon)(z:Int):Int:=((zs[z.toNat]?).map Zon.qI).getD 0
def zPX(zs:List Zon)(z e:Int):Int:=(((zMh zs z)[e.toNat]?).map Prt.lane).getD 0
def zP0(zs:List Zon)(ss:List Sgn)(v:Vis)(tick:Int):Bool:=zfA (ss.getD (zPp zs v.kO-1).toNat ztn) (zPX zs v.kO v.entry) tick
def zP1(zs:List Zon)(shi slo:Int)(v:Vis):Bool:=decide (0<zPp zs v.kO)&&decide (v.first.lo<=shi)&&decide (slo<v.first.lo)
def zNj(zs:List Zon)(ss:List Sgn)(shi slo tick:Int)(v:Vis):Bool:=zP1 zs shi slo v && !zP0 zs ss v tick
abbrev awM(m:zD)(r:List Int)(len:Int)(ps:List Pss)(vs:List Vis)(u:Nat)(was now:zci)(sw:List Swp):Mem:=[bxv u 26 (jC m r len ps (.slice 1 vs.length 10 0 vs.length none) (zG was) (zG now) (.jc (zbf sw))),some (own 10 (zKt vs))]
abbrev awE(vs:List Vis)(i:Nat):Env:=[(11,.w (W vs.length)),(10,.w (.c (.slice 1 vs.length 10 0 vs.length none))),(0,.w J0),(12,.w (W i))]
theorem zN0{m:zD}{zs:List Zon}{ss:List Sgn}(hf:zmq m zs ss)(r:List Int)(len:Int)(ps:List Pss)(vs:List Vis)(hv0:vs≠[])(hvl:vs.length<=100)(hvo:∀v∈vs,zKN zs v)(u:Nat)(was now:zci)(sw:List Swp):∀(t:List Vis) (i:Nat),vs.drop i=t->i<=vs.length ->
  (t.any (zNj zs ss now.ego.shi was.ego.slo was.tick)=true->∃X Z,Y L Cs zHL (some [11,10,0,12]) 2 (awE vs i) (awM m r len ps vs u was now sw)=some (.ret,[(2,.w (W 6))],awM m r len ps vs u was now sw++[bxv 1 10 (zJ1 X),bxv 1 2 (zdP Z)])) /\
  (t.any (zNj zs ss now.ego.shi was.ego.slo was.tick)=false->Y L Cs zHL (some [11,10,0,12]) 2 (awE vs i) (awM m r len ps vs u was now sw)=some (.exit 0,[(13,.w (Bo false)),(0,.w J0),(10,.w (.c (.slice 1 vs.length 10 0 vs.length none))),(11,.w (W vs.length)),(12,.w (W vs.length))],awM m r len ps vs u was now sw)):=by
 have hz:=hf.zd.z;have hsg:=hf.zd.s;intro t;induction t with
 |nil =>
  intro i hd hi;obtain rfl:=zUb hd hi;refine⟨fun h=>(by cases h),fun _=>?_⟩;rw[zj zHL.eq_1];simp[awE,awM]
 |cons v t ih =>
  intro i hd hi;obtain⟨hil,hx,hd'⟩:=zL hd;have hw:=zB (i:=i) (by omega);obtain⟨i1,i2⟩:=ih (i+1) hd' hil;have hv:=hvo v (by rw[<-hx];exact jf hil);obtain⟨z,hzz⟩:=jv hv.z.1;have hzl:z<zs.length:=by have:=hv.z.2;omega
  have hzi:(z:Int)<zs.length:=by omega
  have hzp:zMh zs v.kO=zs[z].parts:=by rw[hzz];simp[zMh,hzl]
  have hzg:zPp zs v.kO=zs[z].qI:=by rw[hzz];simp[zPp,hzl]
  have hen:=hv.en;rw[hzp]at hen;obtain⟨e,he⟩:=jv hen.1;have hel:e<zs[z].parts.length:=by omega
  have hei:(e:Int)<zs[z].parts.length:=by omega
  have hpl:zPX zs v.kO v.entry=zs[z].parts[e].lane:=by unfold zPX;rw[hzp,he];simp[hel]
  have hsig:=hf.zd.sig zs[z] (jf hzl);have hsf:=hf.zd.sfew;have step:zNj zs ss now.ego.shi was.ego.slo was.tick v=false->Y L Cs zHL (some [11,10,0,12]) 2 (awE vs i) (awM m r len ps vs u was now sw)=Y L Cs zHL (some [11,10,0,12]) 2 (awE vs (i+1)) (awM m r len ps vs u was now sw):=by
   intro hff;clear i1 i2 ih;unfold zNj zP1 zP0 at hff;rw[hzg,hpl]at hff;rw[zj zHL.eq_1];by_cases c1:0<zs[z].qI
   ·by_cases c2:v.first.lo<=now.ego.shi
    ·by_cases c3:was.ego.slo<v.first.lo
     ·obtain⟨j,hj⟩:∃j:Nat,zs[z].qI=j+1:=⟨(zs[z].qI-1).toNat,by omega⟩;have hjl:j<ss.length:=by omega
      have hji:(j:Int)<ss.length:=by omega
      have wj:IntKind.i64.wrap (zs[z].qI-1)=j:=by rw[hj];rw[zTd _ (by omega) (by omega)];omega
      have hgd:ss.getD (zs[z].qI-1).toNat ztn=ss[j]:=by
       rw[show(zs[z].qI-1).toNat=j by omega];simp[jo,hjl]
      have hG:=zAP ss[j] zs[z].parts[e].lane was.tick (hf.zd.ph _ (jf hjl));rw[hgd]at hff;have hg:zfA ss[j] zs[z].parts[e].lane was.tick=true:=by simpa [c1,c2,c3]using hff
      rw[hg]at hG;simp only[zeq]at hG;simp[awE,awM,jC,zh,zi,zf,zG,zJ1,zdP,zeB,zeq,hz,hsg,hzz,hzl,hzi,he,hel,hei,hil,hx,hw,c1,c2,c3,wj,hjl,hji,hG,zg,zH,own]
     ·simp[awE,awM,jC,zh,zi,zf,zG,zJ1,zdP,zeB,hz,hzz,hzl,hzi,hil,hx,hw,c1,c2,c3,zg,zH,own]
    ·simp[awE,awM,jC,zh,zi,zf,zG,zJ1,zdP,zeB,hz,hzz,hzl,hzi,hil,hx,hw,c1,c2,zg,zH,own]
   ·simp[awE,awM,jC,zh,zi,zf,zG,zJ1,zdP,zeB,hz,hzz,hzl,hzi,hil,hx,hw,c1,zg,zH,own]
  have hit:zNj zs ss now.ego.shi was.ego.slo was.tick v=true->Y L Cs zHL (some [11,10,0,12]) 2 (awE vs i) (awM m r len ps vs u was now sw)=some (.ret,[(2,.w (W 6))],awM m r len ps vs u was now sw++[bxv 1 10 (zJ1 v),bxv 1 2 (zdP zs[z])]):=by
   intro hff;clear i1 i2 ih step;unfold zNj zP1 zP0 at hff;rw[hzg,hpl]at hff;simp only[jh,decide_eq_true_eq,kE]at hff;obtain⟨⟨⟨c1,c2⟩,c3⟩,c4⟩:=hff;obtain⟨j,hj⟩:∃j:Nat,zs[z].qI=j+1:=⟨(zs[z].qI-1).toNat,by omega⟩;have hjl:j<ss.length:=by omega
   have hji:(j:Int)<ss.length:=by omega
   have wj:IntKind.i64.wrap (zs[z].qI-1)=j:=by rw[hj];rw[zTd _ (by omega) (by omega)];omega
   have hgd:ss.getD (zs[z].qI-1).toNat ztn=ss[j]:=by
    rw[show(zs[z].qI-1).toNat=j by omega];simp[jo,hjl]
   have hG:=zAP ss[j] zs[z].parts[e].lane was.tick (hf.zd.ph _ (jf hjl));rw[hgd]at c4;rw[c4]at hG;simp only[zeq]at hG;rw[zj zHL.eq_1];simp[awE,awM,jC,zh,zi,zf,zG,zJ1,zdP,zeB,zeq,hz,hsg,hzz,hzl,hzi,he,hel,hei,hil,hx,hw,c1,c2,c3,wj,hjl,hji,hG,zg,zH,own]
  rw[yg];cases hb:zNj zs ss now.ego.shi was.ego.slo was.tick v with
  |true=>exact⟨fun _=>⟨v,_,hit hb⟩,fun h=>by simp at h⟩
  |false =>
   rw[step hb,uk];exact⟨i1,i2⟩
def zMH(zs:List Zon)(ss:List Sgn)(vs:List Vis)(was now:zci):Int:=if vs.any (zNj zs ss now.ego.shi was.ego.slo was.tick) then 6 else 0
theorem zNd{m:zD}{zs:List Zon}{ss:List Sgn}(hf:zmq m zs ss)(r:List Int)(len:Int)(ps:List Pss)(vs:List Vis)(hvl:vs.length<=100)(hvo:∀v∈vs,zKN zs v)(u:Nat)(was now:zci)(sw:List Swp) :
  R L Cs zJ7 [J0] (juM m r len ps vs u was now sw)=some (.w (W (zMH zs ss vs was now)),juM m r len ps vs u was now sw):=by
 unfold zMH;by_cases h0:vs=[]
 ·subst h0;have g:∀E M,Y L Cs zHL (some [11,10,0,12]) 1 [(11,.w (W 0)),(10,E),(0,.w J0),(12,.w (W 0))] M=some (.exit 0,[(13,.w (Bo false)),(0,.w J0),(10,E),(11,.w (W 0)),(12,.w (W 0))],M):=by
   intro E M;rw[zj zHL.eq_1];simp
  rw[zUa zKJ rfl];simp[zHY,juM,zJ3,jC,zh,zi,zf,zG,g,zg,zH,own]
 ·obtain⟨g1,g2⟩:=zN0 hf r len ps vs h0 hvl hvo u was now sw vs 0 rfl (jA _);rw[zUa zKJ rfl];cases hb:vs.any (zNj zs ss now.ego.shi was.ego.slo was.tick)with
  |true =>
   obtain⟨X,Z,g⟩:=g1 hb;clear g1 g2;simp only[awE,awM,jC,zh,zi,zf,zG,zJ1,zdP,own,zJZ,jk,jg,ji]at g;simp[zHY,juM,zJ3,h0,jC,zh,zi,zf,zG,zJ1,zdP,g,zg,zH,own]
  |false =>
   have g:=g2 hb;clear g1 g2;simp only[awE,awM,jC,zh,zi,zf,zG,zJ1,zdP,own,zJZ,jk,jg,ji]at g;simp[zHY,juM,zJ3,h0,jC,zh,zi,zf,zG,zJ1,zdP,g,zg,zH,own]
def zKq(NW:List Cl)(SW:Cl):Prop:=(NW=zox/\SW=.jd)\/∃k x,NW=zG k/\SW=.jc x
def zJY(ok:Bool)(at' why:Int):List Cl:=[.bool ok,I at',I why]
abbrev ghJ(q:Nat)(s:Int)(v:Nat):Option Blk:=some { box:=true,esz:=4,rows:=[[I s,.ptr 1 0 0 0,.ptr q 0 0 0,.ptr (q+1) 0 0 0]],gen:=0,fz:=false,ver:=v }
abbrev zOE:Option Blk:=some { box:=true,esz:=1,rows:=[[.fn zJ6 [.ptr 2 0 0 0] []],[.fn zKc [.ptr 2 0 0 0] []],[.fn zJ9 [.ptr 2 0 0 0] []],[.fn zKa [.ptr 2 0 0 0] []],[.fn zJ7 [.ptr 2 0 0 0] []]],gen:=5,fz:=false,ver:=5 }
def zKs:List Int->Int
 |[]=>0
 |a::l=>if a=0 then zKs l else a
abbrev zTv:List Nat:=[zJ6,zKc,zJ9,zKa,zJ7]
abbrev rdA(m:zD)(r:List Int)(len:Int)(ps:List Pss)(vs:List Vis)(s:Int)(gv u:Nat)(was:zci)(NW:List Cl)(SW:Cl)(w:Nat)(n:Int)(fv:Nat)(F:List Cl):Mem:=[ghJ 4 s gv,bx 1 [.ptr 2 0 0 0],bxv u 26 (jC m r len ps (.slice 3 vs.length 10 0 vs.length none) (zG was) NW SW),some (own 10 (zKt vs)),bxv w 1 [I n],bxv fv 3 F]
abbrev rdB(m:zD)(r:List Int)(len:Int)(ps:List Pss)(vs:List Vis)(s:Int)(gv u:Nat)(was:zci)(NW:List Cl)(SW:Cl)(w:Nat)(n:Int)(fv:Nat)(F:List Cl):Mem:=[ghJ 3 s gv,bx 1 [.ptr 2 0 0 0],bxv u 26 (jC m r len ps .jd (zG was) NW SW),bxv w 1 [I n],bxv fv 3 F]
abbrev rdG(qq:Nat)(m:zD)(r:List Int)(len:Int)(ps:List Pss)(vs:List Vis)(s:Int)(gv u:Nat)(was:zci)(NW:List Cl)(SW:Cl)(w:Nat)(n:Int)(fv:Nat)(F:List Cl):Mem:=if qq=0 then rdB m r len ps vs s gv u was NW SW w n fv F else rdA m r len ps vs s gv u was NW SW w n fv F
theorem zVW{α:Sort _}{qq:Nat}{vs:List Vis}(h:qq=0/\vs=[]\/qq=1/\vs≠[])(a b:α):(if vs=[] then a else b)=if qq=0 then a else b:=by
 rcases h with⟨rfl,h⟩ |⟨rfl,h⟩
 ·rw[if_pos h,if_pos rfl]
 ·rw[if_neg h,if_neg (by decide)]
abbrev aMG(qq:Nat)(m:zD)(r:List Int)(len:Int)(ps:List Pss)(vs:List Vis)(gv u:Nat)(was now:zci)(sw:List Swp)(w:Nat)(n:Int)(fv:Nat)(F:List Cl):Mem:=rdG qq m r len ps vs 1 gv u was (zG now) (.jc (zbf sw)) w n fv F++[bxv 1 6 (zG now),zOE]
abbrev aEG(qq:Nat)(i:Nat):Env:=[(47,.w (W 5)),(10,.w (Pt (qq+5))),(4,.w (Pt 1)),(46,.w (.c (.slice (qq+6) 5 1 0 5 none))),(48,.w (W i)),(9,.w (Pt (qq+3))),(8,.w (Pt (qq+4)))]
theorem zV4(i j:Nat)(hi:i<5)(hj:j=i+1)(m:zD)(r:List Int)(len:Int)(ps:List Pss)(vs:List Vis)(qq:Nat)(hq0:qq=0/\vs=[]\/qq=1/\vs≠[])(gv u:Nat)(was now:zci)(sw:List Swp)(w:Nat)(n:Int)(a:Int)
  (hR:R L Cs (zTv.getD i 0) [J0] (juM m r len ps vs u was now sw)=some (.w (W a),juM m r len ps vs u was now sw)) :
  Y L Cs zHE (some [47,10,4,46,48,9,8]) (qq+7) (aEG qq i) (aMG qq m r len ps vs gv u was now sw w n 0 (zJY false 0 0)) =
    if a=0 then Y L Cs zHE (some [47,10,4,46,48,9,8]) (qq+7) (aEG qq j) (aMG qq m r len ps vs gv u was now sw w n 0 (zJY false 0 0)) else some (.ret,[],aMG qq m r len ps vs gv u was now sw w n 1 (zJY false n a)):=by
 subst hj;have cb:¬a=0->(a==0)=false/\(a !=0)=true:=fun c=>by simp[c]
 simp only[zTv,juM,zJ3,zVW hq0,jC,zh,zi,zf,zG,own,zJZ,jk,jg]at hR;rw[zj zHE.eq_1];have hw:∀x:Int,0<=x->x<=9->IntKind.i64.wrap x=x:=fun x _ _=>kr x
 match i,hi with
 |0,_ |1,_ |2,_ |3,_ |4,_ =>
  simp only[qV,List.getD_cons_succ]at hR;by_cases c:a=0
  ·rw[if_pos c];subst c;rcases hq0 with⟨rfl,-⟩ |⟨rfl,-⟩<;>simp only[jM,↓reduceIte,jG,Nat.reduceAdd]at hR<;>simp (maxSteps:=1000000) [aEG,aMG,rdG,rdA,rdB,jC,zh,zi,zf,zG,zJY,own,hw,hR,zg,zH]
  ·rw[if_neg c];rcases hq0 with⟨rfl,-⟩ |⟨rfl,-⟩<;>simp only[jM,↓reduceIte,jG,Nat.reduceAdd]at hR<;>simp (maxSteps:=1000000) [aEG,aMG,rdG,rdA,rdB,jC,zh,zi,zf,zG,zJY,own,hw,hR,c,(cb c).1,(cb c).2,zg,zH]
theorem zV3(m:zD)(r:List Int)(len:Int)(ps:List Pss)(vs:List Vis)(qq:Nat)(hq0:qq=0/\vs=[]\/qq=1/\vs≠[])(gv u:Nat)(was now:zci)(sw:List Swp)(w:Nat)(n:Int) :
  Y L Cs zHE (some [47,10,4,46,48,9,8]) (qq+7) (aEG qq 5) (aMG qq m r len ps vs gv u was now sw w n 0 (zJY false 0 0))=some (.exit 2,[(49,.w (Bo false)),(46,.w (.c (.slice (qq+6) 5 1 0 5 none))),(4,.w (Pt 1)),(10,.w (Pt (qq+5))),(47,.w (W 5)),(48,.w (W 5)),(9,.w (Pt (qq+3))),(8,.w (Pt (qq+4)))],aMG qq m r len ps vs gv u was now sw w n 0 (zJY false 0 0)):=by
 rw[zj zHE.eq_1];rcases hq0 with⟨rfl,-⟩ |⟨rfl,-⟩<;>simp[aEG,aMG,rdG,rdA,rdB]
theorem zVZ(m:zD)(r:List Int)(len:Int)(ps:List Pss)(vs:List Vis)(qq:Nat)(hq0:qq=0/\vs=[]\/qq=1/\vs≠[])(gv u:Nat)(was now:zci)(sw:List Swp)(w:Nat)(n:Int)(a b c d e:Int)
  (hA:R L Cs zJ6 [J0] (juM m r len ps vs u was now sw)=some (.w (W a),juM m r len ps vs u was now sw))
  (hB:a=0->R L Cs zKc [J0] (juM m r len ps vs u was now sw)=some (.w (W b),juM m r len ps vs u was now sw))
  (hC:R L Cs zJ9 [J0] (juM m r len ps vs u was now sw)=some (.w (W c),juM m r len ps vs u was now sw))
  (hD:R L Cs zKa [J0] (juM m r len ps vs u was now sw)=some (.w (W d),juM m r len ps vs u was now sw))
  (hE:R L Cs zJ7 [J0] (juM m r len ps vs u was now sw)=some (.w (W e),juM m r len ps vs u was now sw)) :
  Y L Cs zHE (some [47,10,4,46,48,9,8]) (qq+7) (aEG qq 0) (aMG qq m r len ps vs gv u was now sw w n 0 (zJY false 0 0)) =
    some (if zKs [a,b,c,d,e]=0 then(.exit 2,[(49,.w (Bo false)),(46,.w (.c (.slice (qq+6) 5 1 0 5 none))),(4,.w (Pt 1)),(10,.w (Pt (qq+5))),(47,.w (W 5)),(48,.w (W 5)),(9,.w (Pt (qq+3))),(8,.w (Pt (qq+4)))],aMG qq m r len ps vs gv u was now sw w n 0 (zJY false 0 0)) else(.ret,[],aMG qq m r len ps vs gv u was now sw w n 1 (zJY false n (zKs [a,b,c,d,e])))):=by
 rw[zV4 0 1 (by decide) rfl m r len ps vs qq hq0 gv u was now sw w n a hA];by_cases c0:a=0
 ·rw[if_pos c0,zV4 1 2 (by decide) rfl m r len ps vs qq hq0 gv u was now sw w n b (hB c0)];by_cases c1:b=0
  ·rw[if_pos c1,zV4 2 3 (by decide) rfl m r len ps vs qq hq0 gv u was now sw w n c hC];by_cases c2:c=0
   ·rw[if_pos c2,zV4 3 4 (by decide) rfl m r len ps vs qq hq0 gv u was now sw w n d hD];by_cases c3:d=0
    ·rw[if_pos c3,zV4 4 5 (by decide) rfl m r len ps vs qq hq0 gv u was now sw w n e hE];by_cases c4:e=0
     ·rw[if_pos c4,zV3 m r len ps vs qq hq0 gv u was now sw w n];simp only[zKs,c0,c1,c2,c3,c4,if_true]
     ·rw[if_neg c4];simp only[zKs,c0,c1,c2,c3,c4,if_true,if_false]
    ·rw[if_neg c3];simp only[zKs,c0,c1,c2,c3,if_true,if_false]
   ·rw[if_neg c2];simp only[zKs,c0,c1,c2,if_true,if_false]
  ·rw[if_neg c1];simp only[zKs,c0,c1,if_true,if_false]
 ·rw[if_neg c0];simp only[zKs,c0,if_false]
abbrev rsh:List (Nat×Bool×Nat):=[(4,false,1),(9,false,1),(8,false,1)]
theorem zVY(m:zD)(r:List Int)(len:Int)(ps:List Pss)(vs:List Vis)(qq:Nat)(hq0:qq=0/\vs=[]\/qq=1/\vs≠[])(gv u:Nat)(was:zci)(NW:List Cl)(now:zci)(SW:Cl)(hSW:zKq NW SW)(sw:List Swp)(w:Nat)(n:Int) :
  X L Cs (sQ (rG 1 [o1 0 10 (.box 0 6 (.k (.a [(I 0),.jd,(I 0),(I 0),(I 0),(I 0)]))),o0 1 (.store 6 (.s 10) (.s 24))] [25,10,4,9,8]) (rG 0 [mS 0 11 25] [11,10,4,9,8])) (zv3 [24,25] [.a (zG now),.c (.jc (zbf sw))]++[(4,.w (Pt 1)),(9,.w (Pt (qq+3))),(8,.w (Pt (qq+4)))]) (rdG qq m r len ps vs 0 gv u was NW SW w n 0 (zJY false 0 0)) =
    some (.normal,[(11,.w (.c (.jc (zbf sw)))),(10,.w (Pt (qq+5))),(4,.w (Pt 1)),(9,.w (Pt (qq+3))),(8,.w (Pt (qq+4)))],rdG qq m r len ps vs 0 gv u was NW SW w n 0 (zJY false 0 0)++[bxv 1 6 (zG now)]):=by
 rcases hq0 with⟨rfl,-⟩ |⟨rfl,-⟩<;>rcases hSW with⟨rfl,rfl⟩ |⟨k0,x,rfl,rfl⟩<;>simp[zv3,rdG,rdA,rdB,jC,zox,zh,zi,zf,zG,zJY,own,zg,zH]
theorem zV7(m:zD)(r:List Int)(len:Int)(ps:List Pss)(vs:List Vis)(qq:Nat)(hq0:qq=0/\vs=[]\/qq=1/\vs≠[])(gv u:Nat)(was:zci)(NW:List Cl)(now:zci)(SW:Cl)(hSW:zKq NW SW)(sw:List Swp)(w n:Nat)(hn:n<1000)(why:Int)
  (g:Y L Cs zHE (some [47,10,4,46,48,9,8]) (qq+7) (aEG qq 0) (aMG qq m r len ps vs gv (u+1+1) was now sw (w+1) (n+1) 0 (zJY false 0 0)) =
   some (if why=0 then(.exit 2,[(49,.w (Bo false)),(46,.w (.c (.slice (qq+6) 5 1 0 5 none))),(4,.w (Pt 1)),(10,.w (Pt (qq+5))),(47,.w (W 5)),(48,.w (W 5)),(9,.w (Pt (qq+3))),(8,.w (Pt (qq+4)))],aMG qq m r len ps vs gv (u+1+1) was now sw (w+1) (n+1) 0 (zJY false 0 0)) else(.ret,[],aMG qq m r len ps vs gv (u+1+1) was now sw (w+1) (n+1) 1 (zJY false (n+1) why)))) :
  ∃E,X L Cs zHO.code [(11,.w (.c (.jc (zbf sw)))),(10,.w (Pt (qq+5))),(4,.w (Pt 1)),(9,.w (Pt (qq+3))),(8,.w (Pt (qq+4)))] (rdG qq m r len ps vs 1 gv u was NW SW w n 0 (zJY false 0 0)++[bxv 1 6 (zG now)]) =
   some (if why=0 then(.normal,E,aMG qq m r len ps vs gv (u+1+1+1) now now sw (w+1) (n+1) 0 (zJY false 0 0)) else(.ret,[],aMG qq m r len ps vs gv (u+1+1) was now sw (w+1) (n+1) 1 (zJY false (n+1) why))):=by
 have hw:=zB (i:=n) (by omega);have n0:((0:Nat):Int)=0:=rfl;refine⟨[],?_⟩;by_cases c:why=0
 ·rw[if_pos c];rw[if_pos c]at g;rcases hq0 with⟨rfl,-⟩ |⟨rfl,-⟩<;>simp only[jM,↓reduceIte,jG,Nat.reduceAdd,aEG,aMG,rdG,rdA,rdB,jC,zh,zi,zf,zG,zJY,own,zJZ,jk,jg,n0]at g<;>rcases hSW with⟨rfl,rfl⟩ |⟨k0,x,rfl,rfl⟩<;>simp (maxSteps:=1000000) [zHO,aEG,aMG,rdG,rdA,rdB,jC,zox,zh,zi,zf,zG,zJY,own,zg,zH,zi2,okW,hw,g]
 ·rw[if_neg c];rw[if_neg c]at g;rcases hq0 with⟨rfl,-⟩ |⟨rfl,-⟩<;>simp only[jM,↓reduceIte,jG,Nat.reduceAdd,aEG,aMG,rdG,rdA,rdB,jC,zh,zi,zf,zG,zJY,own,zJZ,jk,jg,n0]at g<;>rcases hSW with⟨rfl,rfl⟩ |⟨k0,x,rfl,rfl⟩<;>simp (maxSteps:=1000000) [zHO,aEG,aMG,rdG,rdA,rdB,jC,zox,zh,zi,zf,zG,zJY,own,zg,zH,zi2,okW,hw,g]
theorem zV5(m:zD)(r:List Int)(len:Int)(ps:List Pss)(vs:List Vis)(qq:Nat)(hq0:qq=0/\vs=[]\/qq=1/\vs≠[])(gv u:Nat)(was:zci)(NW:List Cl)(now:zci)(SW:Cl)(hSW:zKq NW SW)(sw:List Swp)(w n:Nat)(hn:n<1000)(why:Int)
  (g:Y L Cs zHE (some [47,10,4,46,48,9,8]) (qq+7) (aEG qq 0) (aMG qq m r len ps vs (gv+1) (u+1+1) was now sw (w+1) (n+1) 0 (zJY false 0 0)) =
   some (if why=0 then(.exit 2,[(49,.w (Bo false)),(46,.w (.c (.slice (qq+6) 5 1 0 5 none))),(4,.w (Pt 1)),(10,.w (Pt (qq+5))),(47,.w (W 5)),(48,.w (W 5)),(9,.w (Pt (qq+3))),(8,.w (Pt (qq+4)))],aMG qq m r len ps vs (gv+1) (u+1+1) was now sw (w+1) (n+1) 0 (zJY false 0 0)) else(.ret,[],aMG qq m r len ps vs (gv+1) (u+1+1) was now sw (w+1) (n+1) 1 (zJY false (n+1) why)))) :
  R L Cs zJ0 [.c (.yld 0 zJ0 rsh),.a (zG now),.c (.jc (zbf sw))] (rdG qq m r len ps vs 0 gv u was NW SW w n 0 (zJY false 0 0)) =
    some (if why=0 then(.w (Bo true),rdG qq m r len ps vs 0 (gv+1+1) (u+1+1+1) now (zG now) (.jc (zbf sw)) (w+1) (n+1) 0 (zJY false 0 0)) else(.w (Bo false),rdG qq m r len ps vs 2 (gv+1+1) (u+1+1) was (zG now) (.jc (zbf sw)) (w+1) (n+1) 1 (zJY false (n+1) why))):=by
 obtain⟨E,hc⟩:=zV7 m r len ps vs qq hq0 (gv+1) u was NW now SW hSW sw w n hn why g;have hp:=zVY m r len ps vs qq hq0 gv u was NW now SW hSW sw w n;by_cases c:why=0
 ·rw[if_pos c]at hc ⊢;exact zOg (cells:=[.ptr 1 0 0 0,.ptr (qq+3) 0 0 0,.ptr (qq+4) 0 0 0]) (M2:=rdG qq m r len ps vs 1 (gv+1) u was NW SW w n 0 (zJY false 0 0)++[bxv 1 6 (zG now)]) (M4:=rdG qq m r len ps vs 0 (gv+1+1) (u+1+1+1) now (zG now) (.jc (zbf sw)) (w+1) (n+1) 0 (zJY false 0 0)++[bxv 1 6 (zG now),zOE]) zKg rfl rfl (by rcases hq0 with⟨rfl,-⟩ |⟨rfl,-⟩<;>simp[Eng.qu,rdG,rdA,rdB]) (by rcases hq0 with⟨rfl,-⟩ |⟨rfl,-⟩<;>simp[zxb,rdG,rdA,rdB]) (by rcases hq0 with⟨rfl,-⟩ |⟨rfl,-⟩<;>rfl) hp (by rcases hq0 with⟨rfl,-⟩ |⟨rfl,-⟩<;>simp[zsR,rdG,rdA,rdB]) hc (by rcases hq0 with⟨rfl,-⟩ |⟨rfl,-⟩<;>simp[zsR,zxZ,rdG,rdA,rdB,aMG]) (by rcases hq0 with⟨rfl,-⟩ |⟨rfl,-⟩<;>simp[finish,zH,rdG,rdA,rdB,jC,zh,zi,zf,zG,zJY,own])
 ·rw[if_neg c]at hc ⊢;exact zOg (cells:=[.ptr 1 0 0 0,.ptr (qq+3) 0 0 0,.ptr (qq+4) 0 0 0]) (M2:=rdG qq m r len ps vs 1 (gv+1) u was NW SW w n 0 (zJY false 0 0)++[bxv 1 6 (zG now)]) (M4:=rdG qq m r len ps vs 2 (gv+1+1) (u+1+1) was (zG now) (.jc (zbf sw)) (w+1) (n+1) 1 (zJY false (n+1) why)++[bxv 1 6 (zG now),zOE]) zKg rfl rfl (by rcases hq0 with⟨rfl,-⟩ |⟨rfl,-⟩<;>simp[Eng.qu,rdG,rdA,rdB]) (by rcases hq0 with⟨rfl,-⟩ |⟨rfl,-⟩<;>simp[zxb,rdG,rdA,rdB]) (by rcases hq0 with⟨rfl,-⟩ |⟨rfl,-⟩<;>rfl) hp (by rcases hq0 with⟨rfl,-⟩ |⟨rfl,-⟩<;>simp[zsR,rdG,rdA,rdB]) hc (by rcases hq0 with⟨rfl,-⟩ |⟨rfl,-⟩<;>simp[zsR,zxZ,rdG,rdA,rdB,aMG]) (by rcases hq0 with⟨rfl,-⟩ |⟨rfl,-⟩<;>simp[finish,zH,rdG,rdA,rdB,jC,zh,zi,zf,zG,zJY,own])
theorem zOm{m:zD}{zs:List Zon}{ss:List Sgn}(hf:zmq m zs ss)(r:List Int)(len:Int)(k:zci)(e:Ego)(signals:Bool)(hvb:∀b∈k.jQ,VB m b):∀s∈zfV m zs ss r len k e signals,zPI m s:=by
 have h:=hf.qW;intro s hs;unfold zfV zhM at hs;obtain⟨b,hb,hx⟩:=kh.1 hs;obtain⟨z,hz,rfl⟩:=ke.1 hx;have hv:=ztK k.ego len r k.jQ hvb b hb;have hbd:=zwE h zs ss k signals hv;unfold zn0 at hz;split at hz
 ·have ho:=zBF h r (zfx len e) e.slo (mvF m zs ss k signals b) (by rw[hbd.1];exact hv.lane) _ _ _ z hz;have h1:=zcX h ho.on;have h2:=ho.lo;have h3:=ho.le;have h4:=ho.hi;exact⟨ho.on,by show 0<=z.1.lo/\z.1.lo<=1000000;omega,by show 0<=z.1.hi/\z.1.hi<=1000000;omega⟩
 ·cases hz
theorem zOa{m:zD}{zs:List Zon}{ss:List Sgn}(hf:zmq m zs ss)(r:List Int)(len:Int)(signals:Bool){k:zci}(hk:KJ m k)(a:Int):∀s∈zKu m zs ss r len signals k a,zPI m s:=fun s hs =>
 zOm hf r len k _ signals hk.vb s (zO4 ((zrs _ _).1 hs))
def zMi(m:zD)(zs:List Zon)(ss:List Sgn)(r:List Int)(len:Int)(ps:List Pss)(vs:List Vis)(was now:zci)(sw:List Swp):Int :=
 zKs [onW m r now,zMt m r now,zMF m r now sw,zMG zs len ps vs was now sw,zMH zs ss vs was now]
def zKr(m:zD)(zs:List Zon)(ss:List Sgn)(r:List Int)(len:Int)(ps:List Pss)(vs:List Vis)(signals:Bool):List Int->Nat->zci->Option (Nat×Int)×zci
 |[],n,k=>(none,k)
 |a::t,n,k=>if zMi m zs ss r len ps vs k (zEt m zs ss r len signals k a) (zKu m zs ss r len signals k a)=0 then zKr m zs ss r len ps vs signals t (n+1) (zEt m zs ss r len signals k a) else(some (n+1,zMi m zs ss r len ps vs k (zEt m zs ss r len signals k a) (zKu m zs ss r len signals k a)),k)
theorem zNe{m:zD}{zs:List Zon}{ss:List Sgn}{r:List Int}{len:Int}{ps:List Pss}{vs:List Vis}{was now:zci}{sw:List Swp}(h:zMi m zs ss r len ps vs was now sw=0):now.ego.shi<=zmd m 0 r:=by
 have ho:onW m r now=0:=by
  unfold zMi at h;rw[zKs]at h;by_cases c:onW m r now=0
  ·exact c
  ·rw[if_neg c]at h;exact absurd h c
 unfold onW at ho;split at ho
 ·cases ho
 ·omega
def AN(m:zD)(r:List Int)(tick:Int)(e:Ego)(a:Int):Prop:=1099511627776<=tick\/1099511627776<(zaN m r e a).shi
instance(m:zD)(r:List Int)(tick:Int)(e:Ego)(a:Int):Decidable (AN m r tick e a):=by unfold AN;infer_instance
def fbF(m:zD)(r:List Int):List Int->Int->Ego->Option Nat
 |[],_,_=>none
 |a::t,tk,e=>if AN m r tk e a then some 0 else if zmd m 0 r<(zaN m r e a).shi then none else(fbF m r t (tk+1) (zaN m r e a)).map (· + 1)
theorem zO8(m:zD)(r:List Int):∀(t:List Int) (tk:Int) (e:Ego) (b:Nat),fbF m r t tk e=some b->b<t.length
 |[],_,_,_,h=>by cases h
 |a::t,tk,e,b,h=>by
  unfold fbF at h;split at h
  ·cases h;simp
  ·split at h
   ·cases h
   ·rw[ja]at h;obtain⟨b',h1,rfl⟩:=h;have:=zO8 m r t _ _ _ h1;simp;omega
theorem zLX(m:zD)(r:List Int):∀(t:List Int) (tk:Int) (e:Ego) (n:Nat),fbF m r (t.take n) tk e=(fbF m r t tk e).bind fun b=>if b<n then some b else none
 |[],_,_,n=>by simp[fbF]
 |a::t,tk,e,0=>by
  rw[List.take_zero,show fbF m r [] tk e=none from rfl];cases fbF m r (a::t) tk e<;>simp
 |a::t,tk,e,n+1=>by
  rw[List.take_succ_cons];unfold fbF;split
  ·simp
  ·split
   ·rfl
   ·rw[zLX m r t _ _ n];cases fbF m r t (tk+1) (zaN m r e a)with
    |none=>rfl
    |some b =>
     by_cases h:b<n
     ·simp[h]
     ·simp[h]
def zKX(x:Bool×Int×Int):Option Nat->Bool×Int×Int
 |none=>x
 |some b=>if 0<x.2.1/\x.2.1<=b/\x.2.2≠7 then x else(false,0,1)
def zOP(NW:List Cl)(SW:Cl):Prop:=∃k x,NW=zG k/\SW=.jc x
theorem zVX{m:zD}{zs:List Zon}{ss:List Sgn}(hF:zKj m zs ss){r:List Int}(hr:zdA m r=0)(len:Int)(hlen:0<=len/\len<=20000)(ps:List Pss)(hp:ps.length<=1000)(vs:List Vis)(qq:Nat)(hq0:qq=0/\vs=[]\/qq=1/\vs≠[])(hvl:vs.length<=100)(hvo:∀v∈vs,zKN zs v)(signals:Bool)(gv u w n:Nat)(hn:n<1000)(k:zci)(NW:List Cl)(SW:Cl)(hSW:zKq NW SW)(hk:KJ m k)(a:Int) :
  R L Cs zJ0 [.c (.yld 0 zJ0 rsh),.a (zG (zEt m zs ss r len signals k a)),.c (.jc (zbf (zKu m zs ss r len signals k a)))] (rdG qq m r len ps vs 0 gv u k NW SW w n 0 (zJY false 0 0)) =
    some (if zMi m zs ss r len ps vs k (zEt m zs ss r len signals k a) (zKu m zs ss r len signals k a)=0 then(.w (Bo true),rdG qq m r len ps vs 0 (gv+1+1) (u+1+1+1) (zEt m zs ss r len signals k a) (zG (zEt m zs ss r len signals k a)) (.jc (zbf (zKu m zs ss r len signals k a))) (w+1) (n+1) 0 (zJY false 0 0))
     else(.w (Bo false),rdG qq m r len ps vs 2 (gv+1+1) (u+1+1) k (zG (zEt m zs ss r len signals k a)) (.jc (zbf (zKu m zs ss r len signals k a))) (w+1) (n+1) 1 (zJY false (n+1) (zMi m zs ss r len ps vs k (zEt m zs ss r len signals k a) (zKu m zs ss r len signals k a))))):=by
 have hf:=hF.full;have h:=hf.qW;obtain⟨hon,hne,hl8⟩:=zg1 h hr;have hsl:=zNq (zs:=zs) (ss:=ss) hf hr len signals hk a;have hso:=zOa (zs:=zs) (ss:=ss) hf r len signals hk a;have hd:=zLs h hr hk.ego a;have hes:=hk.ego.s;have hE:=zFu h r hl8 hon;have he1:(zEt m zs ss r len signals k a).ego=zaN m r k.ego a:=rfl;rw[<-he1]at hd;generalize zEt m zs ss r len signals k a=nx at *;generalize zKu m zs ss r len signals k a=sw at *;have e1:=zNc m r len ps vs (u+1+1) k nx sw;have e2:=fun(h0':onW m r nx=0)=>zPf h hF.kx r (by omega) hon len ps vs (u+1+1) k nx (by
   have:nx.ego.shi<=zmd m 0 r:=by
    unfold onW at h0';split at h0'
    ·cases h0'
    ·omega
   omega) sw
 have e3:=zOh h r hl8 hon len ps vs (u+1+1) k nx sw hsl hso;have e4:=zOi hf.zd.z r len (by omega) ps hp vs hvl hvo (u+1+1) k nx (by omega) sw hsl;have e5:=zNd hf r len ps vs hvl hvo (u+1+1) k nx sw;exact zV5 m r len ps vs qq hq0 gv u k NW nx SW hSW sw w n hn _ (zVZ m r len ps vs qq hq0 (gv+1) (u+1+1) k nx sw (w+1) ((n:Int)+1) (onW m r nx) (zMt m r nx) (zMF m r nx sw) (zMG zs len ps vs k nx sw) (zMH zs ss vs k nx) e1 e2 e3 e4 e5)
abbrev zVG(qq:Nat)(m:zD)(r:List Int)(len:Int)(ps:List Pss)(vs:List Vis)(s:Int)(gv u:Nat)(was:zci)(NW:List Cl)(SW:Cl)(w:Nat)(n:Int)(fv:Nat)(F:List Cl)(jV:List Int)(kv:Nat)(k:zci)(signals:Bool):Mem:=rdG qq m r len ps vs s gv u was NW SW w n fv F++[bx 1 [.jc (zu jV)],bx 1 [.ptr 2 0 0 0],bxv kv 6 (zG k),bx 1 [.bool signals]]
abbrev zVK(qq:Nat)(jV:List Int)(i:Nat):Env:=[(12,.w (W jV.length)),(11,.w (.c (.jc (zu jV)))),(2,.w (Pt (qq+6))),(4,.w (Pt (qq+8))),(0,.w (.c (.yld 0 zJ0 rsh))),(3,.w (Pt (qq+7))),(13,.w (W i))]
theorem zVU{m:zD}{zs:List Zon}{ss:List Sgn}(hF:zKj m zs ss){r:List Int}(hr:zdA m r=0)(len:Int)(hlen:0<=len/\len<=20000)(ps:List Pss)(hp:ps.length<=1000)(vs:List Vis)(qq:Nat)(hq0:qq=0/\vs=[]\/qq=1/\vs≠[])(hvl:vs.length<=100)(hvo:∀v∈vs,zKN zs v)(signals:Bool)(jV:List Int)(hin:∀a∈jV,zk0 a)(hal:jV.length<=500):∀(t:List Int) (i:Nat) (gv u w:Nat) (k:zci) (NW:List Cl) (SW:Cl) (kv:Nat),jV.drop i=t->i<=jV.length->KJ m k->0<=k.tick/\k.tick<=1099511627776+i->zKq NW SW ->
  match zKr m zs ss r len ps vs signals t i k with
  |(none,kf)=>∃gv' u' w' NW' SW' kv',zKq NW' SW'/\(gv+min 1 t.length<=gv'/\u+min 1 t.length<=u'/\w+min 1 t.length<=w'/\(kv'=kv/\kf=k\/kv<kv')/\(zOP NW' SW'\/t=[]/\NW'=NW/\SW'=SW))/\Y L Cs zHM (some [12,11,2,4,0,3,13]) (qq+9) (zVK qq jV i) (zVG qq m r len ps vs 0 gv u k NW SW w i 0 (zJY false 0 0) jV kv k signals) =
    some (.exit 0,[(14,.w (Bo false)),(3,.w (Pt (qq+7))),(0,.w (.c (.yld 0 zJ0 rsh))),(4,.w (Pt (qq+8))),(2,.w (Pt (qq+6))),(11,.w (.c (.jc (zu jV)))),(12,.w (W jV.length)),(13,.w (W jV.length))],zVG qq m r len ps vs 0 gv' u' kf NW' SW' w' jV.length 0 (zJY false 0 0) jV kv' kf signals)
  |(some (at',why),kf)=>∃gv' u' w' NW' SW' kv' kk X E,zKq NW' SW'/\(gv+min 1 t.length<=gv'/\u+min 1 t.length<=u'/\w+min 1 t.length<=w'/\(kv'=kv/\kk=k\/kv<kv')/\zOP NW' SW')/\Y L Cs zHM (some [12,11,2,4,0,3,13]) (qq+9) (zVK qq jV i) (zVG qq m r len ps vs 0 gv u k NW SW w i 0 (zJY false 0 0) jV kv k signals) =
    some (.ret,E,zVG qq m r len ps vs 2 gv' u' kf NW' SW' w' at' 1 (zJY false at' why) jV kv' kk signals++[bxv 1 6 (zG X)]):=by
 have hf:=hF.full;have h:=hf.qW;obtain⟨hon,hne,hl8⟩:=zg1 h hr;have hEb:=zFu h r hl8 hon;intro t;induction t with
 |nil =>
  intro i gv u w k NW SW kv hd hi hk ht hSW;obtain rfl:=zUb hd hi;refine⟨gv,u,w,NW,SW,kv,hSW,⟨jl _,jl _,jl _,.inl ⟨rfl,rfl⟩,.inr ⟨rfl,rfl,rfl⟩⟩,?_⟩;rw[zj zHM.eq_1];simp[zVK,zVG]
 |cons a t ih =>
  intro i gv u w k NW SW kv hd hi hk ht hSW;obtain⟨hil,ha,hd'⟩:=zL hd;have hw:=zB (i:=i) (by omega);have v1:¬gv+1+1=gv:=by omega
  have v2:¬u+1+1+1=u:=by omega
  have v3:¬u+1+1=u:=by omega
  have v4:¬w+1=w:=by omega
  have hS:=zux hf hr len hlen k (zN7 h hf.yQ hk) (by omega) hk.ego hk.vb a (hin a (by rw[<-ha];exact jf hil)) signals;have hRd:=zVX hF hr len hlen ps hp vs qq hq0 hvl hvo signals gv u w i (by omega) k NW SW hSW hk a;have hKs:=zNm hf hr len signals hk a (zs:=zs) (ss:=ss);have htk:(zEt m zs ss r len signals k a).tick=k.tick+1:=rfl;have hon2:=zNe (m:=m) (zs:=zs) (ss:=ss) (r:=r) (len:=len) (ps:=ps) (vs:=vs) (was:=k) (now:=zEt m zs ss r len signals k a) (sw:=zKu m zs ss r len signals k a);rw[show zpg m zs ss r len k (zaN m r k.ego a) signals=zEt m zs ss r len signals k a from rfl,show zhp (zlg (zfV m zs ss r len k (zaN m r k.ego a) signals))=zKu m zs ss r len signals k a from rfl]at hS;unfold zKr;by_cases c:zMi m zs ss r len ps vs k (zEt m zs ss r len signals k a) (zKu m zs ss r len signals k a)=0
  ·rw[if_pos c];rw[if_pos c]at hRd;have hshi:=hon2 c;have hK:=hKs (by omega);have ih':=ih (i+1) (gv+1+1) (u+1+1+1) (w+1) (zEt m zs ss r len signals k a) (zG (zEt m zs ss r len signals k a)) (.jc (zbf (zKu m zs ss r len signals k a))) (kv+1) hd' hil hK (by rw[htk];omega) (.inr ⟨_,_,rfl,rfl⟩);have step:Y L Cs zHM (some [12,11,2,4,0,3,13]) (qq+9) (zVK qq jV i) (zVG qq m r len ps vs 0 gv u k NW SW w i 0 (zJY false 0 0) jV kv k signals)=Y L Cs zHM (some [12,11,2,4,0,3,13]) (qq+9) (zVK qq jV (i+1)) (zVG qq m r len ps vs 0 (gv+1+1) (u+1+1+1) (zEt m zs ss r len signals k a) (zG (zEt m zs ss r len signals k a)) (.jc (zbf (zKu m zs ss r len signals k a))) (w+1) ((i+1:Nat):Int) 0 (zJY false 0 0) jV (kv+1) (zEt m zs ss r len signals k a) signals):=by
    clear ih ih' hKs hon2 hK htk hshi;generalize zEt m zs ss r len signals k a=nx at *;generalize zKu m zs ss r len signals k a=sw at *;rw[zj zHM.eq_1];rcases hq0 with⟨rfl,-⟩ |⟨rfl,-⟩<;>rcases hSW with⟨rfl,rfl⟩ |⟨k0,x,rfl,rfl⟩<;>simp only[jM,↓reduceIte,jG,Nat.reduceAdd,rdG,rdA,rdB,jC,zox,zh,zi,zf,zG,zJY,own,zJZ,jk,jg]at hS hRd<;>simp (maxSteps:=1000000) [zVK,zVG,rdG,rdA,rdB,jC,zox,zh,zi,zf,zG,zJY,own,hil,ha,hw,hS,hRd,v1,v2,v3,v4,zg,zH]
   rw[step];clear step;revert ih';generalize zKr m zs ss r len ps vs signals t (i+1) (zEt m zs ss r len signals k a)=V;obtain⟨V1,kf⟩:=V;cases V1 with
   |none =>
    rintro⟨gv',u',w',NW',SW',kv',hO,⟨q1,q2,q3,q4,q5⟩,g⟩;exact⟨gv',u',w',NW',SW',kv',hO,⟨by simp only[jm];omega,by simp only[jm];omega,by simp only[jm];omega,.inr (by omega),.inl (q5.elim id fun q=>⟨_,_,q.2.1,q.2.2⟩)⟩,g⟩
   |some y =>
    rintro⟨gv',u',w',NW',SW',kv',kk,X,E,hO,⟨q1,q2,q3,q4,q5⟩,g⟩;exact⟨gv',u',w',NW',SW',kv',kk,X,E,hO,⟨by simp only[jm];omega,by simp only[jm];omega,by simp only[jm];omega,.inr (by omega),q5⟩,g⟩
  ·rw[if_neg c];rw[if_neg c]at hRd;refine⟨gv+1+1,u+1+1,w+1,zG (zEt m zs ss r len signals k a),.jc (zbf (zKu m zs ss r len signals k a)),kv,k,zEt m zs ss r len signals k a,[(32,.w (Bo true)),(3,.w (Pt (qq+7))),(0,.w (.c (.yld 0 zJ0 rsh))),(4,.w (Pt (qq+8))),(2,.w (Pt (qq+6))),(11,.w (.c (.jc (zu jV)))),(12,.w (W jV.length)),(13,.w (W i)),(8,.w (Pt (qq+9)))],.inr ⟨_,_,rfl,rfl⟩,⟨by simp only[jm];omega,by simp only[jm];omega,by simp only[jm];omega,.inl ⟨rfl,rfl⟩,⟨_,_,rfl,rfl⟩⟩,?_⟩;clear ih hKs hon2 htk;generalize zMi m zs ss r len ps vs k (zEt m zs ss r len signals k a) (zKu m zs ss r len signals k a)=why at *;generalize zEt m zs ss r len signals k a=nx at *;generalize zKu m zs ss r len signals k a=sw at *;rw[zj zHM.eq_1];rcases hq0 with⟨rfl,-⟩ |⟨rfl,-⟩<;>rcases hSW with⟨rfl,rfl⟩ |⟨k0,x,rfl,rfl⟩<;>simp only[jM,↓reduceIte,jG,Nat.reduceAdd,rdG,rdA,rdB,jC,zox,zh,zi,zf,zG,zJY,own,zJZ,jk,jg]at hS hRd<;>simp (maxSteps:=1000000) [zVK,zVG,rdG,rdA,rdB,jC,zox,zh,zi,zf,zG,zJY,own,hil,ha,hw,hS,hRd,v1,v2,v3,v4,zg,zH]
def zOS(len:Int)(x:Ego)(v:Vis):Bool:=decide (v.first.lo<=x.shi)&&decide (x.slo-len<=v.last.hi)
abbrev zPQ(vs:List Vis):Option Blk:=some { box:=false,esz:=10,rows:=zKt vs,gen:=vs.length,fz:=true,ver:=vs.length+1 }
abbrev zMj(m:zD)(r:List Int)(len:Int)(ps:List Pss)(vs:List Vis)(u:Nat)(was:zci)(NW:List Cl)(SW:Cl)(x:Ego):Mem:=[bxv 1 4 (zch x),bx 1 [.ptr 2 0 0 0],bxv u 26 (jC m r len ps (.slice 3 vs.length 10 0 vs.length none) (zG was) NW SW),zPQ vs]
abbrev zMc:Cl:=.fn zKC [] [.ptr 0 0 0 0,.ptr 1 0 0 0]
theorem zN2(m:zD)(r:List Int)(len:Int)(hlen:0<=len/\len<=100000)(ps:List Pss)(vs:List Vis)(u:Nat)(was:zci)(NW:List Cl)(SW:Cl)(hO:zKq NW SW)(x:Ego)(hx:0<=x.slo/\x.slo<=1000000000000000)(v:Vis) :
  R L Cs zKC [.a (zJ1 v),.c (.ptr 0 0 0 0),.c (.ptr 1 0 0 0)] (zMj m r len ps vs u was NW SW x)=some (.w (Bo (zOS len x v)),zMj m r len ps vs u was NW SW x):=by
 rcases hO with⟨rfl,rfl⟩ |⟨k0,x0,rfl,rfl⟩
 all_goals
  have w1:=kr (x.slo-len);rw[zUa zLm rfl];unfold zOS;by_cases c1:v.first.lo<=x.shi<;>by_cases c2:x.slo-len<=v.last.hi<;>simp[zHQ,zMj,zch,zJ1,jC,zox,zh,zi,zf,zG,c1,c2,w1,zg,zH,own]
theorem zM0(m:zD)(r:List Int)(len:Int)(hlen:0<=len/\len<=100000)(ps:List Pss)(vs:List Vis)(hvl:vs.length<=100)(u:Nat)(was:zci)(NW:List Cl)(SW:Cl)(hO:zKq NW SW)(x:Ego)(hx:0<=x.slo/\x.slo<=1000000000000000) :
  R L Cs zKe [.c (.jc (zKt vs)),.c zMc] (zMj m r len ps vs u was NW SW x)=some (.w (Bo (vs.any (zOS len x))),zMj m r len ps vs u was NW SW x):=by
 have key:=zOy vs (by omega) zMc (zOS len x) (zMj m r len ps vs u was NW SW x) (fun v _=>by
  have h:=zN2 m r len hlen ps vs u was NW SW hO x hx v;rcases hO with⟨rfl,rfl⟩ |⟨k0,x0,rfl,rfl⟩<;>simp only[zMj,zch,zJ1,jC,zox,zh,zi,zf,zG,own,zJZ,jk,jg]at h<;>simp[h,zMj,zch,zJ1,jC,zox,zh,zi,zf,zG,own])
 obtain⟨k,h1,h2⟩:=key;rw[zUa zKf rfl];rcases hO with⟨rfl,rfl⟩ |⟨k0,x0,rfl,rfl⟩<;>simp only[zMj,zch,jC,zox,zh,zi,zf,zG,own,zJZ,jk,jg]at h1<;>simp[zHs,h1,h2,zMj,zch,jC,zox,zh,zi,zf,zG,own]
def zLQ(len:Int)(vs:List Vis)(was:zci):Bool:=decide (was.ego.vhi=0) && !vs.any (zOS len was.ego)
theorem zNF(m:zD)(r:List Int)(len:Int)(hlen:0<=len/\len<=100000)(ps:List Pss)(vs:List Vis)(hvl:vs.length<=100)(u:Nat)(was:zci)(NW:List Cl)(SW:Cl)(hO:zKq NW SW)(hx:0<=was.ego.slo/\was.ego.slo<=1000000000000000) :
  R L Cs zLC [J0] (zJ3 m r len ps vs u (zG was) NW SW)=some (.w (Bo (zLQ len vs was)),zJ3 m r len ps vs u (zG was) NW SW):=by
 have hC:=zM0 m r len hlen ps vs hvl u was NW SW hO was.ego hx;unfold zLQ;rcases hO with⟨rfl,rfl⟩ |⟨k0,x0,rfl,rfl⟩
 ·by_cases c:was.ego.vhi=0
  ·have cb:(was.ego.vhi==0)=true:=by simp[c]
   have ce:(was.ego.vhi=0)=True:=eq_true c;rw[zUa zKo rfl];by_cases h0:vs=[]
   ·subst h0;have hI:∀(fnv:Cl) (M:Mem),Y L Cs zHq (some [7,1,0,8]) M.length [(7,.w (W 0)),(1,.w (.c fnv)),(0,.w (.c (.jc []))),(8,.w (W 0))] M=some (.exit 0,[(9,.w (Bo false)),(0,.w (.c (.jc []))),(1,.w (.c fnv)),(7,.w (W 0)),(8,.w (W 0))],M):=by
     intro fnv M;rw[zj zHq.eq_1];simp
    have hC0:R L Cs zKe [.c (.jc []),.c zMc] [bxv 1 4 (zch was.ego),bx 1 [.ptr 2 0 0 0],bxv u 26 (jC m r len ps .jd (zG was) zox .jd)]=some (.w (Bo false),[bxv 1 4 (zch was.ego),bx 1 [.ptr 2 0 0 0],bxv u 26 (jC m r len ps .jd (zG was) zox .jd)]):=by
     have h1:R L Cs zKm [.c (.jc []),.c zMc] [bxv 1 4 (zch was.ego),bx 1 [.ptr 2 0 0 0],bxv u 26 (jC m r len ps .jd (zG was) zox .jd)]=some (.w (W (-1)),[bxv 1 4 (zch was.ego),bx 1 [.ptr 2 0 0 0],bxv u 26 (jC m r len ps .jd (zG was) zox .jd)]):=by
      have h2:=hI zMc [bxv 1 4 (zch was.ego),bx 1 [.ptr 2 0 0 0],bxv u 26 (jC m r len ps .jd (zG was) zox .jd)];simp only[zch,jC,zh,zi,zf,zox,zG,jm,jw,jk,jg]at h2;rw[zUa zKb rfl];simp[zHF,zch,jC,zh,zi,zf,zox,zG,h2]
     rw[zUa zKf rfl];simp only[zch,jC,zh,zi,zf,zox,zG,jk,jg]at h1;simp[zHs,h1,zch,jC,zh,zi,zf,zox,zG]
    simp only[zch,jC,zh,zi,zf,zox,zG,jk,jg]at hC0;simp[zH3,zJ3,jC,zh,zi,zf,zox,zG,zch,cb,ce,hC0,zg,zH,own,zX]
   ·simp only[zMj,zPQ,zch,jC,zh,zi,zf,zox,zG,own,zJZ,jk,jg]at hC;simp[zH3,zJ3,h0,jC,zh,zi,zf,zox,zG,zch,cb,ce,hC,zg,zH,own,zX]
  ·have cb:(was.ego.vhi==0)=false:=by simp[c]
   rw[zUa zKo rfl];by_cases h0:vs=[]<;>simp[zH3,zJ3,h0,jC,zh,zi,zf,zox,zG,zch,c,cb,zg,zH,own]
 ·by_cases c:was.ego.vhi=0
  ·have cb:(was.ego.vhi==0)=true:=by simp[c]
   have ce:(was.ego.vhi=0)=True:=eq_true c;rw[zUa zKo rfl];by_cases h0:vs=[]
   ·subst h0;have hI:∀(fnv:Cl) (M:Mem),Y L Cs zHq (some [7,1,0,8]) M.length [(7,.w (W 0)),(1,.w (.c fnv)),(0,.w (.c (.jc []))),(8,.w (W 0))] M=some (.exit 0,[(9,.w (Bo false)),(0,.w (.c (.jc []))),(1,.w (.c fnv)),(7,.w (W 0)),(8,.w (W 0))],M):=by
     intro fnv M;rw[zj zHq.eq_1];simp
    have hC0:R L Cs zKe [.c (.jc []),.c zMc] [bxv 1 4 (zch was.ego),bx 1 [.ptr 2 0 0 0],bxv u 26 (jC m r len ps .jd (zG was) (zG k0) (.jc x0))]=some (.w (Bo false),[bxv 1 4 (zch was.ego),bx 1 [.ptr 2 0 0 0],bxv u 26 (jC m r len ps .jd (zG was) (zG k0) (.jc x0))]):=by
     have h1:R L Cs zKm [.c (.jc []),.c zMc] [bxv 1 4 (zch was.ego),bx 1 [.ptr 2 0 0 0],bxv u 26 (jC m r len ps .jd (zG was) (zG k0) (.jc x0))]=some (.w (W (-1)),[bxv 1 4 (zch was.ego),bx 1 [.ptr 2 0 0 0],bxv u 26 (jC m r len ps .jd (zG was) (zG k0) (.jc x0))]):=by
      have h2:=hI zMc [bxv 1 4 (zch was.ego),bx 1 [.ptr 2 0 0 0],bxv u 26 (jC m r len ps .jd (zG was) (zG k0) (.jc x0))];simp only[zch,jC,zh,zi,zf,zox,zG,jm,jw,jk,jg]at h2;rw[zUa zKb rfl];simp[zHF,zch,jC,zh,zi,zf,zox,zG,h2]
     rw[zUa zKf rfl];simp only[zch,jC,zh,zi,zf,zox,zG,jk,jg]at h1;simp[zHs,h1,zch,jC,zh,zi,zf,zox,zG]
    simp only[zch,jC,zh,zi,zf,zox,zG,jk,jg]at hC0;simp[zH3,zJ3,jC,zh,zi,zf,zox,zG,zch,cb,ce,hC0,zg,zH,own,zX]
   ·simp only[zMj,zPQ,zch,jC,zh,zi,zf,zox,zG,own,zJZ,jk,jg]at hC;simp[zH3,zJ3,h0,jC,zh,zi,zf,zox,zG,zch,cb,ce,hC,zg,zH,own,zX]
  ·have cb:(was.ego.vhi==0)=false:=by simp[c]
   rw[zUa zKo rfl];by_cases h0:vs=[]<;>simp[zH3,zJ3,h0,jC,zh,zi,zf,zox,zG,zch,c,cb,zg,zH,own]
abbrev jmA(m:zD)(r:List Int)(len:Int)(ps:List Pss)(vs:List Vis)(u:Nat)(was NW:List Cl)(SW:Cl):Mem:=[bxv u 26 (jC m r len ps (.slice 1 vs.length 10 0 vs.length none) was NW SW),some (own 10 (zKt vs))]
abbrev jmB(m:zD)(r:List Int)(len:Int)(ps:List Pss)(vs:List Vis)(u:Nat)(was NW:List Cl)(SW:Cl):Mem:=[bxv u 26 (jC m r len ps .jd was NW SW)]
abbrev jmG(qq:Nat)(m:zD)(r:List Int)(len:Int)(ps:List Pss)(vs:List Vis)(u:Nat)(was NW:List Cl)(SW:Cl):Mem:=if qq=0 then jmB m r len ps vs u was NW SW else jmA m r len ps vs u was NW SW
theorem zVV(m:zD)(r:List Int)(len:Int)(ps:List Pss)(vs:List Vis)(qq:Nat)(hq0:qq=0/\vs=[]\/qq=1/\vs≠[])(u:Nat)(k k0:zci)(NW:List Cl)(SW:Cl)(hSW:zKq NW SW)(jV:List Int)(signals:Bool) :
  R L Cs zKZ [J0,.a (zG k),.a [.jc (zu jV)],Bo signals] (jmG qq m r len ps vs u (zG k0) NW SW)=some (.w (.c (.fn zJ8 [] [.ptr (qq+1) 0 0 0,.ptr (qq+2) 0 0 0,.ptr (qq+3) 0 0 0,.ptr (qq+4) 0 0 0])),jmG qq m r len ps vs u (zG k0) NW SW++[bx 1 [.jc (zu jV)],bx 1 [.ptr 0 0 0 0],bx 6 (zG k),bx 1 [.bool signals]]):=by
 rw[zUa zK4 rfl];rcases hq0 with⟨rfl,-⟩ |⟨rfl,-⟩<;>rcases hSW with⟨rfl,rfl⟩ |⟨k1,x,rfl,rfl⟩<;>simp[zIc,jmG,jmA,jmB,jC,zox,zh,zi,zf,zG,zJY,own,zg,zH,List.range,List.range.loop]
theorem zVT{m:zD}{zs:List Zon}{ss:List Sgn}(hF:zKj m zs ss){r:List Int}(hr:zdA m r=0)(len:Int)(hlen:0<=len/\len<=20000)(ps:List Pss)(hp:ps.length<=1000)(vs:List Vis)(qq:Nat)(hq0:qq=0/\vs=[]\/qq=1/\vs≠[])(hvl:vs.length<=100)(hvo:∀v∈vs,zKN zs v)(signals:Bool)(jV:List Int)(hin:∀a∈jV,zk0 a)(hal:jV.length<=500)(u:Nat)(k:zci)(NW:List Cl)(SW:Cl)(hk:KJ m k)(ht:0<=k.tick/\k.tick<=1099511627776)(hSW:zKq NW SW)(hne:jV≠[]) :
  ∃gv' u' w' NW' SW' kv' kk,zOP NW' SW'/\(gv'≠0/\u<u'/\w'≠1/\(kv'=0->kk=k))/\R L Cs zJ8 [.c (.yld 0 zJ0 rsh),Pt (qq+5),Pt (qq+6),Pt (qq+7),Pt (qq+8)] (zVG qq m r len ps vs 0 0 u k NW SW 1 0 0 (zJY false 0 0) jV 0 k signals) =
   some (.t [],match (zKr m zs ss r len ps vs signals jV 0 k).1 with
    |none=>zVG qq m r len ps vs 0 gv' u' (zKr m zs ss r len ps vs signals jV 0 k).2 NW' SW' w' jV.length 0 (zJY false 0 0) jV kv' kk signals
    |some (at',why)=>zVG qq m r len ps vs 2 gv' u' (zKr m zs ss r len ps vs signals jV 0 k).2 NW' SW' w' at' 1 (zJY false at' why) jV kv' kk signals):=by
 have g:=zVU hF hr len hlen ps hp vs qq hq0 hvl hvo signals jV hin hal jV 0 0 u 1 k NW SW 0 rfl (jA _) hk (by omega) hSW;generalize zKr m zs ss r len ps vs signals jV 0 k=V at *;obtain⟨V1,kf⟩:=V;have hlp:=ky.2 hne;cases V1 with
 |none =>
  obtain⟨gv',u',w',NW',SW',kv',hO,⟨q1,q2,q3,q4,q5⟩,g⟩:=g;have hO:=q5.resolve_right fun q=>hne q.1
  refine⟨gv',u',w',NW',SW',kv',kf,hO,⟨by omega,by omega,by omega,fun e=>q4.elim (fun q=>q.2) fun q=>by omega⟩,?_⟩;clear q1 q2 q3 q4 q5;rw[zUa zKl rfl];rcases hq0 with⟨rfl,-⟩ |⟨rfl,-⟩<;>rcases hSW with⟨rfl,rfl⟩ |⟨k0,x,rfl,rfl⟩<;>obtain⟨k1,x1,rfl,rfl⟩:=hO<;>simp only[jM,↓reduceIte,jG,Nat.reduceAdd,zVK,zVG,rdG,rdA,rdB,jC,zox,zh,zi,zf,zG,zJY,own,zJZ,jk,jg,ji]at g<;>simp (maxSteps:=1000000) [zHZ,zVK,zVG,rdG,rdA,rdB,jC,zox,zh,zi,zf,zG,zJY,own,g,zg,zH,List.range,List.range.loop]
 |some y =>
  obtain⟨at',why⟩:=y;obtain⟨gv',u',w',NW',SW',kv',kk,X,E,hO,⟨q1,q2,q3,q4,hO⟩,g⟩:=g;refine⟨gv',u',w',NW',SW',kv',kk,hO,⟨by omega,by omega,by omega,fun e=>q4.elim (fun q=>q.2) fun q=>by omega⟩,?_⟩;clear q1 q2 q3 q4;rw[zUa zKl rfl];rcases hq0 with⟨rfl,-⟩ |⟨rfl,-⟩<;>rcases hSW with⟨rfl,rfl⟩ |⟨k0,x,rfl,rfl⟩<;>obtain⟨k1,x1,rfl,rfl⟩:=hO<;>simp only[jM,↓reduceIte,jG,Nat.reduceAdd,zVK,zVG,rdG,rdA,rdB,jC,zox,zh,zi,zf,zG,zJY,own,zJZ,jk,jg,ji]at g<;>simp (maxSteps:=1000000) [zHZ,zVK,zVG,rdG,rdA,rdB,jC,zox,zh,zi,zf,zG,zJY,own,g,zg,zH,List.range,List.range.loop]
theorem zN8{m:zD}{zs:List Zon}{ss:List Sgn}(hF:zKj m zs ss){r:List Int}(hr:zdA m r=0)(len:Int)(ps:List Pss)(vs:List Vis)(signals:Bool):∀(t:List Int) (i:Nat) (k:zci),KJ m k->KJ m (zKr m zs ss r len ps vs signals t i k).2:=by
 have hf:=hF.full;have h:=hf.qW;obtain⟨hon,hne,hl8⟩:=zg1 h hr;have hEb:=zFu h r hl8 hon;intro t;induction t with
 |nil=>intro i k hk;exact hk
 |cons a t ih =>
  intro i k hk;unfold zKr;split
  ·rename_i c;exact ih _ _ (zNm hf hr len signals hk a (by have:=zNe c;omega))
  ·exact hk
def zLH(len:Int)(vs:List Vis)(jV:List Int)(V:Option (Nat×Int)×zci):Bool×Int×Int:=match V.1 with
 |none=>if zLQ len vs V.2 then(true,0,0) else(false,jV.length,7)
 |some (at',why)=>(false,at',why)
def zJ4(x:Bool×Int×Int):List Cl:=zJY x.1 x.2.1 x.2.2
def zMo(WAS:List Cl):Prop:=WAS=zox\/∃k0,WAS=zG k0
theorem zVS{m:zD}{zs:List Zon}{ss:List Sgn}(hF:zKj m zs ss){r:List Int}(hr:zdA m r=0)(len:Int)(hlen:0<=len/\len<=20000)(ps:List Pss)(hp:ps.length<=1000)(vs:List Vis)(qq:Nat)(hq0:qq=0/\vs=[]\/qq=1/\vs≠[])(hvl:vs.length<=100)(hvo:∀v∈vs,zKN zs v)(signals:Bool)(jV:List Int)(hin:∀a∈jV,zk0 a)(hal:jV.length<=500)(u:Nat)(k:zci)(WAS NW:List Cl)(SW:Cl)(hk:KJ m k)(ht:0<=k.tick/\k.tick<=1099511627776)(hW:zMo WAS)(hSW:zKq NW SW)(hne0:jV≠[]) :
  ∃u' NW' SW',zKq NW' SW'/\u'≠u/\R L Cs zKM [J0,.a (zG k),.a [.jc (zu jV)],Bo signals] (jmG qq m r len ps vs u WAS NW SW) =
   some (.w (.a (zJ4 (zLH len vs jV (zKr m zs ss r len ps vs signals jV 0 k)))),jmG qq m r len ps vs u' (zG (zKr m zs ss r len ps vs signals jV 0 k).2) NW' SW'):=by
 obtain⟨gv',u',w',NW',SW',kv',kk,hO,⟨q1,q20,q3,q4⟩,g⟩:=zVT hF hr len hlen ps hp vs qq hq0 hvl hvo signals jV hin hal (u+1) k NW SW hk ht hSW hne0;have hA:=zVV m r len ps vs qq hq0 (u+1) k k NW SW hSW jV signals;have hkf:=zN8 hF hr len ps vs signals jV 0 k hk;have hST:=zNF m r len (by omega) ps vs hvl u' (zKr m zs ss r len ps vs signals jV 0 k).2 NW' SW' (.inr hO) (by have:=hkf.ego.s;omega);have q6:(kv'=0/\kk=k)\/¬kv'=0:=(Classical.em (kv'=0)).imp (fun e=>⟨e,q4 e⟩) id;have hne:¬(zJ0=zJ8):=by decide
 have q2:u'≠u+1:=by omega
 refine⟨u',NW',SW',.inr hO,by omega,?_⟩;clear hkf;generalize zKr m zs ss r len ps vs signals jV 0 k=V at *;obtain⟨V1,kf⟩:=V;rw[zUa zKO rfl];cases V1 with
 |none =>
  rw[zJ3,zVW hq0]at hST;cases hq:zLQ len vs kf with
  |true =>
   rw[hq]at hST;rcases hq0 with⟨rfl,-⟩ |⟨rfl,-⟩<;>rcases hW with rfl |⟨kw,rfl⟩<;>rcases hSW with⟨rfl,rfl⟩ |⟨k0,x,rfl,rfl⟩<;>obtain⟨k1,x1,rfl,rfl⟩:=hO<;>rcases q6 with⟨c4,rfl⟩|c4<;>simp only[jM,↓reduceIte,jG,Nat.reduceAdd,rdG,rdA,rdB,jC,zox,zh,zi,zf,zG,zJY,own,zJZ,jk,jg,ji,jmG,jmA,jmB,zVG,rsh]at g hA hST<;>simp (maxSteps:=1000000) [zH2,jmG,jmA,jmB,zVG,rdG,rdA,rdB,jC,zox,zh,zi,zf,zG,zJY,own,zJ4,zLH,zNb,zeN,ghost,znr,zsR,Eng.qu,hne,zg,zH,List.range,List.range.loop,rsh,g,q1,q2,q3,c4,hA,hq,hST]
  |false =>
   rw[hq]at hST;rcases hq0 with⟨rfl,-⟩ |⟨rfl,-⟩<;>rcases hW with rfl |⟨kw,rfl⟩<;>rcases hSW with⟨rfl,rfl⟩ |⟨k0,x,rfl,rfl⟩<;>obtain⟨k1,x1,rfl,rfl⟩:=hO<;>rcases q6 with⟨c4,rfl⟩|c4<;>simp only[jM,↓reduceIte,jG,Nat.reduceAdd,rdG,rdA,rdB,jC,zox,zh,zi,zf,zG,zJY,own,zJZ,jk,jg,ji,jmG,jmA,jmB,zVG,rsh]at g hA hST<;>simp (maxSteps:=1000000) [zH2,jmG,jmA,jmB,zVG,rdG,rdA,rdB,jC,zox,zh,zi,zf,zG,zJY,own,zJ4,zLH,zNb,zeN,ghost,znr,zsR,Eng.qu,hne,zg,zH,List.range,List.range.loop,rsh,g,q1,q2,q3,c4,hA,hq,hST]
 |some y =>
  obtain⟨at',why⟩:=y;clear hST;rcases hq0 with⟨rfl,-⟩ |⟨rfl,-⟩<;>rcases hW with rfl |⟨kw,rfl⟩<;>rcases hSW with⟨rfl,rfl⟩ |⟨k0,x,rfl,rfl⟩<;>obtain⟨k1,x1,rfl,rfl⟩:=hO<;>rcases q6 with⟨c4,rfl⟩|c4<;>simp only[jM,↓reduceIte,jG,Nat.reduceAdd,rdG,rdA,rdB,jC,zox,zh,zi,zf,zG,zJY,own,zJZ,jk,jg,ji,jmG,jmA,jmB,zVG,rsh]at g hA<;>simp (maxSteps:=1000000) [zH2,jmG,jmA,jmB,zVG,rdG,rdA,rdB,jC,zox,zh,zi,zf,zG,zJY,own,zJ4,zLH,zNb,zeN,ghost,znr,zsR,Eng.qu,hne,zg,zH,List.range,List.range.loop,rsh,g,q1,q2,q3,c4,hA]
abbrev zVM(qq:Nat)(jV:List Int)(i:Nat):Env:=[(13,.w (W i)),(12,.w (W jV.length)),(11,.w (.c (.jc (zu jV)))),(4,.w (Pt (qq+1))),(0,.w J0)]
abbrev zVI(qq:Nat)(m:zD)(r:List Int)(len:Int)(ps:List Pss)(vs:List Vis)(u:Nat)(was NW:List Cl)(SW:Cl)(v:Nat)(k:zci)(jV:List Int):Mem:=jmG qq m r len ps vs u was NW SW++[bxv v 6 (zG k),bx 1 [.jc (zu jV)]]
theorem zVO{m:zD}(h:zcp m){r:List Int}(hr:zdA m r=0)(len:Int)(ps:List Pss)(vs:List Vis)(qq:Nat)(hq0:qq=0/\vs=[]\/qq=1/\vs≠[])(u:Nat)(was:zci)(NW:List Cl)(SW:Cl)(hSW:zKq NW SW)(jV:List Int)(hin:∀a∈jV,zk0 a)(hal:jV.length<=500)(bs:List zk):∀(t:List Int) (i v:Nat) (tk:Int) (e:Ego),jV.drop i=t->i<=jV.length->znd e->0<=tk/\tk<=1099511627776 ->
  (fbF m r t tk e=none->∃v' k' E T,(T=[]\/∃e2,T=[bxv 1 4 (zch e2)])/\Y L Cs zIC (some [13,12,11,4,0]) (qq+3) (zVM qq jV i) (zVI qq m r len ps vs u (zG was) NW SW v ⟨tk,bs,e⟩ jV)=some (.exit 0,E,zVI qq m r len ps vs u (zG was) NW SW v' k' jV++T)) /\
  (fbF m r t tk e≠none->∃v' k' e2,Y L Cs zIC (some [13,12,11,4,0]) (qq+3) (zVM qq jV i) (zVI qq m r len ps vs u (zG was) NW SW v ⟨tk,bs,e⟩ jV)=some (.ret,[(6,.w (Bo false))],zVI qq m r len ps vs u (zG was) NW SW v' k' jV++[bxv 1 4 (zch e2)])):=by
 obtain⟨hon,hne,hl8⟩:=zg1 h hr;have hEb:=zFu h r hl8 hon;intro t;induction t with
 |nil =>
  intro i v tk e hd hi he ht;obtain rfl:=zUb hd hi;refine⟨fun _=>⟨v,⟨tk,bs,e⟩,[(14,.w (Bo false)),(13,.w (W jV.length)),(12,.w (W jV.length)),(11,.w (.c (.jc (zu jV)))),(4,.w (Pt (qq+1))),(0,.w J0)],[],.inl rfl,?_⟩,fun hq=>absurd rfl hq⟩;rw[zj zIC.eq_1];simp
 |cons a t ih =>
  intro i v tk e hd hi he ht;obtain⟨hil,ha,hd'⟩:=zL hd;have hw:=zB (i:=i) (by omega);have hD:R L Cs zgW [.a (zh m r len),.a (zch e),W a] []=some (.w (.a (zch (zaN m r e a))),[]):=by
   obtain⟨x0,r',rfl⟩:∃x r',r=x::r':=by cases r with|nil=>exact absurd rfl hne|cons x r'=>exact⟨x,r',rfl⟩
   exact zvQ h x0 r' len (hon x0 (jp ..)) e he a (hin a (by rw[<-ha];exact jf hil))
  have hd2:=zLs h hr he a;unfold fbF;have w2:tk<1099511627776->IntKind.i64.wrap (tk+1)=tk+1:=fun q=>zTd _ (by omega) (by omega)
  by_cases c:AN m r tk e a
  ·rw[if_pos c];refine⟨fun q=>(by cases q),fun _=>?_⟩;clear ih;unfold AN at c;generalize zaN m r e a=x at *;refine⟨v,⟨tk,bs,e⟩,x,?_⟩;by_cases c1:1099511627776<=tk
   ·rw[zj zIC.eq_1];rcases hq0 with⟨rfl,-⟩ |⟨rfl,-⟩<;>rcases hSW with⟨rfl,rfl⟩ |⟨k0,y,rfl,rfl⟩<;>simp only[jM,↓reduceIte,jG,Nat.reduceAdd,zh,zi,zf,zch,jk,jg]at hD<;>simp (maxSteps:=1000000) [zVM,zVI,jmG,jmA,jmB,jC,zox,zh,zi,zf,zG,own,zch,hil,ha,hw,hD,c1,zg,zH]
   ·have c2:1099511627776<x.shi:=c.resolve_left c1;rw[zj zIC.eq_1];rcases hq0 with⟨rfl,-⟩ |⟨rfl,-⟩<;>rcases hSW with⟨rfl,rfl⟩ |⟨k0,y,rfl,rfl⟩<;>simp only[jM,↓reduceIte,jG,Nat.reduceAdd,zh,zi,zf,zch,jk,jg]at hD<;>simp (maxSteps:=1000000) [zVM,zVI,jmG,jmA,jmB,jC,zox,zh,zi,zf,zG,own,zch,hil,ha,hw,hD,c1,c2,zg,zH]
  ·rw[if_neg c];unfold AN at c;have c1:¬1099511627776<=tk:=fun q=>c (.inl q)
   have c2:¬1099511627776<(zaN m r e a).shi:=fun q=>c (.inr q)
   by_cases d:zmd m 0 r<(zaN m r e a).shi
   ·rw[if_pos d];refine⟨fun _=>?_,fun q=>absurd rfl q⟩;clear ih;generalize zaN m r e a=x at *;refine⟨v,⟨tk,bs,e⟩,[(40,.w (Bo true)),(0,.w J0),(4,.w (Pt (qq+1))),(11,.w (.c (.jc (zu jV)))),(12,.w (W jV.length)),(13,.w (W i)),(9,.w (Pt (qq+3)))],[bxv 1 4 (zch x)],.inr ⟨x,rfl⟩,?_⟩;rw[zj zIC.eq_1];rcases hq0 with⟨rfl,-⟩ |⟨rfl,-⟩<;>rcases hSW with⟨rfl,rfl⟩ |⟨k0,y,rfl,rfl⟩<;>simp only[jM,↓reduceIte,jG,Nat.reduceAdd,zh,zi,zf,zch,jk,jg]at hD<;>simp (maxSteps:=1000000) [zVM,zVI,jmG,jmA,jmB,jC,zox,zh,zi,zf,zG,own,zch,hil,ha,hw,hD,c1,c2,d,zg,zH]
   ·rw[if_neg d];obtain⟨i1,i2⟩:=ih (i+1) (v+1+1) (tk+1) (zaN m r e a) hd' hil ⟨⟨hd2.1,hd2.2.1,by omega⟩,⟨hd2.2.2.2.1,hd2.2.2.2.2.1,hd2.2.2.2.2.2⟩⟩ (by omega);have step:Y L Cs zIC (some [13,12,11,4,0]) (qq+3) (zVM qq jV i) (zVI qq m r len ps vs u (zG was) NW SW v ⟨tk,bs,e⟩ jV)=Y L Cs zIC (some [13,12,11,4,0]) (qq+3) (zVM qq jV (i+1)) (zVI qq m r len ps vs u (zG was) NW SW (v+1+1) ⟨tk+1,bs,zaN m r e a⟩ jV):=by
     clear ih i1 i2;have w3:=w2 (by omega);generalize zaN m r e a=x at *;rw[zj zIC.eq_1];rcases hq0 with⟨rfl,-⟩ |⟨rfl,-⟩<;>rcases hSW with⟨rfl,rfl⟩ |⟨k0,y,rfl,rfl⟩<;>simp only[jM,↓reduceIte,jG,Nat.reduceAdd,zh,zi,zf,zch,jk,jg]at hD<;>simp (maxSteps:=1000000) [zVM,zVI,jmG,jmA,jmB,jC,zox,zh,zi,zf,zG,own,zch,hil,ha,hw,hD,c1,c2,d,w3,zg,zH]
    rw[step];cases hq:fbF m r t (tk+1) (zaN m r e a)with
    |none=>exact⟨fun _=>i1 hq,fun q=>absurd rfl q⟩
    |some b=>exact⟨fun q=>(by cases q),fun _=>i2 (by rw[hq];simp)⟩
theorem zVL{m:zD}(h:zcp m){r:List Int}(hr:zdA m r=0)(len:Int)(ps:List Pss)(vs:List Vis)(qq:Nat)(hq0:qq=0/\vs=[]\/qq=1/\vs≠[])(u:Nat)(was:zci)(NW:List Cl)(SW:Cl)(hSW:zKq NW SW)(jV:List Int)(hin:∀a∈jV,zk0 a)(hal:jV.length<=500)(k:zci)(he:znd k.ego)(ht:0<=k.tick/\k.tick<=1099511627776) :
  R L Cs zLY [J0,.a (zG k),.a [.jc (zu jV)]] (jmG qq m r len ps vs u (zG was) NW SW)=some (.w (Bo (fbF m r jV k.tick k.ego).isNone),jmG qq m r len ps vs u (zG was) NW SW):=by
 obtain⟨g1,g2⟩:=zVO h hr len ps vs qq hq0 u was NW SW hSW jV hin hal k.jQ jV 0 0 k.tick k.ego rfl (jA _) he ht;rw[zUa zL1 rfl];cases hq:fbF m r jV k.tick k.ego with
 |none =>
  obtain⟨v',k',E,T,hT,g⟩:=g1 hq;clear g1 g2;rcases hq0 with⟨rfl,-⟩ |⟨rfl,-⟩<;>rcases hSW with⟨rfl,rfl⟩ |⟨k0,y,rfl,rfl⟩<;>rcases hT with rfl |⟨e2,rfl⟩<;>simp only[jM,↓reduceIte,jG,Nat.reduceAdd,zVM,zVI,jmG,jmA,jmB,jC,zox,zh,zi,zf,zG,own,zch,zJZ,jk,jg,kS,ji]at g<;>simp (maxSteps:=1000000) [zIU,jmG,jmA,jmB,jC,zox,zh,zi,zf,zG,own,zch,g,zg,zH]
 |some b =>
  obtain⟨v',k',e2,g⟩:=g2 (by rw[hq];simp);clear g1 g2;rcases hq0 with⟨rfl,-⟩ |⟨rfl,-⟩<;>rcases hSW with⟨rfl,rfl⟩ |⟨k0,y,rfl,rfl⟩<;>simp only[jM,↓reduceIte,jG,Nat.reduceAdd,zVM,zVI,jmG,jmA,jmB,jC,zox,zh,zi,zf,zG,own,zch,zJZ,jk,jg,kS,ji]at g<;>simp (maxSteps:=1000000) [zIU,jmG,jmA,jmB,jC,zox,zh,zi,zf,zG,own,zch,g,zg,zH]
abbrev zVN(qq:Nat)(jV:List Int)(i:Nat):Env:=[(24,.w (W i)),(23,.w (W jV.length)),(5,.w (Pt (qq+1))),(6,.w (Pt (qq+2))),(0,.w J0),(9,.w (Pt (qq+4))),(8,.w (Pt (qq+3)))]
abbrev zVJ(qq:Nat)(m:zD)(r:List Int)(len:Int)(ps:List Pss)(vs:List Vis)(u:Nat)(was NW:List Cl)(SW:Cl)(k:zci)(jV:List Int)(v:Nat)(y:Bool×Int×Int)(x:Bool×Int×Int):Mem:=jmG qq m r len ps vs u was NW SW++[bx 6 (zG k),bx 1 [.jc (zu jV)],bxv v 3 (zJ4 y),bxv 1 3 (zJ4 x)]
theorem zVP{m:zD}(h:zcp m){r:List Int}(hr:zdA m r=0)(len:Int)(ps:List Pss)(vs:List Vis)(qq:Nat)(hq0:qq=0/\vs=[]\/qq=1/\vs≠[])(u:Nat)(was:zci)(NW:List Cl)(SW:Cl)(hSW:zKq NW SW)(jV:List Int)(hin:∀a∈jV,zk0 a)(hal:jV.length<=500)(k:zci)(he:znd k.ego)(ht:0<=k.tick/\k.tick<=1099511627776)(x:Bool×Int×Int)(b:Nat)(hb:fbF m r jV k.tick k.ego=some b):∀(f i:Nat),i+f=b ->
  Y L Cs zHK (some [24,23,5,6,0,9,8]) (qq+5) (zVN qq jV i) (zVJ qq m r len ps vs u (zG was) NW SW k jV 0 (false,0,0) x)=some (.ret,[(8,.w (Pt (qq+3)))],zVJ qq m r len ps vs u (zG was) NW SW k jV 1 (zKX x (some b)) x):=by
 have hbl:=zO8 m r jV _ _ b hb;obtain⟨x1,x2,x3⟩:=x;intro f;induction f with
 |zero =>
  intro i hi;obtain rfl:i=b:=by omega
  have hw:=zB (i:=i) (by omega);have hil:(i:Int)<jV.length:=by omega
  have e1:(0:Int)<=(i:Int)+1:=by omega
  have e2:(i:Int)+1<=jV.length:=by omega
  have e3:i+1<=jV.length:=by omega
  have hS:=zVL h hr len ps vs qq hq0 u was NW SW hSW (jV.take (i+1)) (fun y hy=>hin y (k9 hy)) (by simp;omega) k he ht;rw[zLX,hb]at hS;simp only[jM,↓reduceIte,jG,Nat.reduceAdd,qG,Nat.lt_succ_self,if_true,Option.isNone_some]at hS;rw[show zu (jV.take (i+1))=(zu jV).take (i+1) from by simp[zu,ye]]at hS;unfold zKX;rw[zj zHK.eq_1];by_cases c1:0<x2
  ·by_cases c2:x2<=(i:Int)
   ·by_cases c3:x3=7
    ·have cb:(x3 !=7)=false:=by simp[c3]
     have cb2:(x3==7)=true:=by simp[c3]
     rcases hq0 with⟨rfl,-⟩ |⟨rfl,-⟩<;>rcases hSW with⟨rfl,rfl⟩ |⟨k0,z,rfl,rfl⟩<;>simp only[jM,↓reduceIte,jG,Nat.reduceAdd,jmG,jmA,jmB,jC,zox,zh,zi,zf,zG,own,zJY,zJ4,zJZ,jk,jg]at hS<;>simp (maxSteps:=1000000) [zVN,zVJ,jmG,jmA,jmB,jC,zox,zh,zi,zf,zG,own,zJY,zJ4,hil,hbl,hw,e1,e2,e3,hS,c1,c2,c3,cb,cb2,zg,zH]
    ·have cb:(x3 !=7)=true:=by simp[c3]
     have cb2:(x3==7)=false:=by simp[c3]
     rcases hq0 with⟨rfl,-⟩ |⟨rfl,-⟩<;>rcases hSW with⟨rfl,rfl⟩ |⟨k0,z,rfl,rfl⟩<;>simp only[jM,↓reduceIte,jG,Nat.reduceAdd,jmG,jmA,jmB,jC,zox,zh,zi,zf,zG,own,zJY,zJ4,zJZ,jk,jg]at hS<;>simp (maxSteps:=1000000) [zVN,zVJ,jmG,jmA,jmB,jC,zox,zh,zi,zf,zG,own,zJY,zJ4,hil,hbl,hw,e1,e2,e3,hS,c1,c2,c3,cb,cb2,zg,zH]
   ·rcases hq0 with⟨rfl,-⟩ |⟨rfl,-⟩<;>rcases hSW with⟨rfl,rfl⟩ |⟨k0,z,rfl,rfl⟩<;>simp only[jM,↓reduceIte,jG,Nat.reduceAdd,jmG,jmA,jmB,jC,zox,zh,zi,zf,zG,own,zJY,zJ4,zJZ,jk,jg]at hS<;>simp (maxSteps:=1000000) [zVN,zVJ,jmG,jmA,jmB,jC,zox,zh,zi,zf,zG,own,zJY,zJ4,hil,hbl,hw,e1,e2,e3,hS,c1,c2,zg,zH]
  ·rcases hq0 with⟨rfl,-⟩ |⟨rfl,-⟩<;>rcases hSW with⟨rfl,rfl⟩ |⟨k0,z,rfl,rfl⟩<;>simp only[jM,↓reduceIte,jG,Nat.reduceAdd,jmG,jmA,jmB,jC,zox,zh,zi,zf,zG,own,zJY,zJ4,zJZ,jk,jg]at hS<;>simp (maxSteps:=1000000) [zVN,zVJ,jmG,jmA,jmB,jC,zox,zh,zi,zf,zG,own,zJY,zJ4,hil,hbl,hw,e1,e2,e3,hS,c1,zg,zH]
 |succ f ih =>
  intro i hi;have hw:=zB (i:=i) (by omega);have hil:(i:Int)<jV.length:=by omega
  have e1:(0:Int)<=(i:Int)+1:=by omega
  have e2:(i:Int)+1<=jV.length:=by omega
  have e3:i+1<=jV.length:=by omega
  have BB:i<jV.length:=by omega
  have hS:=zVL h hr len ps vs qq hq0 u was NW SW hSW (jV.take (i+1)) (fun y hy=>hin y (k9 hy)) (by simp;omega) k he ht;rw[zLX,hb]at hS;simp only[jM,↓reduceIte,jG,Nat.reduceAdd,qG,show ¬b<i+1 by omega,if_false,Option.isNone_none]at hS;rw[show zu (jV.take (i+1))=(zu jV).take (i+1) from by simp[zu,ye]]at hS;have ih':=ih (i+1) (by omega);clear ih;by_cases cc:0<x2/\x2<=i/\x3≠7
  ·obtain⟨c1,c2,c3⟩:=cc;clear ih';rw[show zKX (x1,x2,x3) (some b)=(x1,x2,x3) from by rw[zKX,if_pos ⟨c1,by show x2<=b;omega,c3⟩]];have cb:(x3 !=7)=true:=by simp[c3]
   have cb2:(x3==7)=false:=by simp[c3]
   rw[zj zHK.eq_1];rcases hq0 with⟨rfl,-⟩ |⟨rfl,-⟩<;>rcases hSW with⟨rfl,rfl⟩ |⟨k0,z,rfl,rfl⟩<;>simp only[jM,↓reduceIte,jG,Nat.reduceAdd,jmG,jmA,jmB,jC,zox,zh,zi,zf,zG,own,zJY,zJ4,zJZ,jk,jg]at hS<;>simp (maxSteps:=1000000) [zVN,zVJ,jmG,jmA,jmB,jC,zox,zh,zi,zf,zG,own,zJY,zJ4,hil,BB,hw,e1,e2,e3,hS,c1,c2,c3,cb,cb2,zg,zH]
  ·rw[<-ih'];clear ih';rw[zj zHK.eq_1];by_cases c1:0<x2
   ·by_cases c2:x2<=(i:Int)
    ·have c3:x3=7:=Classical.not_not.1 fun q=>cc ⟨c1,c2,q⟩
     have cb:(x3 !=7)=false:=by simp[c3]
     have cb2:(x3==7)=true:=by simp[c3]
     rcases hq0 with⟨rfl,-⟩ |⟨rfl,-⟩<;>rcases hSW with⟨rfl,rfl⟩ |⟨k0,z,rfl,rfl⟩<;>simp only[jM,↓reduceIte,jG,Nat.reduceAdd,jmG,jmA,jmB,jC,zox,zh,zi,zf,zG,own,zJY,zJ4,zJZ,jk,jg]at hS<;>simp (maxSteps:=1000000) [zVN,zVJ,jmG,jmA,jmB,jC,zox,zh,zi,zf,zG,own,zJY,zJ4,hil,BB,hw,e1,e2,e3,hS,c1,c2,c3,cb,cb2,zg,zH]
    ·rcases hq0 with⟨rfl,-⟩ |⟨rfl,-⟩<;>rcases hSW with⟨rfl,rfl⟩ |⟨k0,z,rfl,rfl⟩<;>simp only[jM,↓reduceIte,jG,Nat.reduceAdd,jmG,jmA,jmB,jC,zox,zh,zi,zf,zG,own,zJY,zJ4,zJZ,jk,jg]at hS<;>simp (maxSteps:=1000000) [zVN,zVJ,jmG,jmA,jmB,jC,zox,zh,zi,zf,zG,own,zJY,zJ4,hil,BB,hw,e1,e2,e3,hS,c1,c2,zg,zH]
   ·rcases hq0 with⟨rfl,-⟩ |⟨rfl,-⟩<;>rcases hSW with⟨rfl,rfl⟩ |⟨k0,z,rfl,rfl⟩<;>simp only[jM,↓reduceIte,jG,Nat.reduceAdd,jmG,jmA,jmB,jC,zox,zh,zi,zf,zG,own,zJY,zJ4,zJZ,jk,jg]at hS<;>simp (maxSteps:=1000000) [zVN,zVJ,jmG,jmA,jmB,jC,zox,zh,zi,zf,zG,own,zJY,zJ4,hil,BB,hw,e1,e2,e3,hS,c1,zg,zH]
theorem zVQ{m:zD}{zs:List Zon}{ss:List Sgn}(hF:zKj m zs ss){r:List Int}(hr:zdA m r=0)(len:Int)(hlen:0<=len/\len<=20000)(ps:List Pss)(hp:ps.length<=1000)(vs:List Vis)(qq:Nat)(hq0:qq=0/\vs=[]\/qq=1/\vs≠[])(hvl:vs.length<=100)(hvo:∀v∈vs,zKN zs v)(signals:Bool)(jV:List Int)(hin:∀a∈jV,zk0 a)(hal:jV.length<=500)(u:Nat)(k:zci)(WAS NW:List Cl)(SW:Cl)(hk:KJ m k)(ht:0<=k.tick/\k.tick<=1099511627776)(hW:zMo WAS)(hSW:zKq NW SW)(hne0:jV≠[]) :
  ∃u' WAS' NW' SW',zMo WAS'/\zKq NW' SW'/\u'≠u/\R L Cs zKv [J0,.a (zG k),.a [.jc (zu jV)],Bo signals] (jmG qq m r len ps vs u WAS NW SW) =
   some (.w (.a (zJ4 (zKX (zLH len vs jV (zKr m zs ss r len ps vs signals jV 0 k)) (fbF m r jV k.tick k.ego)))),jmG qq m r len ps vs u' WAS' NW' SW'):=by
 obtain⟨u',NW',SW',hO,hu,hV⟩:=zVS hF hr len hlen ps hp vs qq hq0 hvl hvo signals jV hin hal u k WAS NW SW hk ht hW hSW hne0;have hS:=zVL hF.full.qW hr len ps vs qq hq0 u' (zKr m zs ss r len ps vs signals jV 0 k).2 NW' SW' hO jV hin hal k hk.ego ht;have hL:=zVP hF.full.qW hr len ps vs qq hq0 u' (zKr m zs ss r len ps vs signals jV 0 k).2 NW' SW' hO jV hin hal k hk.ego ht (zLH len vs jV (zKr m zs ss r len ps vs signals jV 0 k));refine⟨u',_,NW',SW',.inr ⟨(zKr m zs ss r len ps vs signals jV 0 k).2,rfl⟩,hO,hu,?_⟩;generalize zLH len vs jV (zKr m zs ss r len ps vs signals jV 0 k)=x at *;generalize (zKr m zs ss r len ps vs signals jV 0 k).2=kf at *;rw[zUa zKI rfl];cases hq:fbF m r jV k.tick k.ego with
 |none =>
  rw[hq]at hS;clear hL;rcases hq0 with⟨rfl,-⟩ |⟨rfl,-⟩<;>rcases hW with rfl |⟨kw,rfl⟩<;>rcases hSW with⟨rfl,rfl⟩ |⟨k0,y,rfl,rfl⟩<;>rcases hO with⟨rfl,rfl⟩ |⟨k1,y1,rfl,rfl⟩<;>simp only[jM,↓reduceIte,jG,Nat.reduceAdd,jmG,jmA,jmB,jC,zox,zh,zi,zf,zG,own,zJY,zJ4,zJZ,jk,jg,Option.isNone_none]at hS hV<;>simp (maxSteps:=1000000) [zHW,zKX,jmG,jmA,jmB,jC,zox,zh,zi,zf,zG,own,zJY,zJ4,hS,hV,hu,zg,zH]
 |some b =>
  rw[hq]at hS;have hL':=hL b hq b 0 (by omega);clear hL;generalize zKX x (some b)=y2 at *;rcases hq0 with⟨rfl,-⟩ |⟨rfl,-⟩<;>rcases hW with rfl |⟨kw,rfl⟩<;>rcases hSW with⟨rfl,rfl⟩ |⟨k0,y,rfl,rfl⟩<;>rcases hO with⟨rfl,rfl⟩ |⟨k1,y1,rfl,rfl⟩<;>simp only[jM,↓reduceIte,jG,Nat.reduceAdd,jmG,jmA,jmB,jC,zox,zh,zi,zf,zG,own,zJY,zJ4,zVN,zVJ,zJZ,jk,jg,Option.isNone_some,ji]at hS hV hL'<;>simp (maxSteps:=1000000) [zHW,jmG,jmA,jmB,jC,zox,zh,zi,zf,zG,own,zJY,zJ4,hS,hV,hL',hu,zg,zH]
end Go.TrRun
/- Plain laws of cars, ramps, stops and profiles: no program in sight. -/
namespace Go.PlanLaw
structure Car where
 len:Int
 qz:Int
 kW:Int
 vw:Int
 As:Int
def Car.ok(c:Car):Prop:=300<=c.len/\c.len<=20000/\1<=c.qz/\c.qz<=30/\20<=c.kW/\c.kW<=90/\5<=c.vw/\c.vw<=120/\0<=c.As/\c.As<=5
instance(c:Car):Decidable c.ok:=by unfold Car.ok;infer_instance
def zVH(c:Car)(x:Int):Int:=max (-c.kW) (min x c.qz)
def zFX(c:Car)(last w:Int):Int:=max (zVH c last-c.vw) (min (zVH c w) (zVH c last+c.vw))
def doV(v x:Int):Int:=min (max (v+max (-2000) (min x 2000)) 0) 2000
theorem zG1(v x:Int):0<=doV v x/\doV v x<=2000:=by unfold doV;omega
theorem zG2{c:Car}(h:c.ok)(x:Int):-c.kW<=zVH c x/\zVH c x<=c.qz:=by
 obtain⟨h1,h2,h3,h4,h5,h6,h7,h8,h9,h10⟩:=h;unfold zVH;omega
theorem zNt{c:Car}(h:c.ok)(x w:Int):-c.kW<=zFX c x w/\zFX c x w<=c.qz:=by
 have h1:=zG2 h x;have h2:=zG2 h w;obtain⟨h1,h2,h3,h4,h5,h6,h7,h8,h9,h10⟩:=h;unfold zFX;omega
theorem zG3{c:Car}(h:c.ok){x:Int}(h1:-c.kW<=x)(h2:x<=c.qz):zVH c x=x:=by unfold zVH;omega
def zGI(c:Car):Nat->Bool->Int->Int->Option (List Int)
 |0,_,_,_=>none
 |m+1,f,last,v=>if f=true\/0<v\/0<last then(zGI c m false (zFX c last (-c.kW)) (doV v (zFX c last (-c.kW)))).map (zFX c last (-c.kW) :: ·) else some []
theorem zF7(c:Car)(m:Nat)(f:Bool)(last v:Int):zGI c (m+1) f last v=if(f=true\/0<v\/0<last) then(zGI c m false (zFX c last (-c.kW)) (doV v (zFX c last (-c.kW)))).map (zFX c last (-c.kW) :: ·) else some []:=rfl
theorem zG8(v x:Int)(hv:0<=v/\v<=2000)(hx:-100<=x/\x<=100):doV v x=max 0 (min 2000 (v+x)):=by unfold doV;omega
theorem zGx{c:Car}(h:c.ok)(last:Int):zFX c last (-c.kW)=max (zVH c last-c.vw) (-c.kW):=by
 obtain⟨h1,h2,h3,h4,h5,h6,h7,h8,h9,h10⟩:=h;unfold zFX zVH;omega
theorem zGM{c:Car}{last:Int}(h:c.ok)(h1:-c.kW<=last)(h2:last<=c.qz):zFX c last (-c.kW)=max (last-c.vw) (-c.kW):=by
 rw[zGx h last,zG3 h h1 h2]
theorem ends2{c:Car}(h:c.ok):∀(m:Nat) (last v:Int),-c.kW<=last->last<=-20->0<=v->v<=2000->v<=20*m->∃l,zGI c (m+1) false last v=some l/\l.length<=m
 |0,last,v,h1,h2,h3,h4,h5=>⟨[],by
   rw[zF7,if_neg (by simp;omega)],by simp⟩
 |m+1,last,v,h1,h2,h3,h4,h5=>by
  have AJ:=h;obtain⟨q1,q2,q3,q4,q5,q6,q7,q8,q9,q10⟩:=AJ;rw[zF7];split
  ·have hr:=zGM h h1 (by omega:last<=c.qz);have hd:=zG8 v (zFX c last (-c.kW)) ⟨h3,h4⟩ (by omega);obtain⟨l,hl,hn⟩:=ends2 h m (zFX c last (-c.kW)) (doV v (zFX c last (-c.kW))) (by omega) (by omega) (by omega) (by omega) (by omega);exact⟨_::l,by rw[hl];rfl,by simp;omega⟩
  ·exact⟨[],rfl,by simp⟩
theorem ends1{c:Car}(h:c.ok):∀(t:Nat) (last v:Int),-c.kW<=last->last<=c.qz->last<=5*t-20->0<=v->v<=2000->∃l,zGI c (101+t) false last v=some l/\l.length<=100+t
 |0,last,v,h1,h2,h3,h4,h5=>ends2 h 100 last v h1 (by omega) h4 h5 (by omega)
 |t+1,last,v,h1,h2,h3,h4,h5=>by
  have AJ:=h;obtain⟨q1,q2,q3,q4,q5,q6,q7,q8,q9,q10⟩:=AJ;rw[show 101+(t+1)=(101+t)+1 by omega,zF7];split
  ·have hr:=zGM h h1 h2;have hd:=zG1 v (zFX c last (-c.kW));obtain⟨l,hl,hn⟩:=ends1 h t (zFX c last (-c.kW)) (doV v (zFX c last (-c.kW))) (by omega) (by omega) (by omega) hd.1 hd.2;exact⟨_::l,by rw[hl];rfl,by simp;omega⟩
  ·exact⟨[],rfl,by simp⟩
theorem ends{c:Car}(h:c.ok)(last v:Int)(h4:0<=v)(h5:v<=2000):∃l,zGI c 111 true last v=some l/\0<l.length/\l.length<=110:=by
 have AJ:=h;obtain⟨q1,q2,q3,q4,q5,q6,q7,q8,q9,q10⟩:=AJ;have hr:=zGx h last;have hcl:=zG2 h last;have hd:=zG1 v (zFX c last (-c.kW));obtain⟨l,hl,hn⟩:=ends1 h 9 (zFX c last (-c.kW)) (doV v (zFX c last (-c.kW))) (by omega) (by omega) (by omega) hd.1 hd.2;refine⟨_::l,by rw[show 111=(101+9)+1 from rfl,zF7,if_pos (.inl rfl),hl];rfl,by simp,by simp;omega⟩
def stops(c:Car)(last v:Int):List Int:=(zGI c 111 true last v).getD []
theorem zMs{c:Car}(h:c.ok)(last v:Int)(h4:0<=v)(h5:v<=2000):zGI c 111 true last v=some (stops c last v)/\0<(stops c last v).length/\(stops c last v).length<=110:=by
 obtain⟨l,h1,h2,h3⟩:=ends h last v h4 h5;simp only[stops,h1,uz];exact⟨trivial,h2,h3⟩
def chain(c:Car):Int->List Int->Prop
 |_,[]=>True
 |a,x::xs=>(-c.kW<=x/\x<=c.qz)/\(-c.vw<=x-a/\x-a<=c.vw)/\chain c x xs
def zG0:Int->List Int->Int
 |a,[]=>a
 |_,x::xs=>zG0 x xs
def zHd:Int->List Int->Int
 |v,[]=>v
 |v,x::xs=>zHd (doV v x) xs
structure Drv where
 last:Int
 v:Int
 l:List Int
def Drv.Ac(s:Drv)(a:Int):Drv:=⟨a,doV s.v a,s.l++[a]⟩
def Drv.ur(c:Car)(w:Int):Nat->Drv->Drv
 |0,s=>s
 |n+1,s=>Drv.ur c w n (s.Ac (zFX c s.last w))
def Drv.queue:List Int->Drv->Drv
 |[],s=>s
 |x::xs,s=>Drv.queue xs (s.Ac x)
def zJ2(c:Car)(q:List Int)(last v:Int)(up hold:Nat):List Int :=
 let s:=(((Drv.mk last v []).queue (q.take 5)) |>.ur c c.qz up) |>.ur c 0 hold
 s.l++stops c s.last s.v
def Drv.from(c:Car)(a:Int)(s:Drv):Prop:=chain c a s.l/\s.last=zG0 a s.l/\0<=s.v/\s.v<=2000
theorem Drv.yk{c:Car}{w:Int}:∀{n:Nat} {s:Drv},(Drv.ur c w n s).l.length=s.l.length+n
 |0,s=>rfl
 |n+1,s=>by rw[Drv.ur,Drv.yk];simp[Drv.Ac];omega
theorem Drv.Ai:∀{q:List Int} {s:Drv},(Drv.queue q s).l.length=s.l.length+q.length
 |[],s=>rfl
 |x::q,s=>by rw[Drv.queue,Drv.Ai];simp[Drv.Ac];omega
theorem Drv.BG:∀{q:List Int} {s:Drv},(Drv.queue q s).l=s.l++q
 |[],s=>by simp[Drv.queue]
 |x::q,s=>by rw[Drv.queue,Drv.BG];simp[Drv.Ac]
def zLD(c:Car)(x:Int):Bool:=!(decide (-c.kW<=x)&&decide (x<=c.qz))
def zIY(c:Car):Int->List Int->Bool
 |_,[]=>false
 |l,x::xs=>!(decide (-c.vw<=x-l)&&decide (x-l<=c.vw))||zIY c x xs
def uO(c:Car)(l:List Int):Int :=
 if ¬c.ok then 2 else if l.length=0 then 6 else if 200<l.length then 5
 else if 0<l.getLastD 0 then 2 else if l.any (zLD c) then 2 else if zIY c (l.headD 0) l then 11 else 0
end Go.PlanLaw
namespace Go.TrRun.Pl
open Go Go.Eng Go.PlanLaw
def kL(c:Car):List Cl:=[I c.len,I c.qz,I c.kW,I c.vw,I c.As]
theorem zF6(x a b:Int):R L Cs zGF [W x,W a,W b] []=some (.w (Bo (decide (a<=x)&&decide (x<=b))),[]):=by
 rw[zUa zGH rfl];by_cases h:a<=x<;>simp[zF3,h]
theorem zGS{c:Car}(h:c.ok):R L Cs zGe [.a (kL c)] []=some (.w (W 0),[]):=by
 obtain⟨h1,h2,h3,h4,h5,h6,h7,h8,h9,h10⟩:=h;rw[zUa zGf rfl];simp[zFN,kL,zF6,h1,h2,h3,h4,h5,h6,h7,h8,h9,h10]
theorem yY{c:Car}(h:c.ok):R L Cs zFU [.a (kL c)] []=some (.w (W 0),[]):=by
 obtain⟨h1,h2,h3,h4,h5,h6,h7,h8,h9,h10⟩:=h;rw[zUa zFV rfl];simp[zFH,kL,qQ.2 h1,qQ.2 h2,qQ.2 h3,qQ.2 h4,qQ.2 h5,qQ.2 h6,qQ.2 h7,qQ.2 h8,qQ.2 h9,qQ.2 h10]
abbrev P0:WV:=.c (.ptr 0 0 0 0)
def Drv.run(s:Drv)(l:List Int):Drv:=⟨zG0 s.last l,zHd s.v l,s.l++l⟩
theorem zOs{l:List Int}{i:Nat}(h:i<l.length):(zu l)[i]?=some [I l[i]]:=by simp[zu,h]
abbrev zKk(c:Car):Blk:={ box:=true,esz:=5,rows:=[kL c],gen:=0,fz:=false,ver:=0 }
abbrev fnB:WV:=.c (.fn zLp [] [.ptr 0 0 0 0])
theorem zOO{c:Car}(hc:c.ok)(x:Int):R L Cs zLp [W x,P0] [some (zKk c)]=some (.w (Bo (zLD c x)),[some (zKk c)]):=by
 obtain⟨h1,h2,h3,h4,h5,h6,h7,h8,h9,h10⟩:=hc;have hw:=kr (-c.kW);rw[zUa zMQ rfl];simp[zGB,kL,hw,zF6,zLD]
theorem zO5{c:Car}(hc:c.ok)(l:List Int)(hl:l.length<=1000):∀(r:List Int) (i:Nat),l.drop i=r->i<=l.length ->
  (r.any (zLD c)=false->∃E',Y L Cs zFZ (some [7,1,0,8]) 1 [(7,.w (W l.length)),(1,.w fnB),(0,.w (.c (.jc (zu l)))),(8,.w (W i))] [some (zKk c)]=some (.exit 0,E',[some (zKk c)])) /\
  (r.any (zLD c)=true->∃k:Nat,Y L Cs zFZ (some [7,1,0,8]) 1 [(7,.w (W l.length)),(1,.w fnB),(0,.w (.c (.jc (zu l)))),(8,.w (W i))] [some (zKk c)]=some (.ret,[(4,.w (W k))],[some (zKk c)])):=by
 intro r;induction r with
 |nil =>
  intro i hd hi;obtain rfl:=zUb hd hi;refine⟨fun _=>⟨_,zhJ (r:=(.exit 0,[(9,.w (Bo false)),(0,.w (.c (.jc (zu l)))),(1,.w fnB),(7,.w (W l.length)),(8,.w (W l.length))],[some (zKk c)])) ?_ (by simp)⟩,fun h=>by simp at h⟩;simp[zFZ]
 |cons x r ih =>
  intro i hd hi;obtain⟨hil,hx,hd'⟩:=zL hd;obtain⟨ih1,ih2⟩:=ih (i+1) hd' hil;have hch:=zOO hc x;have hw:=zB (i:=i) (by omega);have hg:=zOs hil;rw[hx]at hg;by_cases hb:zLD c x=true
  ·refine⟨fun h=>by simp[hb]at h,fun _=>⟨i,zhJ ?_ (by simp)⟩⟩;rw[hb]at hch;simp[zKk,kL]at hch;simp[zFZ,hil,hx,hch,zKk,kL]
  ·have hb:zLD c x=false:=by simpa using hb
   rw[hb]at hch;simp[zKk,kL]at hch;have vL:Y L Cs zFZ (some [7,1,0,8]) 1 [(7,.w (W l.length)),(1,.w fnB),(0,.w (.c (.jc (zu l)))),(8,.w (W i))] [some (zKk c)] =
     Y L Cs zFZ (some [7,1,0,8]) 1 [(7,.w (W l.length)),(1,.w fnB),(0,.w (.c (.jc (zu l)))),(8,.w (W (i+1:Nat)))] [some (zKk c)]:=by
    rw[zrL];simp[zFZ,hil,hx,hch,zKk,kL,hw]
   rw[vL];simp only[yg,hb,uk];exact⟨ih1,ih2⟩
theorem zvV{c:Car}(hc:c.ok)(l:List Int)(hl:l.length<=1000):∃k:Int,R L Cs zK9 [.c (.jc (zu l)),fnB] [some (zKk c)]=some (.w (W k),[some (zKk c)])/\(decide (0<=k)=l.any (zLD c)):=by
 obtain⟨h1,h2⟩:=zO5 hc l hl l 0 rfl (jA _);cases hb:l.any (zLD c)with
 |false =>
  obtain⟨E',hE⟩:=h1 hb;refine⟨-1,?_,by decide⟩;rw[zUa zKx rfl];simp at hE;simp[zF2,hE]
 |true =>
  obtain⟨k,hE⟩:=h2 hb;refine⟨k,?_,by simp⟩;rw[zUa zKx rfl];simp at hE;simp[zF2,hE]
theorem zMN{c:Car}(hc:c.ok)(l:List Int)(hl:l.length<=1000):R L Cs zKQ [.c (.jc (zu l)),fnB] [some (zKk c)]=some (.w (Bo (l.any (zLD c))),[some (zKk c)]):=by
 obtain⟨k,h1,h2⟩:=zvV hc l hl;rw[zUa zKT rfl];simp[zKk,kL]at h1;simp[zF0,h1,h2,zKk,kL]
abbrev zKp(l:List Int):Blk:={ box:=true,esz:=1,rows:=[[.jc (zu l)]],gen:=0,fz:=false,ver:=0 }
theorem zw9{c:Car}(hc:c.ok)(l:List Int)(hl:l.length<=1000)(hr:∀x∈l,-1000<=x/\x<=1000):∀(r:List Int) (i:Nat) (a:Int),-1000<=a/\a<=1000->l.drop i=r->i<=l.length ->
  (zIY c a r=false->∃E',Y L Cs zGw (some [7,44,43,2,45]) 2 [(7,.w (W a)),(44,.w (W l.length)),(43,.w (.c (.jc (zu l)))),(2,.w P0),(45,.w (W i))] [some (zKk c),some (zKp l)]=some (.exit 1,E',[some (zKk c),some (zKp l)])) /\
  (zIY c a r=true->Y L Cs zGw (some [7,44,43,2,45]) 2 [(7,.w (W a)),(44,.w (W l.length)),(43,.w (.c (.jc (zu l)))),(2,.w P0),(45,.w (W i))] [some (zKk c),some (zKp l)]=some (.ret,[(4,.w (W 11))],[some (zKk c),some (zKp l)])):=by
 intro r;have hcc:=hc;obtain⟨q1,q2,q3,q4,q5,q6,q7,q8,q9,q10⟩:=hcc;have hwr:=kr (-c.vw);induction r with
 |nil =>
  intro i a ha hd hi;obtain rfl:=zUb hd hi;refine⟨fun _=>⟨_,zhJ (r:=(.exit 1,[(46,.w (Bo false)),(7,.w (W a)),(2,.w P0),(43,.w (.c (.jc (zu l)))),(44,.w (W l.length)),(45,.w (W l.length))],[some (zKk c),some (zKp l)])) ?_ (by simp)⟩,fun h=>by simp[zIY]at h⟩;simp[zGw]
 |cons x r ih =>
  intro i a ha hd hi;obtain⟨hil,hx,hd'⟩:=zL hd;have hxr:=hr x (by rw[<-hx];exact jf hil);obtain⟨ih1,ih2⟩:=ih (i+1) x hxr hd' hil;have hw:=zB (i:=i) (by omega);have hws:=kr (x-a);have hwi:=zF6 (x-a) (-c.vw) c.vw;by_cases hb:(decide (-c.vw<=x-a)&&decide (x-a<=c.vw))=true
  ·rw[hb]at hwi;have vL:Y L Cs zGw (some [7,44,43,2,45]) 2 [(7,.w (W a)),(44,.w (W l.length)),(43,.w (.c (.jc (zu l)))),(2,.w P0),(45,.w (W i))] [some (zKk c),some (zKp l)] =
     Y L Cs zGw (some [7,44,43,2,45]) 2 [(7,.w (W x)),(44,.w (W l.length)),(43,.w (.c (.jc (zu l)))),(2,.w P0),(45,.w (W (i+1:Nat)))] [some (zKk c),some (zKp l)]:=by
    rw[zrL];simp[zGw,hil,hx,zKk,kL,hw,hws,hwr,hwi]
   rw[vL];simp only[zIY,hb,Bool.not_true,uk];exact⟨ih1,ih2⟩
  ·have hb:(decide (-c.vw<=x-a)&&decide (x-a<=c.vw))=false:=by simpa using hb
   rw[hb]at hwi;refine⟨fun h=>(by simp only[zIY,hb,Bool.not_false,Bool.true_or]at h;cases h),fun _=>zhJ ?_ (by simp)⟩;simp[zGw,hil,hx,zKk,kL,hw,hws,hwr,hwi]
theorem zPK{c:Car}(hc:c.ok)(l:List Int)(hl:l.length<=1000):R L Cs zLZ [.a (kL c),.a [.jc (zu l)]] []=some (.w (W (uO c l)),[]):=by
 have hck:=zGS hc;have hcf:=zMN hc l hl;simp[zKk,kL]at hck hcf;rw[zUa zL3 rfl];cases l with
 |nil=>simp[zGK,kL,hck,uO,hc]
 |cons x r =>
 simp only[zaP]at hcf;have hne:¬((r.length:Int)+1=0):=by omega
 by_cases h200:200<r.length+1
 ·have AZ:(200:Int)<(r.length:Int)+1:=by omega
  simp[zGK,kL,hck,uO,hc,hne,h200,AZ]
 have AZ:¬(200:Int)<(r.length:Int)+1:=by omega
 have uC:∀h,([I x]::zu r)[r.length]'h=[I ((x::r).getLastD 0)]:=by
  intro h;have e:[I x]::zu r=zu (x::r):=rfl;simp only[e,zBd];simp[List.getLastD_eq_getLast?,List.getLast?_eq_getElem?]
 have hw:IntKind.i64.wrap (r.length:Int)=r.length:=zTd _ (by omega) (by omega);simp only[List.getLastD_cons]at uC;have hlt:(r.length:Int)<(r.length:Int)+1:=by omega
 have hF:uO c (x::r)=if 0<r.getLastD x then 2 else if(x::r).any (zLD c)=true then 2 else if zIY c x (x::r)=true then 11 else 0:=by
  unfold uO;rw[if_neg (by simp[hc]),if_neg (by simp),if_neg (by simpa using h200),List.getLastD_cons,List.headD_cons]
 rw[hF];generalize r.getLastD x=z at uC;by_cases hp:0<z
 ·simp[zGK,kL,hck,hne,AZ,hlt,uC,hw,hp]
 have hlen:((r.length:Int)+1)=((x::r).length:Nat):=by simp
 by_cases hb:(x::r).any (zLD c)=true
 ·rw[hb]at hcf;simp only[yg]at hb;simp[zGK,kL,hck,hne,AZ,hlt,uC,hw,hp,hcf,hb]
 ·have hb:(x::r).any (zLD c)=false:=by simpa using hb
  have hr:∀y∈(x::r),-1000<=y/\y<=1000:=by
   intro y hy;have h1:=List.any_eq_false.1 hb y hy;obtain⟨q1,q2,q3,q4,q5,q6,q7,q8,q9,q10⟩:=hc;simp[zLD]at h1;omega
  obtain⟨h1,h2⟩:=zw9 hc (x::r) hl hr (x::r) 0 x (hr x (jp ..)) rfl (jA _);rw[hb]at hcf;cases hs:zIY c x (x::r)with
  |false =>
   obtain⟨E',h1⟩:=h1 hs;simp[zKk,kL,zKp]at h1;simp[zGK,kL,hck,hne,AZ,hlt,uC,hw,hp,hcf,hb,hs,h1]
   |true =>
   have h2:=h2 hs;simp[zKk,kL,zKp]at h2;simp[zGK,kL,hck,hne,AZ,hlt,uC,hw,hp,hcf,hb,hs,h2]
 end Go.TrRun.Pl
namespace Go.TrRun.Pl
open Go Go.Eng Go.PlanLaw
theorem zOl(x n:Int)(hn:0<n):(if x.tmod n<0 then x.tmod n+n else x.tmod n)=x % n:=by
 have h1:=qi x (by omega:n≠0);have h2:=k8 x hn;have h3:=Int.tmod_eq_emod (a:=x) (b:=n);split at h3
 ·rw[h3];split<;>omega
 ·have e:(n.natAbs:Int)=n:=by omega
  rw[e]at h3;rw[h3];split<;>omega
theorem zD0(x n:Int)(hn:0<n)(hn':n<=1000000000000):R L Cs zEd [W x,W n] []=some (.w (W (x % n)),[]):=by
 have h0:=zOl x n hn;have h1:=qi x (by omega:n≠0);have h2:=k8 x hn;have h3:=Int.tmod_lt_of_pos x hn;have h4:=Int.lt_tmod_of_pos x hn;have hne:n≠0:=by omega
 rw[zUa zEh rfl];by_cases h:x.tmod n<0
 ·rw[if_pos h]at h0;have hw:=kr (x % n);simp[zDP,hne,h,h0,hw]
 ·rw[if_neg h]at h0;simp[zDP,hne,h];exact h0
def Bf(l a b r:Int):Car:=⟨300+l % 4700,1+a % 30,50+b % 41,20+r % 101,0⟩
theorem Ca(l a b r:Int):(Bf l a b r).ok:=by
 simp only[Car.ok,Bf];omega
theorem R_made(l a b r:Int):R L Cs zLl [.a [I l,I a,I b,I r]] []=some (.w (.a (kL (Bf l a b r))),[]):=by
 have m1:=zD0 l 4700 (by omega) (by omega);have m2:=zD0 a 30 (by omega) (by omega);have m3:=zD0 b 41 (by omega) (by omega);have m4:=zD0 r 101 (by omega) (by omega);have w1:=kr (300+l % 4700);have w2:=kr (1+a % 30);have w3:=kr (50+b % 41);have w4:=kr (20+r % 101);rw[zUa zLo rfl];simp[zHT,m1,m2,m3,m4,w1,w2,w3,w4,kL,Bf]
theorem CA:R L Cs zF9 [] []=some (.w (Bo true),[]):=zah.2 ⟨200,by kernel_rfl⟩
theorem An{c:Car}(h:c.ok)(a w:Int):R L Cs zSz [.a (kL c),W a,W w] []=some (.w (W (zFX c a w)),[]):=by
 have hk1:=zG2 h a;have hk2:=zG2 h w;obtain⟨h1,h2,h3,h4,h5,h6,h7,h8,h9,h10⟩:=h;have w0:=kr (-c.kW);have w1:=kr (zVH c a-c.vw);have w2:=kr (zVH c a+c.vw);simp only[zVH]at w1 w2;rw[zUa zSA rfl];simp[zSm,kL,w0,w1,w2,zFX,zVH]
abbrev Pt(k:Nat):WV:=.c (.ptr k 0 0 0)
def BF(c:Car):Int:=if c.ok then 0 else 2
theorem yL(c:Car):R L Cs zGe [.a (kL c)] []=some (.w (W (BF c)),[]):=by
 by_cases h:c.ok
 ·rw[BF,if_pos h];exact zGS h
 rw[BF,if_neg h,zUa zGf rfl];have e:¬(((decide (300<=c.len)&&decide (c.len<=20000))=true)/\((decide (1<=c.qz)&&decide (c.qz<=30))=true)/\((decide (20<=c.kW)&&decide (c.kW<=90))=true)/\((decide (5<=c.vw)&&decide (c.vw<=120))=true)/\((decide (0<=c.As)&&decide (c.As<=5))=true)):=by
  intro e;simp only[jh,decide_eq_true_eq]at e;exact h (by simp only[Car.ok];omega)
 have w1:=zF6 c.len 300 20000;have w2:=zF6 c.qz 1 30;have w3:=zF6 c.kW 20 90;have w4:=zF6 c.vw 5 120;have w5:=zF6 c.As 0 5;generalize (decide (300<=c.len)&&decide (c.len<=20000))=b1 at *;generalize (decide (1<=c.qz)&&decide (c.qz<=30))=b2 at *;generalize (decide (20<=c.kW)&&decide (c.kW<=90))=b3 at *;generalize (decide (5<=c.vw)&&decide (c.vw<=120))=b4 at *;generalize (decide (0<=c.As)&&decide (c.As<=5))=b5 at *;cases b1 with
 |false=>simp[zFN,kL,w1]
 |true=>cases b2 with
  |false=>simp[zFN,kL,w1,w2]
  |true=>cases b3 with
   |false=>simp[zFN,kL,w1,w2,w3]
   |true=>cases b4 with
    |false=>simp[zFN,kL,w1,w2,w3,w4]
    |true=>cases b5 with
     |false=>simp[zFN,kL,w1,w2,w3,w4,w5]
     |true=>simp at e
theorem Bs(c:Car)(l:List Int)(hl:l.length<=1000):R L Cs zLZ [.a (kL c),.a [.jc (zu l)]] []=some (.w (W (uO c l)),[]):=by
 by_cases h:c.ok
 ·exact zPK h l hl
 have h1:=yL c;rw[BF,if_neg h]at h1;simp only[kL]at h1;rw[uO,if_pos h,zUa zL3 rfl];simp[zGK,kL,h1]
end Go.TrRun.Pl
namespace Go.TrRun
open Go Go.Eng
abbrev zK8:=Go.PlanLaw.Car
def zKW(m:zD)(r:List Int)(c:zK8)(k:zci):Bool:=decide (zdA m r=0)&&decide (zaK m (r.headD 0)=1)&&decide (Pl.BF c=0)&&decide (zdf m k=0)
theorem zPi{m:zD}{zs:List Zon}{ss:List Sgn}(hF:zKj m zs ss)(r:List Int)(hl:r.length<=1000)(c:zK8)(k:zci)(hk:k.jQ.length<=100000000000) :
  R L Cs zNB [.a (zf m),.c (.jc (zu r)),.a (Pl.kL c),.a (zG k)] []=some (.w (Bo (zKW m r c k)),[]):=by
 have h:=hF.full.qW;have h1:=zQC h hF.fit.1;have h2:=zos m h.small h.chk r hl;have h3:=Pl.yL c;have h4:=zuu h k hk;unfold zKW;by_cases hr:zdA m r=0
 ·obtain⟨hon,hne,hl8⟩:=zg1 h hr;obtain⟨x0,r',rfl⟩:∃x r',r=x::r':=by cases r with|nil=>exact absurd rfl hne|cons x r'=>exact⟨x,r',rfl⟩
  have hx0:=hon x0 (jp ..);obtain⟨n,rfl⟩:=jv hx0.1;have hn:n<m.jb.length:=by omega
  have hni:(n:Int)<m.jb.length:=by omega
  have ek:zaK m n=m.jb[n].kind:=by simp[zaK,hn]
  have e0:((n:Int)::r').headD 0=n:=rfl;rw[hr]at h2;rw[e0,ek];generalize hcv:Pl.BF c=cv at *;generalize hkv:zdf m k=kv at *;have w1:IntKind.i64.wrap 1=1:=rfl;have w0:IntKind.i64.wrap 0=0:=rfl;simp only[zf,zG,Pl.kL,zaP]at h1 h2 h3 h4;rw[zUa zMf rfl];rw[show decide (zdA m ((n:Int)::r')=0)=true from by simp[hr],vt];by_cases c1:m.jb[n].kind=1
  ·have b1:(m.jb[n].kind==1)=true:=by simp[c1]
   by_cases c2:cv=0
   ·have b2:(cv==0)=true:=by simp[c2]
    by_cases c3:kv=0
    ·have b3:(kv==0)=true:=by simp[c3]
     simp (maxSteps:=1000000) [zIW,zf,zG,Pl.kL,zo,h1,h2,h3,h4,hn,hni,c1,b1,c2,b2,c3,b3,zg,zH]
    ·have b3:(kv==0)=false:=by simp[c3]
     simp (maxSteps:=1000000) [zIW,zf,zG,Pl.kL,zo,h1,h2,h3,h4,hn,hni,c1,b1,c2,b2,c3,b3,zg,zH]
   ·have b2:(cv==0)=false:=by simp[c2]
    simp (maxSteps:=1000000) [zIW,zf,zG,Pl.kL,zo,h1,h2,h3,h4,hn,hni,c1,b1,c2,b2,zg,zH]
  ·have b1:(m.jb[n].kind==1)=false:=by simp[c1]
   simp (maxSteps:=1000000) [zIW,zf,zG,Pl.kL,zo,h1,h2,h3,h4,hn,hni,c1,b1,zg,zH]
 ·have hb:(zdA m r==0)=false:=by simp[hr]
  simp only[zf]at h1 h2;rw[zUa zMf rfl];generalize zdA m r=rv at *;simp[zIW,zf,zG,Pl.kL,h1,h2,hr,hb,zg,zH]
def zPn(zs:List Zon)(p:Pss):Prop:=(0<=p.kO/\p.kO<zs.length)/\0<=p.part/\p.part<(zMh zs p.kO).length
theorem zOf(st:Int)(z:Nat)(x:Int):∀(l:List Prt) (k:Nat) (p:Pss),p∈zLB st z x k l->p.kO=z/\(k:Int)<=p.part/\p.part<k+l.length
 |[],k,p,h=>by cases h
 |q::l,k,p,h=>by
  have ih:=zOf st z x l (k+1) p;unfold zLB at h;split at h
  ·rcases jB.1 h with rfl|h'
   ·simp only[jm];exact⟨trivial,by omega,by omega⟩
   ·have:=ih h';simp only[jm];omega
  ·have:=ih h;simp only[jm];omega
theorem zOe(st x:Int)(zs:List Zon):∀(l:List Zon) (z:Nat) (p:Pss),zs.drop z=l->p∈zLA st x z l->zPn zs p
 |[],z,p,_,h=>by cases h
 |q::l,z,p,hd,h=>by
  obtain⟨hz,hq,hd'⟩:=zL hd;unfold zLA at h;rcases jx.1 h with h'|h'
  ·have:=zOf st z x q.parts 0 p h';have e:zMh zs p.kO=q.parts:=by rw[this.1];simp[zMh,hz,hq]
   exact⟨by omega,by omega,by rw[e];omega⟩
  ·exact zOe st x zs l (z+1) p hd' h'
theorem zNh(m:zD)(zs:List Zon):∀(r:List Int) (a:Int) (p:Pss),p∈zKh m zs a r->zPn zs p
 |[],a,p,h=>by cases h
 |x::r,a,p,h=>by
  unfold zKh at h;rcases jx.1 h with h'|h'
  ·exact zOe a x zs zs 0 p rfl h'
  ·exact zNh m zs r _ p h'
def zLV(z:Int):List Pss->Pss×Pss×Bool->Pss×Pss×Bool
 |[],v=>v
 |p::t,v=>zLV z t (if p.kO=z then(if v.2.2 then v.1 else p,p,true) else v)
def zNx(ps:List Pss)(z:Int):Pss×Pss×Bool:=zLV z ps (zKw,zKw,false)
theorem zPq(z:Int):∀(t:List Pss) (v:Vis) (w:Pss×Pss×Bool),(∀p∈t,0<=p.part)->v.kO=z->(w.2.2=true->0<=v.entry/\v.entry=w.1.part)->(w.2.2=false->v.entry=-1)->v.first=w.1->v.last=w.2.1 ->
  (t.foldl (zJ5 z) v).kO=z/\((zLV z t w).2.2=true->0<=(t.foldl (zJ5 z) v).entry/\(t.foldl (zJ5 z) v).entry=(zLV z t w).1.part)/\((zLV z t w).2.2=false->(t.foldl (zJ5 z) v).entry=-1)/\(t.foldl (zJ5 z) v).first=(zLV z t w).1/\(t.foldl (zJ5 z) v).last=(zLV z t w).2.1:=by
 intro t;induction t with
 |nil=>intro v w _ h1 h2 h3 h4 h5;exact⟨h1,h2,h3,h4,h5⟩
 |cons p t ih =>
  intro v w hp h1 h2 h3 h4 h5;rw[jN];unfold zLV;have hp0:=hp p (jp ..);have hpt:∀q∈t,0<=q.part:=fun q hq=>hp q (jr _ hq)
  by_cases c:p.kO=z
  ·rw[if_pos c];cases hw:w.2.2 with
   |true =>
    obtain⟨g1,g2⟩:=h2 hw;have e:zJ5 z v p=⟨v.kO,v.entry,v.first,p⟩:=by simp only[zJ5,c,if_true,show ¬v.entry<0 by omega,if_false]
    rw[e];exact ih _ _ hpt h1 (fun _=>⟨g1,g2⟩) (fun q=>by cases q) h4 rfl
   |false =>
    have g:=h3 hw;have e:zJ5 z v p=⟨v.kO,p.part,p,p⟩:=by simp only[zJ5,c,if_true,show v.entry<0 by omega]
    rw[e];exact ih _ _ hpt h1 (fun _=>⟨hp0,rfl⟩) (fun q=>by cases q) rfl rfl
  ·rw[if_neg c];have e:zJ5 z v p=v:=by simp only[zJ5,c,if_false]
   rw[e];exact ih v w hpt h1 h2 h3 h4 h5
theorem zOR(ps:List Pss)(hp:∀p∈ps,0<=p.part)(z:Int):(zKn ps z).kO=z/\((zNx ps z).2.2=true->0<=(zKn ps z).entry/\(zKn ps z).entry=(zNx ps z).1.part)/\((zNx ps z).2.2=false->(zKn ps z).entry=-1)/\(zKn ps z).first=(zNx ps z).1/\(zKn ps z).last=(zNx ps z).2.1 :=
 zPq z ps ⟨z,-1,zKw,zKw⟩ (zKw,zKw,false) hp rfl (fun q=>by cases q) (fun _=>rfl) rfl rfl
theorem zPt(z:Int):∀(t:List Pss) (w:Pss×Pss×Bool),(zLV z t w).2.2=true->w.2.2=false->∃p∈t,p.kO=z/\(zLV z t w).1=p:=by
 have uN:∀(t:List Pss) (w:Pss×Pss×Bool),w.2.2=true->(zLV z t w).1=w.1:=by
  intro t;induction t with
  |nil=>intro w _;rfl
  |cons p t ih =>
   intro w hw;unfold zLV;by_cases c:p.kO=z
   ·rw[if_pos c,ih _ rfl,hw];rfl
   ·rw[if_neg c,ih _ hw]
 intro t;induction t with
 |nil=>intro w h1 h2;rw[show zLV z [] w=w from rfl,h2]at h1;cases h1
 |cons p t ih =>
  intro w h1 h2;unfold zLV at h1 ⊢;by_cases c:p.kO=z
  ·rw[if_pos c];refine⟨p,jp ..,c,?_⟩;rw[uN _ _ rfl,h2];rfl
  ·rw[if_neg c]at h1 ⊢;obtain⟨q,h3,h4⟩:=ih w h1 h2;exact⟨q,jr _ h3,h4⟩
theorem zNn(ps:List Pss):∀(n z:Nat) (v:Vis),v∈zKE ps z n<->∃y:Nat,z<=y/\y<z+n/\0<=(zKn ps y).entry/\v=zKn ps y
 |0,z,v=>by simp[zKE];intro y h1 h2;omega
 |n+1,z,v=>by
  have ih:=zNn ps n (z+1) v;unfold zKE;by_cases c:0<=(zKn ps z).entry
  ·rw[if_pos c,jB,ih];constructor
   ·rintro(rfl |⟨y,h1,h2,h3,h4⟩)
    ·exact⟨z,jl _,by omega,c,rfl⟩
    ·exact⟨y,by omega,by omega,h3,h4⟩
   ·rintro⟨y,h1,h2,h3,h4⟩;by_cases e:y=z
    ·subst e;exact .inl h4
    ·exact .inr ⟨y,by omega,by omega,h3,h4⟩
  ·rw[if_neg c,ih];constructor
   ·rintro⟨y,h1,h2,h3,h4⟩;exact⟨y,by omega,by omega,h3,h4⟩
   ·rintro⟨y,h1,h2,h3,h4⟩;by_cases e:y=z
    ·subst e;exact absurd h3 c
    ·exact⟨y,by omega,by omega,h3,h4⟩
theorem zNo(ps:List Pss):∀(n z:Nat),(zKE ps z n).length<=n
 |0,z=>by simp[zKE]
 |n+1,z=>by
  have:=zNo ps n (z+1);unfold zKE;split<;>simp<;>omega
theorem zPr{m:zD}{zs:List Zon}{ss:List Sgn}(hF:zKj m zs ss)(r:List Int):∀v∈zKE (zKh m zs 0 r) 0 zs.length,zKN zs v:=by
 intro v hv;obtain⟨y,_,h2,h3,rfl⟩:=(zNn _ _ _ _).1 hv;have hp:∀p∈zKh m zs 0 r,0<=p.part:=fun p hp=>(zNh m zs r 0 p hp).2.1
 obtain⟨k1,k2,k3,k4,k5⟩:=zOR (zKh m zs 0 r) hp y;have hb:(zNx (zKh m zs 0 r) y).2.2=true:=by
  cases hq:(zNx (zKh m zs 0 r) y).2.2 with
  |true=>rfl
  |false=>have:=k3 hq;omega
 obtain⟨p,hpm,hpz,hpe⟩:=zPt y _ _ hb rfl;have hok:=zNh m zs r 0 p hpm;have he:=(k2 hb).2;rw[show(zNx (zKh m zs 0 r) y).1=p from hpe]at he;have hyl:y<zs.length:=by omega
 refine⟨by rw[k1];omega,?_,?_⟩
 ·rw[k1];have:=hF.full.zd.pfew zs[y] (jf hyl);simpa [zMh,hyl]using this
 ·rw[k1,he];have:=hok.2;rw[hpz]at this;exact this
abbrev pvV(m:zD)(zs:List Zon)(r:List Int):List Vis:=zKE (zKh m zs 0 r) 0 zs.length
def zNw(m:zD)(zs:List Zon)(ss:List Sgn)(r:List Int)(len:Int)(k:zci)(jV:List Int)(signals:Bool):Bool×Int×Int :=
 zKX (zLH len (pvV m zs r) jV (zKr m zs ss r len (zKh m zs 0 r) (pvV m zs r) signals jV 0 k)) (fbF m r jV k.tick k.ego)
theorem zL8{m:zD}{zs:List Zon}{ss:List Sgn}(hF:zKj m zs ss){r:List Int}(hr:zdA m r=0)(len:Int)(hlen:0<=len/\len<=20000)(signals:Bool)(jV:List Int)(hin:∀a∈jV,zk0 a)(hal:jV.length<=500)(u:Nat)(k:zci)(WAS NW:List Cl)(SW:Cl)(hk:KJ m k)(ht:0<=k.tick/\k.tick<=1099511627776)(hW:zMo WAS)(hSW:zKq NW SW)(hne0:jV≠[]) :
  ∃u' WAS' NW' SW',zMo WAS'/\zKq NW' SW'/\u'≠u/\R L Cs zKv [J0,.a (zG k),.a [.jc (zu jV)],Bo signals] (zJ3 m r len (zKh m zs 0 r) (pvV m zs r) u WAS NW SW) =
   some (.w (.a (zJ4 (zNw m zs ss r len k jV signals))),zJ3 m r len (zKh m zs 0 r) (pvV m zs r) u' WAS' NW' SW'):=by
 have hvo:=zPr hF r;have hvl:(pvV m zs r).length<=zs.length:=zNo (zKh m zs 0 r) zs.length 0;have htwo:=hF.two;have hp:=hF.few r hr;obtain⟨qq,hq0⟩:∃qq,qq=0/\pvV m zs r=[]\/qq=1/\pvV m zs r≠[]:=by
  by_cases h0:pvV m zs r=[]
  ·exact⟨0,.inl ⟨rfl,h0⟩⟩
  ·exact⟨1,.inr ⟨rfl,h0⟩⟩
 obtain⟨u',W',N',S',a,b,hu,h⟩:=zVQ hF hr len hlen (zKh m zs 0 r) (by omega) (pvV m zs r) qq hq0 (by omega) hvo signals jV hin hal u k WAS NW SW hk ht hW hSW hne0;refine⟨u',W',N',S',a,b,hu,?_⟩;simp only[zJ3,zVW hq0];exact h
def zOk(m:zD)(zs:List Zon)(ss:List Sgn)(r:List Int)(c:zK8)(k:zci)(jV:List Int)(signals:Bool):Bool×Int×Int :=
 if zKW m r c k=true/\Go.PlanLaw.uO c jV=0 then zNw m zs ss r c.len k jV signals else(false,0,1)
theorem zVR{c:zK8}{l:List Int}(h:Go.PlanLaw.uO c l=0):c.ok/\l≠[]/\l.length<=200:=by
 unfold Go.PlanLaw.uO at h;split at h
 ·cases h
 ·rename_i h1;split at h
  ·cases h
  ·rename_i h2;split at h
   ·cases h
   ·rename_i h3;exact⟨Classical.not_not.1 h1,fun e=>h2 (by rw[e];rfl),by omega⟩
theorem zNz{m:zD}{r:List Int}{c:zK8}{k:zci}(h:zKW m r c k=true):zdA m r=0/\zaK m (r.headD 0)=1/\c.ok/\zdf m k=0:=by
 unfold zKW at h;simp only[jh,decide_eq_true_eq]at h;refine⟨h.1.1.1,h.1.1.2,?_,h.2⟩;have:=h.1.2;unfold Pl.BF at this;split at this
 ·assumption
 ·cases this
theorem zOJ{m:zD}{zs:List Zon}{ss:List Sgn}(hF:zKj m zs ss)(r:List Int)(hl:r.length<=1000)(c:zK8)(k:zci)(hk:k.jQ.length<=100000000000)(jV:List Int)(hin:∀a∈jV,zk0 a)(hal:jV.length<=1000)(signals:Bool) :
  R L Cs zMY [.a (zf m),.c (.jc (zu r)),.a (Pl.kL c),.a (zG k),.a [.jc (zu jV)],Bo signals] []=some (.w (.a (zJ4 (zOk m zs ss r c k jV signals))),[]):=by
 have h1:=zPi hF r hl c k hk;have h2:=Pl.Bs c jV hal;unfold zOk;simp only[zf,zG,Pl.kL]at h1 h2;by_cases d1:zKW m r c k=true
 ·rw[d1]at h1;by_cases d2:Go.PlanLaw.uO c jV=0
  ·rw[if_pos ⟨d1,d2⟩];rw[d2]at h2;obtain⟨hr,_,hc,hck⟩:=zNz d1;obtain⟨_,hne,hal2⟩:=zVR d2;have hke:=zte hck;have hc1:=hc.1;have hc2:=hc.2.1;have hkj:=zPP hF.full.qW hck;obtain⟨u,h3⟩:=zMM hF hr c.len;obtain⟨u',W',N',S',oW,oS,hu,h4⟩:=zL8 hF hr c.len (by omega) signals jV hin (by omega) u k zox zox .jd hkj (by omega) (.inl rfl) (.inl ⟨rfl,rfl⟩) hne;generalize zNw m zs ss r c.len k jV signals=y at *;simp only[pvV]at h4;generalize zKE (zKh m zs 0 r) 0 zs.length=vs at *;generalize zKh m zs 0 r=ps at *;rw[zUa zLb rfl];by_cases h0:vs=[]
   ·simp only[zJ3,if_pos h0]at h3 h4;rcases oW with rfl |⟨kw,rfl⟩<;>rcases oS with⟨rfl,rfl⟩ |⟨k0,x,rfl,rfl⟩<;>simp only[zf,zG,jC,zh,zi,zox,zJ4,zJY,jk,jg]at h3 h4<;>simp (maxSteps:=1000000) [zIR,zf,zG,Pl.kL,jC,zh,zi,zox,zJ4,zJY,h1,h2,h3,h4,hu,zg,zH,own]
   ·simp only[zJ3,if_neg h0]at h3 h4;rcases oW with rfl |⟨kw,rfl⟩<;>rcases oS with⟨rfl,rfl⟩ |⟨k0,x,rfl,rfl⟩<;>simp only[zf,zG,jC,zh,zi,zox,zJ4,zJY,own,zJZ,jk,jg]at h3 h4<;>simp (maxSteps:=1000000) [zIR,zf,zG,Pl.kL,jC,zh,zi,zox,zJ4,zJY,h1,h2,h3,h4,hu,zg,zH,own]
  ·rw[if_neg (fun q=>d2 q.2)];have hb:(Go.PlanLaw.uO c jV !=0)=true:=by simp[d2]
   rw[zUa zLb rfl];generalize Go.PlanLaw.uO c jV=e at *;simp[zIR,zf,zG,Pl.kL,zJ4,zJY,h1,h2,d2,hb,zg,zH]
 ·have hb:zKW m r c k=false:=by simpa using d1
  rw[if_neg (fun q=>d1 q.1)];rw[hb]at h1;rw[zUa zLb rfl];simp[zIR,zf,zG,Pl.kL,zJ4,zJY,h1,zg,zH]
theorem zUJ(x tick:Int){lo lo' hi hi':Int}(hl:lo'<=lo)(hh:hi<=hi'):∀(l:List zCP) (n n':Int),n'<=n->l.foldl (zOx x lo' hi' tick) n'<=l.foldl (zOx x lo hi tick) n
 |[],n,n',h=>h
 |w::l,n,n',h=>by
  refine zUJ x tick hl hh l _ _ ?_;unfold zOx zQf;simp only[jh,decide_eq_true_eq];split
  ·rename_i c;split<;>omega
  ·rename_i c;rw[if_neg (fun d=>c ⟨⟨⟨⟨d.1.1.1.1,by have:=d.1.1.1.2;omega⟩,by have:=d.1.1.2;omega⟩,d.1.2⟩,d.2⟩)];exact h
theorem zUw(x lo hi tick:Int):∀(l:List zCP) (n:Int),(∀w∈l,0<=w.qF)->0<=n->0<=l.foldl (zOx x lo hi tick) n
 |[],n,_,h=>h
 |w::l,n,hw,h=>by
  refine zUw x lo hi tick l _ (fun y hy=>hw y (jr _ hy)) ?_;have:=hw w (jp ..);unfold zOx;split<;>omega
theorem zUo{m:zD}(h:zcp m)(x:Int):0<=zLS m x:=by
 unfold zLS;by_cases c:x.toNat<m.jb.length
 ·have:=h.qF _ (jf c);simp[c];omega
 ·simp[jU (show m.jb.length<=x.toNat by omega)]
abbrev zVB(o o':Int):Prop:=o=-1\/(0<=o'/\o'<=o)
theorem zUS{m:zD}(h:zcp m)(hw:∀w∈m.kx,0<=w.qF){fr fr' to to' tick:Int}(hf:fr'<=fr)(ht:to<=to'):∀(r:List Int) (a o o':Int),zVB o o'->(o'=-1\/0<=o')->zVB (zNU m fr to tick a o r) (zNU m fr' to' tick a o' r)
 |[],a,o,o',hr,_=>hr
 |x::r,a,o,o',hr,h0=>by
  unfold zNU;have hn:=zUw x (max 0 (fr'-a)) (min (to'-a) (z8 m x)) tick m.kx (zLS m x) hw (zUo h x);have hm:=zUJ x tick (show max 0 (fr'-a)<=max 0 (fr-a) by omega) (show min (to-a) (z8 m x)<=min (to'-a) (z8 m x) by omega) m.kx (zLS m x) (zLS m x) (jJ _);generalize hA:m.kx.foldl (zOx x (max 0 (fr-a)) (min (to-a) (z8 m x)) tick) (zLS m x)=A at *;generalize hB:m.kx.foldl (zOx x (max 0 (fr'-a)) (min (to'-a) (z8 m x)) tick) (zLS m x)=B at *;have e1:zNi m fr to tick a o x=if max 0 (fr-a)>min (to-a) (z8 m x) then o else if o<0\/A<o then A else o:=by unfold zNi;rw[hA]
  have e2:zNi m fr' to' tick a o' x=if max 0 (fr'-a)>min (to'-a) (z8 m x) then o' else if o'<0\/B<o' then B else o':=by unfold zNi;rw[hB]
  rw[e1,e2];have key:zVB (if max 0 (fr-a)>min (to-a) (z8 m x) then o else if o<0\/A<o then A else o) (if max 0 (fr'-a)>min (to'-a) (z8 m x) then o' else if o'<0\/B<o' then B else o')/\((if max 0 (fr'-a)>min (to'-a) (z8 m x) then o' else if o'<0\/B<o' then B else o')=-1\/0<=(if max 0 (fr'-a)>min (to'-a) (z8 m x) then o' else if o'<0\/B<o' then B else o')):=by
   unfold zVB at hr ⊢;by_cases c2:max 0 (fr'-a)>min (to'-a) (z8 m x)
   ·rw[if_pos c2,if_pos (by omega)];exact⟨hr,h0⟩
   ·rw[if_neg c2];by_cases c1:max 0 (fr-a)>min (to-a) (z8 m x)
    ·rw[if_pos c1];by_cases d:o'<0\/B<o'
     ·rw[if_pos d];omega
     ·rw[if_neg d];omega
    ·rw[if_neg c1];by_cases d:o'<0\/B<o'
     ·rw[if_pos d];by_cases f:o<0\/A<o
      ·rw[if_pos f];omega
      ·rw[if_neg f];omega
     ·rw[if_neg d];by_cases f:o<0\/A<o
      ·rw[if_pos f];omega
      ·rw[if_neg f];omega
  exact zUS h hw hf ht r _ _ _ key.1 key.2
theorem zUH{m:zD}(h:zcp m)(hw:∀w∈m.kx,0<=w.qF){fr to tick:Int}:∀(r:List Int) (a o:Int),0<=o->0<=zNU m fr to tick a o r
 |[],a,o,ho=>ho
 |x::r,a,o,ho=>by
  unfold zNU;refine zUH h hw r _ _ ?_;have hn:=zUw x (max 0 (fr-a)) (min (to-a) (z8 m x)) tick m.kx (zLS m x) hw (zUo h x);unfold zNi;split
  ·exact ho
  ·split
   ·exact hn
   ·exact ho
theorem zUI{m:zD}(h:zcp m)(hw:∀w∈m.kx,0<=w.qF){fr to tick:Int}(hft:fr<=to):∀(r:List Int) (a:Int),zj2 m r->a<=fr->to<=zmd m a r->r≠[]->0<=zNU m fr to tick a (-1) r
 |[],a,_,_,_,hne=>absurd rfl hne
 |x::r,a,hon,ha,ht,_=>by
  unfold zNU;have hl:=zcX h (hon x (jp ..));have hn:=zUw x (max 0 (fr-a)) (min (to-a) (z8 m x)) tick m.kx (zLS m x) hw (zUo h x);by_cases c:fr<=a+z8 m x
  ·refine zUH h hw r _ _ ?_;unfold zNi;rw[if_neg (by omega),if_pos (.inl (by decide))];exact hn
  ·have e:zNi m fr to tick a (-1) x=-1:=by unfold zNi;rw[if_pos (by omega)]
   rw[e];cases r with
   |nil=>simp only[zmd]at ht;omega
   |cons y r=>exact zUI h hw hft (y::r) _ (fun z hz=>hon z (jr _ hz)) (by omega) ht (by simp)
theorem zVj{m:zD}(h:zcp m)(hw:∀w∈m.kx,0<=w.qF){r:List Int}(hon:zj2 m r)(hne:r≠[]){x y:zci}(hI:InK x y)(h0:0<=x.ego.slo)(hle:x.ego.slo<=x.ego.shi)(he:x.ego.shi<=zmd m 0 r)(hs:zMt m r y=0):zMt m r x=0:=by
 unfold zMt at hs ⊢;have e1:=hI.ego.slo;have e2:=hI.ego.shi;have e4:=hI.ego.vhi;have hr:=zUS h hw (tick:=y.tick) e1 e2 r 0 (-1) (-1) (.inl rfl) (.inl rfl);have hh:=zUI h hw (tick:=y.tick) hle r 0 hon h0 he hne;rw[hI.tick];split at hs
 ·cases hs
 ·rw[if_neg];unfold zVB at hr;omega
theorem zU8{m:zD}{r:List Int}{x y:zci}(hI:InK x y)(h0:0<=x.ego.vhi){sw sw':List Swp}(hS:zVA sw sw')(hs:zMF m r y sw'=0):zMF m r x sw=0:=by
 unfold zMF at hs ⊢;have e2:=hI.ego.shi;have e4:=hI.ego.vhi;by_cases c:x.ego.vhi=0
 ·rw[if_pos c]
 ·rw[if_neg c,if_neg];rw[if_neg (by omega)]at hs;intro ha;obtain⟨s,hsm,hp⟩:=ki.1 ha;obtain⟨t,ht,hst⟩:=hS s hsm;have:sw'.any (apP m r y.ego.shi)=true:=by
   refine ki.2 ⟨t,ht,?_⟩;unfold apP at hp ⊢;rw[<-hst.lane];cases hi:zgo r s.lane with
   |none=>rw[hi]at hp;cases hp
   |some i =>
    rw[hi]at hp;simp only[jh,kE,decide_eq_true_eq]at hp ⊢;refine⟨?_,by have:=hst.lo;omega⟩;cases hc:t.cap with
    |false=>rfl
    |true=>rw[hst.cap hc]at hp;cases hp.1
  rw[if_pos this]at hs;cases hs
theorem zVv{p:Prt}{s t:Swp}(h:InS s t)(hs:inS p s=true):inS p t=true:=by
 unfold inS at hs ⊢;simp only[jh,kE,decide_eq_true_eq]at hs ⊢;have h1:=h.lane;have h2:=h.lo;have h3:=h.hi;refine⟨⟨⟨?_,by rw[<-h1];exact hs.1.1.2⟩,by omega⟩,by omega⟩;cases hc:t.cap with
 |false=>rfl
 |true=>rw[h.cap hc]at hs;exact hs.1.1.1
theorem zUD{sw sw':List Swp}(h:zVA sw sw')(e:Int):∀(l:List Prt) (i:Nat),zNK sw e i l=true->zNK sw' e i l=true
 |[],i,ht=>ht
 |p::l,i,ht=>by
  unfold zNK at ht ⊢;simp only[qy,jh]at ht ⊢;rcases ht with⟨h1,h2⟩|h1
  ·left;refine⟨h1,?_⟩;obtain⟨s,hs,hp⟩:=ki.1 h2;obtain⟨t,ht,hst⟩:=h s hs;exact ki.2 ⟨t,ht,zVv hst hp⟩
  ·exact .inr (zUD h e l _ h1)
theorem zU9{zs:List Zon}{len:Int}{ps:List Pss}{vs:List Vis}{w1 w2 x y:zci}(hw:InK w1 w2)(hI:InK x y){sw sw':List Swp}(hS:zVA sw sw')(hs:zMG zs len ps vs w2 y sw'=0):zMG zs len ps vs w1 x sw=0:=by
 unfold zMG at hs ⊢;rw[if_neg];intro ha;obtain⟨v,hv,hp⟩:=ki.1 ha;have:vs.any (alP zs ps sw' y.ego.shi (w2.ego.slo-len))=true:=by
  refine ki.2 ⟨v,hv,?_⟩;unfold alP zNf at hp ⊢;rw[jh]at hp ⊢;refine⟨?_,zUD hS _ _ _ hp.2⟩;obtain⟨p,hpm,h⟩:=ki.1 hp.1;refine ki.2 ⟨p,hpm,?_⟩;unfold zM4 at h ⊢;simp only[jh,decide_eq_true_eq]at h ⊢;have:=hI.ego.shi;have:=hw.ego.slo;exact⟨⟨h.1.1,by omega⟩,by omega⟩
 rw[if_pos this]at hs;cases hs
theorem zVa{zs:List Zon}{ss:List Sgn}{vs:List Vis}{w1 w2 x y:zci}(hw:InK w1 w2)(hI:InK x y)(hs:zMH zs ss vs w2 y=0):zMH zs ss vs w1 x=0:=by
 unfold zMH at hs ⊢;rw[if_neg];intro ha;obtain⟨v,hv,hp⟩:=ki.1 ha;have:vs.any (zNj zs ss y.ego.shi w2.ego.slo w2.tick)=true:=by
  refine ki.2 ⟨v,hv,?_⟩;unfold zNj zP1 at hp ⊢;rw[hw.tick]at hp;simp only[jh,decide_eq_true_eq]at hp ⊢;have:=hI.ego.shi;have:=hw.ego.slo;exact⟨⟨⟨hp.1.1.1,by omega⟩,by omega⟩,hp.2⟩
 rw[if_pos this]at hs;cases hs
theorem zUu{len:Int}{vs:List Vis}{x y:zci}(hI:InK x y)(h0:0<=x.ego.vhi)(hs:zLQ len vs y=true):zLQ len vs x=true:=by
 unfold zLQ at hs ⊢;simp only[jh,decide_eq_true_eq,kE]at hs ⊢;have e1:=hI.ego.slo;have e2:=hI.ego.shi;have e4:=hI.ego.vhi;refine⟨by omega,?_⟩;cases ha:vs.any (zOS len x.ego)with
 |false=>rfl
 |true =>
  obtain⟨v,hv,hp⟩:=ki.1 ha;have:vs.any (zOS len y.ego)=true:=by
   refine ki.2 ⟨v,hv,?_⟩;unfold zOS at hp ⊢;simp only[jh,decide_eq_true_eq]at hp ⊢;omega
  rw[this]at hs;cases hs.2
theorem zU7{a b c d e:Int}:zKs [a,b,c,d,e]=0<->a=0/\b=0/\c=0/\d=0/\e=0:=by
 simp only[zKs];constructor
 ·intro h
  repeat' split at h
  all_goals first |(refine⟨?_,?_,?_,?_,?_⟩<;>assumption) |(exact absurd h (by assumption)) |skip
  all_goals simp_all
 ·rintro⟨rfl,rfl,rfl,rfl,rfl⟩;simp
open Go Go.Eng Go.PlanLaw
theorem zVq{m:zD}{zs:List Zon}{ss:List Sgn}(h:zcp m)(hw:∀w∈m.kx,0<=w.qF){r:List Int}(hon:zj2 m r)(hne:r≠[]){len:Int}{ps:List Pss}{vs:List Vis}{w1 w2 x y:zci}(hW:InK w1 w2)(hI:InK x y)(hx:znd x.ego){sw sw':List Swp}(hS:zVA sw sw')(hs:zMi m zs ss r len ps vs w2 y sw'=0):zMi m zs ss r len ps vs w1 x sw=0:=by
 obtain⟨⟨e1,e2,e3⟩,⟨e4,e5,e6⟩⟩:=hx;unfold zMi at hs ⊢;rw[zU7]at hs ⊢;obtain⟨h1,h2,h3,h4,h5⟩:=hs;have ho:x.ego.shi<=zmd m 0 r:=by
  unfold onW at h1;split at h1
  ·cases h1
  ·have:=hI.ego.shi;omega
 refine⟨by unfold onW;rw[if_neg (by omega)],zVj h hw hon hne hI e1 e2 ho h2,zU8 hI (by omega) hS h3,zU9 hW hI hS h4,zVa hW hI h5⟩
theorem zUs{m:zD}{zs:List Zon}{ss:List Sgn}(hf:zmq m zs ss)(hw:∀w∈m.kx,0<=w.qF){r:List Int}(hr:zdA m r=0)(len:Int)(ps:List Pss)(vs:List Vis)(signals:Bool):∀(t:List Int) (n n':Nat) (a b:zci),InK a b->zdf m a=0->zdf m b=0->(zKr m zs ss r len ps vs signals t n b).1=none->fbF m r t b.tick b.ego=none ->
  (zKr m zs ss r len ps vs signals t n' a).1=none/\fbF m r t a.tick a.ego=none/\InK (zKr m zs ss r len ps vs signals t n' a).2 (zKr m zs ss r len ps vs signals t n b).2/\zdf m (zKr m zs ss r len ps vs signals t n' a).2=0
 |[],n,n',a,b,hI,ha,hb,h1,h2=>⟨rfl,rfl,hI,ha⟩
 |x::t,n,n',a,b,hI,ha,hb,h1,h2=>by
  have h:=hf.qW;obtain⟨hon,hne,hl8⟩:=zg1 h hr;unfold zKr at h1;split at h1
  ·rename_i hwy;have hon':=zNe hwy;have Bq:¬AN m r b.tick b.ego x:=by
    intro hbd;unfold fbF at h2;rw[if_pos hbd]at h2;cases h2
   unfold fbF at h2;have hsh:(zaN m r b.ego x).shi<=zmd m 0 r:=hon';rw[if_neg Bq,if_neg (by omega)]at h2;have h2:fbF m r t (b.tick+1) (zaN m r b.ego x)=none:=by
    cases hq:fbF m r t (b.tick+1) (zaN m r b.ego x)with
    |none=>rfl
    |some y=>rw[hq]at h2;cases h2
   obtain⟨hN,hS⟩:=zVi hf r len hI ha hb x signals;have hE:=zUz m r hI.ego x;have e2:=hE.shi;have htk:=hI.tick;unfold TrRun.AN at Bq;have tb:=(zte hb).2;have cb:zdf m (zEt m zs ss r len signals b x)=0:=zEH hf hr len b x signals hb (by omega) (by omega);have ca:zdf m (zEt m zs ss r len signals a x)=0:=zEH hf hr len a x signals ha (by omega) (by omega);have hwa:=zVq h hw hon hne (len:=len) (ps:=ps) (vs:=vs) (zs:=zs) (ss:=ss) hI hN (zte ca).1 hS hwy;obtain⟨g1,g2,g3,g4⟩:=zUs hf hw hr len ps vs signals t (n+1) (n'+1) _ _ hN ca cb h1 h2;have v1:zKr m zs ss r len ps vs signals (x::t) n' a=zKr m zs ss r len ps vs signals t (n'+1) (zEt m zs ss r len signals a x):=by rw[zKr,if_pos hwa]
   have v2:zKr m zs ss r len ps vs signals (x::t) n b=zKr m zs ss r len ps vs signals t (n+1) (zEt m zs ss r len signals b x):=by rw[zKr,if_pos hwy]
   rw[v1,v2];refine⟨g1,?_,g3,g4⟩;unfold fbF;rw[if_neg (by unfold TrRun.AN;omega),if_neg (by omega)];have g2:fbF m r t (a.tick+1) (zaN m r a.ego x)=none:=g2;rw[g2];rfl
  ·cases h1
theorem zUm(m:zD)(zs:List Zon)(ss:List Sgn)(r:List Int)(c:zK8)(k:zci)(p:List Int)(signals:Bool):(zOk m zs ss r c k p signals).1=true <->
  zKW m r c k=true/\uO c p=0/\(zKr m zs ss r c.len (zKh m zs 0 r) (pvV m zs r) signals p 0 k).1=none/\fbF m r p k.tick k.ego=none/\zLQ c.len (pvV m zs r) (zKr m zs ss r c.len (zKh m zs 0 r) (pvV m zs r) signals p 0 k).2=true:=by
 unfold zOk;by_cases h:zKW m r c k=true/\uO c p=0
 ·rw[if_pos h];unfold zNw zLH;generalize zKr m zs ss r c.len (zKh m zs 0 r) (pvV m zs r) signals p 0 k=V;obtain⟨v1,v2⟩:=V;cases v1 with
  |none =>
   simp only;by_cases hs:zLQ c.len (pvV m zs r) v2=true
   ·rw[if_pos hs];cases fbF m r p k.tick k.ego with
    |none=>simp[zKX,h,hs]
    |some b=>simp[zKX]
   ·rw[if_neg hs];cases fbF m r p k.tick k.ego with
    |none=>simp[zKX,hs]
    |some b=>simp[zKX]
  |some x =>
   obtain⟨x1,x2⟩:=x;cases fbF m r p k.tick k.ego with
   |none=>simp[zKX]
   |some b =>
    simp only[zKX];split<;>simp
 ·rw[if_neg h];constructor
  ·intro q;cases q
  ·rintro⟨h1,h2,_⟩;exact absurd ⟨h1,h2⟩ h
theorem zUV{m:zD}{r:List Int}{c:zK8}{k k':zci}(h:zKW m r c k=true)(hk:zdf m k'=0):zKW m r c k'=true:=by
 unfold zKW at h ⊢;simp only[jh,decide_eq_true_eq]at h ⊢;exact⟨h.1,hk⟩
theorem zUC{m:zD}{zs:List Zon}{ss:List Sgn}(hf:zmq m zs ss)(hw:∀w∈m.kx,0<=w.qF){r:List Int}{c:zK8}{a b:zci}(hI:InK a b)(ha:zdf m a=0){p:List Int}{signals:Bool}(h:(zOk m zs ss r c b p signals).1=true):(zOk m zs ss r c a p signals).1=true:=by
 rw[zUm]at h ⊢;obtain⟨h1,h2,h3,h4,h5⟩:=h;obtain⟨hr,_,_,hb⟩:=zNz h1;obtain⟨g1,g2,g3,g4⟩:=zUs hf hw hr c.len _ _ signals p 0 0 a b hI ha hb h3 h4;exact⟨zUV h1 ha,h2,g1,g2,zUu g3 (by have:=(zte g4).1.v;omega) h5⟩
abbrev wkM(m:zD)(ws:List zCP):zD:={ m with kx:=ws }
theorem zWi(x lo hi tick:Int):∀(l:List zCP) (n:Int),l.foldl (zOx x lo hi tick) n<=n
 |[],n=>jJ _
 |w::l,n=>by
  refine Int.le_trans (zWi x lo hi tick l _) ?_;unfold zOx;split<;>omega
theorem zWe{m:zD}{ws:List zCP}(h:zcp m)(hm:m.kx=[])(hw:∀w∈ws,0<=w.qF){fr to tick:Int}:∀(r:List Int) (a o o':Int),zVB o o'->(o'=-1\/0<=o')->zVB (zNU m fr to tick a o r) (zNU (wkM m ws) fr to tick a o' r)
 |[],a,o,o',hr,_=>hr
 |x::r,a,o,o',hr,h0=>by
  unfold zNU;have hn:=zUw x (max 0 (fr-a)) (min (to-a) (z8 m x)) tick ws (zLS m x) hw (zUo h x);have hl:=zWi x (max 0 (fr-a)) (min (to-a) (z8 m x)) tick ws (zLS m x);have e1:zNi m fr to tick a o x=if max 0 (fr-a)>min (to-a) (z8 m x) then o else if o<0\/zLS m x<o then zLS m x else o:=by unfold zNi;rw[hm];rfl
  have e2:zNi (wkM m ws) fr to tick a o' x=if max 0 (fr-a)>min (to-a) (z8 m x) then o' else if o'<0\/ws.foldl (zOx x (max 0 (fr-a)) (min (to-a) (z8 m x)) tick) (zLS m x)<o' then ws.foldl (zOx x (max 0 (fr-a)) (min (to-a) (z8 m x)) tick) (zLS m x) else o':=by kernel_rfl
  have e3:z8 (wkM m ws) x=z8 m x:=by kernel_rfl
  rw[e1,e2,e3];generalize ws.foldl (zOx x (max 0 (fr-a)) (min (to-a) (z8 m x)) tick) (zLS m x)=B at *;generalize zLS m x=A at *;have key:zVB (if max 0 (fr-a)>min (to-a) (z8 m x) then o else if o<0\/A<o then A else o) (if max 0 (fr-a)>min (to-a) (z8 m x) then o' else if o'<0\/B<o' then B else o')/\((if max 0 (fr-a)>min (to-a) (z8 m x) then o' else if o'<0\/B<o' then B else o')=-1\/0<=(if max 0 (fr-a)>min (to-a) (z8 m x) then o' else if o'<0\/B<o' then B else o')):=by
   unfold zVB at hr ⊢;by_cases c1:max 0 (fr-a)>min (to-a) (z8 m x)
   ·rw[if_pos c1,if_pos c1];exact⟨hr,h0⟩
   ·rw[if_neg c1,if_neg c1];by_cases d:o'<0\/B<o'<;>by_cases f:o<0\/A<o
    ·rw[if_pos d,if_pos f];omega
    ·rw[if_pos d,if_neg f];omega
    ·rw[if_neg d,if_pos f];omega
    ·rw[if_neg d,if_neg f];omega
  exact zWe h hm hw r _ _ _ key.1 key.2
theorem zWk{m:zD}{ws:List zCP}(h:zcp m)(hm:m.kx=[])(hw:∀w∈ws,0<=w.qF){r:List Int}(hon:zj2 m r)(hne:r≠[]){y:zci}(h0:0<=y.ego.slo)(hle:y.ego.slo<=y.ego.shi)(he:y.ego.shi<=zmd m 0 r)(hs:zMt (wkM m ws) r y=0):zMt m r y=0:=by
 unfold zMt at hs ⊢;have hr:=zWe h hm hw (fr:=y.ego.slo) (to:=y.ego.shi) (tick:=y.tick) r 0 (-1) (-1) (.inl rfl) (.inl rfl);have hh:=zUI h (fun w hx=>by rw[hm]at hx;cases hx) (tick:=y.tick) hle r 0 hon h0 he hne;split at hs
 ·cases hs
 ·rw[if_neg];unfold zVB at hr;omega
theorem zWc{m:zD}{zs:List Zon}{ss:List Sgn}{ws:List zCP}(hf:zmq m zs ss)(hm:m.kx=[])(hw:∀w∈ws,0<=w.qF){r:List Int}(hr:zdA m r=0)(len:Int)(ps:List Pss)(vs:List Vis)(signals:Bool):∀(t:List Int) (n:Nat) (b:zci),zdf m b=0->(zKr (wkM m ws) zs ss r len ps vs signals t n b).1=none->fbF m r t b.tick b.ego=none ->
  zKr m zs ss r len ps vs signals t n b=zKr (wkM m ws) zs ss r len ps vs signals t n b
 |[],n,b,hb,h1,h2=>rfl
 |x::t,n,b,hb,h1,h2=>by
  have h:=hf.qW;obtain⟨hon,hne,hl8⟩:=zg1 h hr;have eN:zEt (wkM m ws) zs ss r len signals b x=zEt m zs ss r len signals b x:=by kernel_rfl
  have eS:zKu (wkM m ws) zs ss r len signals b x=zKu m zs ss r len signals b x:=by kernel_rfl
  unfold zKr at h1;rw[eN,eS]at h1;split at h1
  ·rename_i hwy;have hon':=zNe hwy;have qe:zmd (wkM m ws) 0 r=zmd m 0 r:=by kernel_rfl
   rw[qe]at hon';have hsh:(zaN m r b.ego x).shi<=zmd m 0 r:=hon';have Bq:¬AN m r b.tick b.ego x:=by
    intro hbd;unfold fbF at h2;rw[if_pos hbd]at h2;cases h2
   unfold fbF at h2;rw[if_neg Bq,if_neg (by omega)]at h2;have h2:fbF m r t (b.tick+1) (zaN m r b.ego x)=none:=by
    cases hq:fbF m r t (b.tick+1) (zaN m r b.ego x)with
    |none=>rfl
    |some y=>rw[hq]at h2;cases h2
   unfold TrRun.AN at Bq;have tb:=(zte hb).2;have cb:zdf m (zEt m zs ss r len signals b x)=0:=zEH hf hr len b x signals hb (by omega) (by omega);obtain⟨⟨⟨e1,e2,e3⟩,_⟩,_⟩:=zte cb;have hwa:zMi m zs ss r len ps vs b (zEt m zs ss r len signals b x) (zKu m zs ss r len signals b x)=0:=by
    unfold zMi at hwy ⊢;rw[zU7]at hwy ⊢;obtain⟨g1,g2,g3,g4,g5⟩:=hwy;have qo:onW (wkM m ws) r (zEt m zs ss r len signals b x)=onW m r (zEt m zs ss r len signals b x):=by kernel_rfl
    have qa:zMF (wkM m ws) r (zEt m zs ss r len signals b x) (zKu m zs ss r len signals b x)=zMF m r (zEt m zs ss r len signals b x) (zKu m zs ss r len signals b x):=by kernel_rfl
    exact⟨qo ▸ g1,zWk h hm hw hon hne e1 e2 hsh g2,qa ▸ g3,g4,g5⟩
   have ih:=zWc hf hm hw hr len ps vs signals t (n+1) (zEt m zs ss r len signals b x) cb h1 h2;rw[zKr,if_pos hwa,ih,zKr,eN,eS,if_pos hwy]
  ·cases h1
theorem zWj{m:zD}{zs:List Zon}{ss:List Sgn}{ws:List zCP}(hf:zmq m zs ss)(hm:m.kx=[])(hw:∀w∈ws,0<=w.qF){r:List Int}{c:zK8}{b:zci}{p:List Int}{signals:Bool}(h:(zOk (wkM m ws) zs ss r c b p signals).1=true):(zOk m zs ss r c b p signals).1=true:=by
 rw[zUm]at h ⊢;obtain⟨h1,h2,h3,h4,h5⟩:=h;have q1:zKW (wkM m ws) r c b=zKW m r c b:=by kernel_rfl
 have q2:zKh (wkM m ws) zs 0 r=zKh m zs 0 r:=by kernel_rfl
 have q3:pvV (wkM m ws) zs r=pvV m zs r:=by kernel_rfl
 have q4:fbF (wkM m ws) r p b.tick b.ego=fbF m r p b.tick b.ego:=by kernel_rfl
 rw[q1]at h1;rw[q2,q3]at h3 h5;rw[q4]at h4;have f1:zKW m r c b=true:=h1;obtain⟨hr,_,_,hb⟩:=zNz f1;have f4:fbF m r p b.tick b.ego=none:=h4;have e:=zWc hf hm hw hr c.len (zKh m zs 0 r) (pvV m zs r) signals p 0 b hb h3 f4;exact⟨f1,h2,by rw[e];exact h3,f4,by rw[e];exact h5⟩
def gF(less:List Int)(i:Nat):Int:=if less.length=0 then 0 else(less.getD (i % less.length) 0) % 1073741824
def shF(b:zk)(g:Int):zk:=⟨b.lane,b.lo+g % 700,b.hi-g / 11 % 700,b.vlo+g % 30,b.vhi-g / 7 % 30,b.hold⟩
def kpF(b:zk)(g:Int):Bool:=decide ((shF b g).lo<=(shF b g).hi)&&decide ((shF b g).vlo<=(shF b g).vhi) && !decide (g % 5=1)
def naF(less:List Int):Nat->List zk->List zk
 |_,[]=>[]
 |i,b::r=>(if kpF b (gF less i)=true then [shF b (gF less i)] else [])++naF less (i+1) r
theorem zUP(less:List Int)(i:Nat):0<=gF less i/\gF less i<1073741824:=by
 unfold gF;split<;>omega
structure NB(b:zk):Prop where
 lo:0<=b.lo/\b.lo<=1000000000
 hi:0<=b.hi/\b.hi<=1000000000
 vlo:0<=b.vlo/\b.vlo<=1000000000
 vhi:0<=b.vhi/\b.vhi<=1000000000
 le:b.lo<=b.hi
 vle:b.vlo<=b.vhi
inductive Nst:List zk->Cl->Mem->Prop
 |nil:Nst [] .jd []
 |own (out:List zk) (j:Nat) (G:Mem):out≠[]->G[j]?=some (some (own 6 (zI out)))->Nst out (.slice (j+3) out.length 6 0 out.length none) G
abbrev naE(less:List Int)(i:Nat):Env:=[(6,.w (W i)),(4,.w (Pt 1)),(2,.w (Pt 0)),(1,.w (.c (.jc (zu less)))),(5,.w (Pt 2))]
abbrev naM(k:zci)(v:Nat)(S:Cl)(G:Mem):Mem:=bx 6 (zG k)::bx 6 zFA::bxv v 6 (zTL k.tick S k.ego)::G
theorem zVC(k:zci)(hk:k.jQ.length<=1000000000)(less:List Int)(hl:less.length<=1000)(i:Nat)(hi:i<k.jQ.length)(hb:NB k.jQ[i])(out:List zk)(ho:out.length<=i)(v:Nat)(S:Cl)(G:Mem)(hS:Nst out S G) :
  ∃v' S' G',Nst (out++if kpF k.jQ[i] (gF less i)=true then [shF k.jQ[i] (gF less i)] else []) S' G'/\Y L Cs zT9 (some [6,4,2,1,5]) 3 (naE less i) (naM k v S G)=Y L Cs zT9 (some [6,4,2,1,5]) 3 (naE less (i+1)) (naM k v' S' G'):=by
 have hw:=zB (i:=i) (by omega);have hii:(i:Int)<k.jQ.length:=by omega
 have hg:=zUP less i;have hG:(less.length=0/\gF less i=0)\/(0<less.length/\∃(h:i % less.length<less.length),gF less i=less[i % less.length] % 1073741824):=by
  by_cases c:less.length=0
  ·exact .inl ⟨c,by unfold gF;rw[if_pos c]⟩
  ·have h:=qx i (show 0<less.length by omega);refine .inr ⟨by omega,h,?_⟩;unfold gF;rw[if_neg c,jo,js h];rfl
 have hq1:∀x:Int,(gF less i).tmod x=gF less i % x:=fun x=>kq hg.1
 have hq2:∀x:Int,(gF less i).tdiv x=gF less i / x:=fun x=>kg hg.1
 have hq3:(gF less i / 11).tmod 700=gF less i / 11 % 700:=kq (by omega);have hq4:(gF less i / 7).tmod 30=gF less i / 7 % 30:=kq (by omega);have hq5:Int.tmod (i:Int) (less.length:Int)=((i % less.length:Nat):Int):=rfl;have w1:=kr (gF less i / 11);have w2:=kr (gF less i / 7);generalize hgg:gF less i=g at *;generalize hbb:k.jQ[i]=b at *;obtain⟨bl,lo,bhi,vlo,vhi,hold⟩:=b;obtain⟨⟨l1,l2⟩,⟨h1,h2⟩,⟨a1,a2⟩,⟨c1,c2⟩,le,vle⟩:=hb;simp only at l1 l2 h1 h2 a1 a2 c1 c2 le vle;have w3:=kr (lo+g % 700);have w4:=kr (bhi-g / 11 % 700);have w5:=kr (vlo+g % 30);have w6:=kr (vhi-g / 7 % 30);have jW:(out.length+1)*48<=140737488355328:=by omega
 have yF:∀n:Int,R L Cs zEd [W n,W 1073741824] []=some (.w (W (n % 1073741824)),[]):=fun n=>zD0 n 1073741824 (by omega) (by omega)
 have x0:IntKind.i64.wrap 0=0:=rfl;have y1:=kr lo;have y2:=kr bhi;have y3:=kr vlo;have y4:=kr vhi;rcases hG with⟨hl0,hg0⟩ |⟨hl0,hlt,hge⟩
 ·subst hg0;have hkp:kpF ⟨bl,lo,bhi,vlo,vhi,hold⟩ 0=true:=by simp[kpF,shF,le,vle]
  have hsh:shF ⟨bl,lo,bhi,vlo,vhi,hold⟩ 0=⟨bl,lo,bhi,vlo,vhi,hold⟩:=by simp[shF]
  rw[if_pos hkp,hsh];cases hS with
  |nil =>
   refine⟨v+1,.slice 5 1 6 0 1 none,[bxv 5 6 (ze ⟨bl,lo,bhi,vlo,vhi,hold⟩),some (own 6 [ze ⟨bl,lo,bhi,vlo,vhi,hold⟩]),some (own 6 [ze ⟨bl,lo,bhi,vlo,vhi,hold⟩])],Nst.own [⟨bl,lo,bhi,vlo,vhi,hold⟩] 2 _ (by simp) rfl,?_⟩;rw[zj zT9.eq_1];simp (maxSteps:=1000000) [naE,naM,zG,zTL,hi,hii,hbb,ze,hw,zg,zH,hl0,x0,y1,y2,y3,y4,le,vle,Int.zero_tmod]
  |own out j G hne hG0 =>
   have hjG:j<G.length:=(jK.1 hG0).1;have hg1:∀N:Mem,(G++N)[j]?=some (some (own 6 (zI out))):=fun N=>by rw[jq hjG,hG0]
   have yH:∀(N:Mem) (x:Option Blk),(G++N).set j x=G.set j x++N:=fun N x=>qt _ _ hjG
   have hE:∀(x:Option Blk) (N:Mem),(G++x::N)[G.length]?=some x:=fun x N=>by simp
   have hE2:∀(x y:Option Blk) (N:Mem),(G++x::y::N)[G.length+1]?=some y:=fun x y N=>by rw[jL (by omega)];simp
   have hEs:∀(x y:Option Blk) (N:Mem),(G++x::N).set G.length y=G++y::N:=fun x y N=>by rw[kG _ _ (jl _)];simp
   have hdr:∀(E:Env) (x y:Option Blk) (w g len:Nat) (N:Mem),ks 3 E (x::y::bxv w 6 (zTL k.tick (.slice (j+3) g 6 0 len none) k.ego)::N)=(x::y::bxv w 6 (zTL k.tick (.slice (j+3) g 6 0 len none) k.ego)::N):=by
    intro E x y w g len N;unfold ks;split
    ·rfl
    ·rw[if_neg];simp[zH,Blk.below,Eng.below,yh]
   simp only[own,zgg]at hg1;simp only[bxv,zTL]at hdr;refine⟨v+1,.slice (j+3) (out++[zk.mk bl lo bhi vlo vhi hold]).length 6 0 (out++[zk.mk bl lo bhi vlo vhi hold]).length none,G.set j (some (own 6 (zI (out++[zk.mk bl lo bhi vlo vhi hold]))))++[bxv 5 6 (ze (zk.mk bl lo bhi vlo vhi hold)),some (own 6 [ze (zk.mk bl lo bhi vlo vhi hold)])],Nst.own _ j _ (by simp) (by rw[jq (by simpa using hjG),kl hjG]),?_⟩;rw[zj zT9.eq_1];simp (maxSteps:=1000000) [naE,naM,zG,zTL,hi,hii,hbb,ze,hw,zg,zH,hl0,x0,y1,y2,y3,y4,le,vle,Int.zero_tmod,hg1,yH,hE,hE2,hEs,hdr,jW,-ks]
 ·have hl1:¬less.length=0:=by omega
  have Bk:(0:Int)<less.length:=by omega
  have Bl:=hge.symm;have hq6:0<=(i:Int) % (less.length:Int):=qi _ (by omega);have hq7:(i:Int) % (less.length:Int)<less.length:=k8 _ (by omega);have hq8:((i:Int) % (less.length:Int)).toNat=i % less.length:=by rw[<-Int.natCast_emod];exact Int.toNat_natCast _
  cases hS with
  |nil =>
   by_cases c3:lo+g % 700<=bhi-g / 11 % 700
   ·by_cases c4:vlo+g % 30<=vhi-g / 7 % 30
    ·by_cases c5:g % 5=1
     ·have hkp:(if kpF (zk.mk bl lo bhi vlo vhi hold) g=true then [shF (zk.mk bl lo bhi vlo vhi hold) g] else [])=[]:=by simp[kpF,shF,c3,c4,c5]
      refine⟨v,.jd,[],by rw[hkp];exact Nst.nil,?_⟩;rw[zj zT9.eq_1];simp (maxSteps:=1000000) [naE,naM,zG,zTL,hi,hii,hbb,ze,hw,zg,zH,hl0,hl1,Bk,Bl,yF,hq1,hq2,hq3,hq4,hq5,hq6,hq7,hq8,hlt,w1,w2,w3,w4,w5,w6,jW,c3,c4,c5]
     ·have hkp:(if kpF (zk.mk bl lo bhi vlo vhi hold) g=true then [shF (zk.mk bl lo bhi vlo vhi hold) g] else [])=[(zk.mk bl (lo+g % 700) (bhi-g / 11 % 700) (vlo+g % 30) (vhi-g / 7 % 30) hold)]:=by simp[kpF,shF,c3,c4,c5]
      refine⟨v+1,.slice 5 1 6 0 1 none,[bxv 5 6 (ze (zk.mk bl (lo+g % 700) (bhi-g / 11 % 700) (vlo+g % 30) (vhi-g / 7 % 30) hold)),some (own 6 [ze (zk.mk bl (lo+g % 700) (bhi-g / 11 % 700) (vlo+g % 30) (vhi-g / 7 % 30) hold)]),some (own 6 [ze (zk.mk bl (lo+g % 700) (bhi-g / 11 % 700) (vlo+g % 30) (vhi-g / 7 % 30) hold)])],by rw[hkp];exact Nst.own [(zk.mk bl (lo+g % 700) (bhi-g / 11 % 700) (vlo+g % 30) (vhi-g / 7 % 30) hold)] 2 _ (by simp) rfl,?_⟩;rw[zj zT9.eq_1];simp (maxSteps:=1000000) [naE,naM,zG,zTL,hi,hii,hbb,ze,hw,zg,zH,hl0,hl1,Bk,Bl,yF,hq1,hq2,hq3,hq4,hq5,hq6,hq7,hq8,hlt,w1,w2,w3,w4,w5,w6,jW,c3,c4,c5]
    ·have hkp:(if kpF (zk.mk bl lo bhi vlo vhi hold) g=true then [shF (zk.mk bl lo bhi vlo vhi hold) g] else [])=[]:=by simp[kpF,shF,c3,c4]
     refine⟨v,.jd,[],by rw[hkp];exact Nst.nil,?_⟩;rw[zj zT9.eq_1];simp (maxSteps:=1000000) [naE,naM,zG,zTL,hi,hii,hbb,ze,hw,zg,zH,hl0,hl1,Bk,Bl,yF,hq1,hq2,hq3,hq4,hq5,hq6,hq7,hq8,hlt,w1,w2,w3,w4,w5,w6,jW,c3,c4]
   ·have hkp:(if kpF (zk.mk bl lo bhi vlo vhi hold) g=true then [shF (zk.mk bl lo bhi vlo vhi hold) g] else [])=[]:=by simp[kpF,shF,c3]
    refine⟨v,.jd,[],by rw[hkp];exact Nst.nil,?_⟩;rw[zj zT9.eq_1];simp (maxSteps:=1000000) [naE,naM,zG,zTL,hi,hii,hbb,ze,hw,zg,zH,hl0,hl1,Bk,Bl,yF,hq1,hq2,hq3,hq4,hq5,hq6,hq7,hq8,hlt,w1,w2,w3,w4,w5,w6,jW,c3]
  |own out j G hne hG0 =>
   have hjG:j<G.length:=(jK.1 hG0).1;have hg1:∀N:Mem,(G++N)[j]?=some (some (own 6 (zI out))):=fun N=>by rw[jq hjG,hG0]
   have yH:∀(N:Mem) (x:Option Blk),(G++N).set j x=G.set j x++N:=fun N x=>qt _ _ hjG
   have hE:∀(x:Option Blk) (N:Mem),(G++x::N)[G.length]?=some x:=fun x N=>by simp
   have hE2:∀(x y:Option Blk) (N:Mem),(G++x::y::N)[G.length+1]?=some y:=fun x y N=>by rw[jL (by omega)];simp
   have hEs:∀(x y:Option Blk) (N:Mem),(G++x::N).set G.length y=G++y::N:=fun x y N=>by rw[kG _ _ (jl _)];simp
   have hdr:∀(E:Env) (x y:Option Blk) (w g len:Nat) (N:Mem),ks 3 E (x::y::bxv w 6 (zTL k.tick (.slice (j+3) g 6 0 len none) k.ego)::N)=(x::y::bxv w 6 (zTL k.tick (.slice (j+3) g 6 0 len none) k.ego)::N):=by
    intro E x y w g len N;unfold ks;split
    ·rfl
    ·rw[if_neg];simp[zH,Blk.below,Eng.below,yh]
   simp only[own,zgg]at hg1;simp only[bxv,zTL]at hdr;by_cases c3:lo+g % 700<=bhi-g / 11 % 700
   ·by_cases c4:vlo+g % 30<=vhi-g / 7 % 30
    ·by_cases c5:g % 5=1
     ·have hkp:(if kpF (zk.mk bl lo bhi vlo vhi hold) g=true then [shF (zk.mk bl lo bhi vlo vhi hold) g] else [])=[]:=by simp[kpF,shF,c3,c4,c5]
      refine⟨v,.slice (j+3) out.length 6 0 out.length none,G++[bxv 5 6 (ze (zk.mk bl (lo+g % 700) (bhi-g / 11 % 700) (vlo+g % 30) (vhi-g / 7 % 30) hold))],by rw[hkp,kS];exact Nst.own out j _ hne (by rw[jq hjG,hG0]),?_⟩;rw[zj zT9.eq_1];simp (maxSteps:=1000000) [naE,naM,zG,zTL,hi,hii,hbb,ze,hw,zg,zH,hl0,hl1,Bk,Bl,yF,hq1,hq2,hq3,hq4,hq5,hq6,hq7,hq8,hlt,w1,w2,w3,w4,w5,w6,jW,c3,c4,c5,hg1,yH,hE,hE2,hEs,hdr,-ks]
     ·have hkp:(if kpF (zk.mk bl lo bhi vlo vhi hold) g=true then [shF (zk.mk bl lo bhi vlo vhi hold) g] else [])=[(zk.mk bl (lo+g % 700) (bhi-g / 11 % 700) (vlo+g % 30) (vhi-g / 7 % 30) hold)]:=by simp[kpF,shF,c3,c4,c5]
      refine⟨v+1,.slice (j+3) (out++[(zk.mk bl (lo+g % 700) (bhi-g / 11 % 700) (vlo+g % 30) (vhi-g / 7 % 30) hold)]).length 6 0 (out++[(zk.mk bl (lo+g % 700) (bhi-g / 11 % 700) (vlo+g % 30) (vhi-g / 7 % 30) hold)]).length none,G.set j (some (own 6 (zI (out++[(zk.mk bl (lo+g % 700) (bhi-g / 11 % 700) (vlo+g % 30) (vhi-g / 7 % 30) hold)]))))++[bxv 5 6 (ze (zk.mk bl (lo+g % 700) (bhi-g / 11 % 700) (vlo+g % 30) (vhi-g / 7 % 30) hold)),some (own 6 [ze (zk.mk bl (lo+g % 700) (bhi-g / 11 % 700) (vlo+g % 30) (vhi-g / 7 % 30) hold)])],by rw[hkp];exact Nst.own _ j _ (by simp) (by rw[jq (by simpa using hjG),kl hjG]),?_⟩;rw[zj zT9.eq_1];simp (maxSteps:=1000000) [naE,naM,zG,zTL,hi,hii,hbb,ze,hw,zg,zH,hl0,hl1,Bk,Bl,yF,hq1,hq2,hq3,hq4,hq5,hq6,hq7,hq8,hlt,w1,w2,w3,w4,w5,w6,jW,c3,c4,c5,hg1,yH,hE,hE2,hEs,hdr,-ks]
    ·have hkp:(if kpF (zk.mk bl lo bhi vlo vhi hold) g=true then [shF (zk.mk bl lo bhi vlo vhi hold) g] else [])=[]:=by simp[kpF,shF,c3,c4]
     refine⟨v,.slice (j+3) out.length 6 0 out.length none,G++[bxv 5 6 (ze (zk.mk bl (lo+g % 700) (bhi-g / 11 % 700) (vlo+g % 30) (vhi-g / 7 % 30) hold))],by rw[hkp,kS];exact Nst.own out j _ hne (by rw[jq hjG,hG0]),?_⟩;rw[zj zT9.eq_1];simp (maxSteps:=1000000) [naE,naM,zG,zTL,hi,hii,hbb,ze,hw,zg,zH,hl0,hl1,Bk,Bl,yF,hq1,hq2,hq3,hq4,hq5,hq6,hq7,hq8,hlt,w1,w2,w3,w4,w5,w6,jW,c3,c4,hg1,yH,hE,hE2,hEs,hdr,-ks]
   ·have hkp:(if kpF (zk.mk bl lo bhi vlo vhi hold) g=true then [shF (zk.mk bl lo bhi vlo vhi hold) g] else [])=[]:=by simp[kpF,shF,c3]
    refine⟨v,.slice (j+3) out.length 6 0 out.length none,G++[bxv 5 6 (ze (zk.mk bl (lo+g % 700) (bhi-g / 11 % 700) (vlo+g % 30) (vhi-g / 7 % 30) hold))],by rw[hkp,kS];exact Nst.own out j _ hne (by rw[jq hjG,hG0]),?_⟩;rw[zj zT9.eq_1];simp (maxSteps:=1000000) [naE,naM,zG,zTL,hi,hii,hbb,ze,hw,zg,zH,hl0,hl1,Bk,Bl,yF,hq1,hq2,hq3,hq4,hq5,hq6,hq7,hq8,hlt,w1,w2,w3,w4,w5,w6,jW,c3,hg1,yH,hE,hE2,hEs,hdr,-ks]
theorem zVD(k:zci)(hk:k.jQ.length<=1000000000)(hb:∀b∈k.jQ,NB b)(less:List Int)(hl:less.length<=1000):∀(r:List zk) (i:Nat) (out:List zk) (v:Nat) (S:Cl) (G:Mem),k.jQ.drop i=r->i<=k.jQ.length->out.length<=i->Nst out S G ->
  ∃v' S' G',Nst (out++naF less i r) S' G'/\Y L Cs zT9 (some [6,4,2,1,5]) 3 (naE less i) (naM k v S G)=some (.exit 0,(19,.w (Bo false))::naE less k.jQ.length,naM k v' S' G'):=by
 intro r;induction r with
 |nil =>
  intro i out v S G hd hi ho hS;obtain rfl:=zUb hd hi;refine⟨v,S,G,by simpa [naF]using hS,?_⟩;rw[zj zT9.eq_1];simp[naE,naM,zG]
 |cons b r ih =>
  intro i out v S G hd hi ho hS;obtain⟨hil,hx,hd'⟩:=zL hd;obtain⟨v1,S1,G1,h1,h2⟩:=zVC k hk less hl i hil (hb _ (jf hil)) out ho v S G hS;rw[hx]at h1;obtain⟨v2,S2,G2,h3,h4⟩:=ih (i+1) _ v1 S1 G1 hd' hil (by rw[ju];split<;>simp<;>omega) h1;refine⟨v2,S2,G2,?_,by rw[h2,h4]⟩;rw[naF,<-jE];exact h3
def zUr(e:Ego)(less:List Int):Ego:=if 1<less.length then(if e.slo+less.getD 0 0 % 100<=e.shi-less.getD 1 0 % 100 then⟨e.slo+less.getD 0 0 % 100,e.shi-less.getD 1 0 % 100,e.vlo,e.vhi⟩ else e) else e
def zUv(k:zci)(less:List Int):zci:=⟨k.tick,naF less 0 k.jQ,zUr k.ego less⟩
theorem zVb(k:zci)(hk:k.jQ.length<=1000000000)(hb:∀b∈k.jQ,NB b)(he:-1000000000000000<=k.ego.slo/\k.ego.slo<=1000000000000000/\-1000000000000000<=k.ego.shi/\k.ego.shi<=1000000000000000)(less:List Int)(hl:less.length<=1000) :
  R L Cs zUi [.a (zG k),.c (.jc (zu less))] []=some (.w (.a (zG (zUv k less))),[]):=by
 obtain⟨v,S,G,hS,hL⟩:=zVD k hk hb less hl k.jQ 0 [] 1 .jd [] rfl (jA _) (jl _) .nil;rw[jg]at hS;unfold zUv;generalize naF less 0 k.jQ=out at *;have yF:∀n:Int,R L Cs zEd [W n,W 100] []=some (.w (W (n % 100)),[]):=fun n=>zD0 n 100 (by omega) (by omega)
 obtain⟨e1,e2,e3,e4⟩:=he;simp only[naE,naM,zG,zTL,ji]at hL;by_cases c:1<less.length
 ·obtain⟨x0,x1,t,rfl⟩:∃x0 x1 t,less=x0::x1::t:=by
   match less,c with
   |x0::x1::t,_=>exact⟨x0,x1,t,rfl⟩
  have c':(1:Int)<((x0::x1::t).length:Int):=by omega
  simp only[zaP]at hL;have w1:=kr (k.ego.slo+x0 % 100);have w2:=kr (k.ego.shi-x1 % 100);have hn:zUr k.ego (x0::x1::t)=if k.ego.slo+x0 % 100<=k.ego.shi-x1 % 100 then⟨k.ego.slo+x0 % 100,k.ego.shi-x1 % 100,k.ego.vlo,k.ego.vhi⟩ else k.ego:=by unfold zUr;rw[if_pos c];rfl
  rw[hn];have ht:(0:Int)<(t.length:Int)+1:=by omega
  have ht3:(0:Int)<(t.length:Int)+1+1:=by omega
  have ht2:(1:Int)<(t.length:Int)+1+1:=by omega
  by_cases d:k.ego.slo+x0 % 100<=k.ego.shi-x1 % 100
  ·rw[if_pos d,zUa zUh rfl];cases hS with
   |nil=>simp (maxSteps:=1000000) [zUd,zG,hL,yF,c,c',ht,ht2,ht3,d,w1,w2,zg,zH,zdR]
   |own out j G hne hG =>
    have hjG:j<G.length:=(jK.1 hG).1;have hg1:∀N:Mem,(G++N)[j]?=some (some (own 6 (zI out))):=fun N=>by rw[jq hjG,hG]
    have hE:∀(x:Option Blk) (N:Mem),(G++x::N)[G.length]?=some x:=fun x N=>by simp
    have hEs:∀(x y:Option Blk) (N:Mem),(G++x::N).set G.length y=G++y::N:=fun x y N=>by rw[kG _ _ (jl _)];simp
    simp only[own,zgg]at hg1;simp (maxSteps:=1000000) [zUd,zG,hL,yF,c,c',ht,ht2,ht3,d,w1,w2,hg1,hE,hEs,zg,zH,zdR,look]
  ·rw[if_neg d,zUa zUh rfl];cases hS with
   |nil=>simp (maxSteps:=1000000) [zUd,zG,hL,yF,c,c',ht,ht2,ht3,d,w1,w2,zg,zH,zdR]
   |own out j G hne hG =>
    have hjG:j<G.length:=(jK.1 hG).1;have hg1:∀N:Mem,(G++N)[j]?=some (some (own 6 (zI out))):=fun N=>by rw[jq hjG,hG]
    have hE:∀(x:Option Blk) (N:Mem),(G++x::N)[G.length]?=some x:=fun x N=>by simp
    have hEs:∀(x y:Option Blk) (N:Mem),(G++x::N).set G.length y=G++y::N:=fun x y N=>by rw[kG _ _ (jl _)];simp
    simp only[own,zgg]at hg1;simp (maxSteps:=1000000) [zUd,zG,hL,yF,c,c',ht,ht2,ht3,d,w1,w2,hg1,hE,hEs,zg,zH,zdR,look]
 ·have c':¬(1:Int)<(less.length:Int):=by omega
  have hn:zUr k.ego less=k.ego:=by unfold zUr;rw[if_neg c]
  rw[hn,zUa zUh rfl];cases hS with
  |nil=>simp (maxSteps:=1000000) [zUd,zG,hL,c,c',zg,zH,zdR]
  |own out j G hne hG =>
   have hjG:j<G.length:=(jK.1 hG).1;have hg1:∀N:Mem,(G++N)[j]?=some (some (own 6 (zI out))):=fun N=>by rw[jq hjG,hG]
   simp only[own,zgg]at hG hg1;simp (maxSteps:=1000000) [zUd,zG,hL,c,c',hG,hg1,zg,zH,zdR,look]
theorem zVr{b:zk}{g:Int}(hg:0<=g):InP (shF b g) b:=by
 refine⟨rfl,?_,?_,?_,?_,?_⟩<;>simp only[shF]<;>omega
theorem zU3(less:List Int):∀(r:List zk) (i:Nat),Sub (naF less i r) r
 |[],i,p,hp=>by cases hp
 |b::r,i,p,hp=>by
  unfold naF at hp;rcases jx.1 hp with hp|hp
  ·split at hp
   ·rw[jt.1 hp];exact⟨b,jp ..,zVr (zUP less i).1⟩
   ·cases hp
  ·obtain⟨q,hq,h⟩:=zU3 less r (i+1) p hp;exact⟨q,jr _ hq,h⟩
theorem zVt{m:zD}(less:List Int):∀(r:List zk) (i:Nat),(∀b∈r,VB m b)->∀p∈naF less i r,VB m p
 |[],i,_,p,hp=>by cases hp
 |b::r,i,hv,p,hp=>by
  unfold naF at hp;rcases jx.1 hp with hp|hp
  ·split at hp
   ·rename_i c;rw[jt.1 hp];have hb:=hv b (jp ..);have hg:=zUP less i;unfold kpF at c;simp only[jh,decide_eq_true_eq]at c;have h1:=hb.lo;have h2:=hb.hi;have h3:=hb.vlo;have h4:=hb.vhi;have s1:(shF b (gF less i)).lo=b.lo+gF less i % 700:=rfl;have s2:(shF b (gF less i)).hi=b.hi-gF less i / 11 % 700:=rfl;have s3:(shF b (gF less i)).vlo=b.vlo+gF less i % 30:=rfl;have s4:(shF b (gF less i)).vhi=b.vhi-gF less i / 7 % 30:=rfl;exact⟨hb.lane,by omega,c.1.1,by show(shF b (gF less i)).hi<=z8 m b.lane;omega,by omega,c.1.2,by show(shF b (gF less i)).vhi<=zeR (zaK m b.lane);omega,hb.hold⟩
   ·cases hp
  ·exact zVt less r (i+1) (fun x hx=>hv x (jr _ hx)) p hp
theorem zVf(less:List Int):∀(r:List zk) (i:Nat),r.Pairwise Apt->(naF less i r).Pairwise Apt
 |[],i,_=>List.Pairwise.nil
 |b::r,i,h=>by
  rw[jO]at h;have ih:=zVf less r (i+1) h.2;unfold naF;split
  ·refine jO.2 ⟨fun p hp=>?_,ih⟩;obtain⟨q,hq,hpq⟩:=zU3 less r (i+1) p hp;have hb:=h.1 q hq;have hs:=zVr (b:=b) (zUP less i).1;have a1:=hs.lane;have a2:=hs.hi;have b1:=hpq.lane;have b2:=hpq.lo;unfold Apt at hb ⊢;omega
  ·exact ih
theorem zVe(k:zci)(less:List Int):InK (zUv k less) k:=by
 refine⟨rfl,?_,zU3 less _ _⟩;show InE (zUr k.ego less) k.ego;unfold zUr;split
 ·split
  ·exact⟨by simp only;omega,by simp only;omega,jJ _,jJ _⟩
  ·exact⟨jJ _,jJ _,jJ _,jJ _⟩
 ·exact⟨jJ _,jJ _,jJ _,jJ _⟩
theorem zUO{m:zD}(h:zcp m){k:zci}(hc:zdf m k=0)(less:List Int):zdf m (zUv k less)=0:=by
 obtain⟨⟨⟨e1,e2,e3⟩,⟨e4,e5,e6⟩⟩,t1,t2⟩:=zte hc;refine zFv ?_ (zVt less _ _ (zxJ h hc)) (zVf less _ _ (zFn h hc));have:(zUr k.ego less).slo<=(zUr k.ego less).shi/\k.ego.slo<=(zUr k.ego less).slo/\(zUr k.ego less).shi<=k.ego.shi/\(zUr k.ego less).vlo=k.ego.vlo/\(zUr k.ego less).vhi=k.ego.vhi:=by
  unfold zUr;split
  ·split
   ·rename_i c;exact⟨c,by simp only;omega,by simp only;omega,rfl,rfl⟩
   ·exact⟨e2,jJ _,jJ _,rfl,rfl⟩
  ·exact⟨e2,jJ _,jJ _,rfl,rfl⟩
 simp only[ziI,zUv,zsa];omega
theorem zSv(v a:Int)(hv:0<=v/\v<=2000)(ha:-2000<=a/\a<=2000):R L Cs zSt [W v,W a] []=some (.w (W (doV v a)),[]):=by
 have w0:=kr (v+a);have e:doV v a=max 0 (min (v+a) 2000):=by unfold doV;omega
 rw[e,zUa zSw rfl];simp[zSk,w0]
theorem zS3(v x:Int):doV v (max (-2000) (min x 2000))=doV v x:=by unfold doV;omega
abbrev slI(id:Nat)(l:List Int):WV:=.c (.slice id l.length 1 0 l.length none)
abbrev owI(l:List Int):Option Blk:=some (own 1 (zu l))
abbrev rsE(a v:Int)(l:List Int):Env:=[(1,.w (W a)),(2,.w (W v)),(7,.w (slI 2 l)),(3,.w (Pl.Pt 0))]
theorem zST{c:Car}(hc:c.ok):∀(f:Nat) (l:List Int) (a v:Int) (r:List Int),zGI c f (decide (l.length=0)) a v=some r->l.length+f<=1000->0<=v/\v<=2000 ->
  ∃a' v',Y L Cs zSh (some [1,2,7,3]) 3 (rsE a v l) [bx 5 (Pl.kL c),gb 1,owI l]=some (.exit 0,(24,.w (Bo false))::rsE a' v' (l++r),[bx 5 (Pl.kL c),gb 1,owI (l++r)]):=by
 intro f;induction f with
 |zero=>intro l a v r h;cases h
 |succ f ih =>
  intro l a v r h hf hv;have AJ:=hc;obtain⟨q1,q2,q3,q4,q5,q6,q7,q8,q9,q10⟩:=AJ;rw[zF7]at h;by_cases cnd:(decide (l.length=0)=true)\/0<v\/0<a
  ·rw[if_pos cnd]at h;obtain⟨r',hr',rfl⟩:=ja.1 h;have hx:=zNt hc a (-c.kW);have hd:=zG1 v (zFX c a (-c.kW));have hS:=zSv v (zFX c a (-c.kW)) hv (by omega);have hR:=Pl.An hc a (-c.kW);have w0:=kr (-c.kW);simp only[Pl.kL]at hR;generalize zFX c a (-c.kW)=x at *;obtain⟨a',v',h⟩:=ih (l++[x]) x (doV v x) r' (by rw[show decide ((l++[x]).length=0)=false by simp];exact hr') (by simp;omega) hd;refine⟨a',v',?_⟩;rw[show l++x::r'=l++[x]++r' by simp,<-h];have jW:(l.length+1)*8<=140737488355328:=by omega
   rw[zj zSh.eq_1];by_cases e1:l.length=0
   ·have e2:l=[]:=kp e1;subst e2;simp[rsE,slI,owI,own,Pl.kL,w0,hR,hS]
   ·have e0:((l.length:Int)==0)=false:=by rw[beq_eq_false_iff_ne];omega
    by_cases e2:0<v
    ·simp[rsE,slI,owI,own,Pl.kL,w0,hR,hS,e0,e1,e2,jW]
    ·have e3:0<a:=by
      rcases cnd with q|q|q
      ·exact absurd (of_decide_eq_true q) e1
      ·omega
      ·exact q
     simp[rsE,slI,owI,own,Pl.kL,w0,hR,hS,e0,e1,e2,e3,jW]
  ·rw[if_neg cnd]at h;obtain rfl:=vG h;have e1:¬l.length=0:=fun e=>cnd (.inl (by simp[e]))
   have e2:¬0<v:=fun e=>cnd (.inr (.inl e))
   have e3:¬0<a:=fun e=>cnd (.inr (.inr e))
   have e0:((l.length:Int)==0)=false:=by rw[beq_eq_false_iff_ne];omega
   refine⟨a,v,?_⟩;rw[zj zSh.eq_1];simp[rsE,slI,owI,own,Pl.kL,e0,e1,e2,e3]
theorem zSH{c:Car}(hc:c.ok)(a v:Int):R L Cs zSu [.a (Pl.kL c),W a,W v] []=some (.w (.c (.jc (zu (stops c a (max 0 (min v 2000)))))),[]):=by
 have h1:=Pl.yY hc;obtain⟨h2,_,h4⟩:=zMs hc a (max 0 (min v 2000)) (by omega) (by omega);obtain⟨a',v',h3⟩:=zST hc 111 [] a (max 0 (min v 2000)) _ h2 (by simp) (by omega);generalize stops c a (max 0 (min v 2000))=r at *;simp only[Pl.kL]at h1;simp only[rsE,owI,slI,own,Pl.kL,zay,jw,jg,ji]at h3;rw[zUa zSx rfl];simp[zSl,Pl.kL,h1,h3,zg]
abbrev rpM(c:Car)(l:List Int):Mem:=[bx 5 (Pl.kL c),bx 1 [.jd],owI l]
abbrev zS2(q:List Int)(up hold:Nat)(i:Nat)(s:Drv):Env:=[(2,.w (W s.last)),(13,.w (slI 2 s.l)),(3,.w (W s.v)),(14,.w (W i)),(6,.w (Pl.Pt 0)),(5,.w (W hold)),(12,.w (Pl.Pt 1)),(4,.w (W up)),(1,.w (.c (.jc (zu q))))]
abbrev zS5(q:List Int)(up hold:Nat)(i:Nat)(s:Drv):Env:=[(31,.w (Bo false)),(2,.w (W s.last)),(13,.w (slI 2 s.l)),(3,.w (W s.v)),(14,.w (W i)),(6,.w (Pl.Pt 0)),(5,.w (W hold)),(12,.w (Pl.Pt 1)),(4,.w (W up)),(1,.w (.c (.jc (zu q))))]
theorem zSS(c:Car)(q:List Int)(hql:q.length<=1000)(up hold:Nat):∀(r:List Int) (i:Nat) (s:Drv),(q.take 5).drop i=r->i<=(q.take 5).length->s.l.length<=i->0<=s.v/\s.v<=2000 ->
  Y L Cs zSf (some [2,13,3,14,6,5,12,4,1]) 3 (zS2 q up hold i s) (rpM c s.l)=some (.exit 0,zS5 q up hold (q.take 5).length (Drv.queue r s),rpM c (Drv.queue r s).l):=by
 intro r;induction r with
 |nil =>
  intro i s hd hi hs hv;obtain rfl:=zUb hd hi;rw[zj zSf.eq_1];by_cases e:q.length<=5
  ·have e1:(q.take 5).length=q.length:=by simp;omega
   rw[e1];simp[zS2,zS5,rpM,Drv.queue]
  ·have e1:(q.take 5).length=5:=by simp;omega
   have e2:(5:Int)<q.length:=by omega
   have e3:5<q.length:=by omega
   rw[e1];simp[zS2,zS5,rpM,Drv.queue,e2,e3]
 |cons x r ih =>
  intro i s hd hi hs hv;obtain⟨hil,hx,hd'⟩:=zL hd;have h5:i<5/\i<q.length:=by simp at hil;omega
  have hx':q[i]'(h5.2)=x:=by rw[<-hx];simp
  have ym:=ih (i+1) (s.Ac x) hd' hil (by simp[Drv.Ac];omega) (zG1 ..);have hw:=zB (i:=i) (by omega);have hS:=zSv s.v (max (-2000) (min x 2000)) hv (by omega);rw[zS3]at hS;have jW:(s.l.length+1)*8<=140737488355328:=by omega
  have h5':(i:Int)<5:=by omega
  have h6':(i:Int)<q.length:=by omega
  have h6:=h5.2;rw[Drv.queue,<-ym,zj zSf.eq_1];simp[zS2,rpM,slI,owI,own,Pl.kL,h5',h6',h6,hx',hS,hw,jW,Drv.Ac]
abbrev zS1(hold n:Nat)(i:Nat)(s:Drv):Env:=[(2,.w (W s.last)),(13,.w (slI 2 s.l)),(3,.w (W s.v)),(15,.w (W i)),(4,.w (W n)),(12,.w (Pl.Pt 1)),(5,.w (W hold)),(6,.w (Pl.Pt 0))]
theorem zSR{c:Car}(hc:c.ok)(hold n:Nat)(hn:n<=20):∀(t i:Nat) (s:Drv),i+t=n->s.l.length<=5+i->0<=s.v/\s.v<=2000 ->
  Y L Cs zSe (some [2,13,3,15,4,12,5,6]) 3 (zS1 hold n i s) (rpM c s.l)=some (.exit 2,(59,.w (Bo false))::zS1 hold n n (Drv.ur c c.qz t s),rpM c (Drv.ur c c.qz t s).l):=by
 intro t;induction t with
 |zero =>
  intro i s hi hs hv;obtain rfl:i=n:=by omega
  rw[zj zSe.eq_1];simp[zS1,rpM,Drv.ur]
 |succ t ih =>
  intro i s hi hs hv;have ym:=ih (i+1) (s.Ac (zFX c s.last c.qz)) (by omega) (by simp[Drv.Ac];omega) (zG1 ..);have hw:=zB (i:=i) (by omega);have hx:=zNt hc s.last c.qz;have hR:=Pl.An hc s.last c.qz;have AJ:=hc;obtain⟨q1,q2,q3,q4,q5,q6,q7,q8,q9,q10⟩:=AJ;have hS:=zSv s.v (zFX c s.last c.qz) hv (by omega);have jW:(s.l.length+1)*8<=140737488355328:=by omega
  have h5:(i:Int)<n:=by omega
  have h5':(i:Int)<20:=by omega
  have h6:i<20:=by omega
  have h7:i<n:=by omega
  rw[Drv.ur,<-ym,zj zSe.eq_1];generalize zFX c s.last c.qz=x at *;simp only[Pl.kL]at hR;simp[zS1,rpM,slI,owI,own,Pl.kL,h5,h5',h6,h7,hR,hS,hw,jW,Drv.Ac]
abbrev zS0(n:Nat)(i:Nat)(s:Drv):Env:=[(2,.w (W s.last)),(13,.w (slI 2 s.l)),(3,.w (W s.v)),(16,.w (W i)),(5,.w (W n)),(12,.w (Pl.Pt 1)),(6,.w (Pl.Pt 0))]
theorem zSQ{c:Car}(hc:c.ok)(n:Nat)(hn:n<=20):∀(t i:Nat) (s:Drv),i+t=n->s.l.length<=25+i->0<=s.v/\s.v<=2000 ->
  Y L Cs zSd (some [2,13,3,16,5,12,6]) 3 (zS0 n i s) (rpM c s.l)=some (.exit 4,(80,.w (Bo false))::zS0 n n (Drv.ur c 0 t s),rpM c (Drv.ur c 0 t s).l):=by
 intro t;induction t with
 |zero =>
  intro i s hi hs hv;obtain rfl:i=n:=by omega
  rw[zj zSd.eq_1];simp[zS0,rpM,Drv.ur]
 |succ t ih =>
  intro i s hi hs hv;have ym:=ih (i+1) (s.Ac (zFX c s.last 0)) (by omega) (by simp[Drv.Ac];omega) (zG1 ..);have hw:=zB (i:=i) (by omega);have hx:=zNt hc s.last 0;have hR:=Pl.An hc s.last 0;have AJ:=hc;obtain⟨q1,q2,q3,q4,q5,q6,q7,q8,q9,q10⟩:=AJ;have hS:=zSv s.v (zFX c s.last 0) hv (by omega);have jW:(s.l.length+1)*8<=140737488355328:=by omega
  have h5:(i:Int)<n:=by omega
  have h5':(i:Int)<20:=by omega
  have h6:i<20:=by omega
  have h7:i<n:=by omega
  rw[Drv.ur,<-ym,zj zSd.eq_1];generalize zFX c s.last 0=x at *;simp only[Pl.kL]at hR;simp[zS0,rpM,slI,owI,own,Pl.kL,h5,h5',h6,h7,hR,hS,hw,jW,Drv.Ac]
theorem zSy{c:Car}{w:Int}:∀{n:Nat} {s:Drv},0<=s.v/\s.v<=2000->0<=(Drv.ur c w n s).v/\(Drv.ur c w n s).v<=2000
 |0,s,h=>h
 |n+1,s,h=>zSy (n:=n) (zG1 s.v _)
theorem zSD:∀{q:List Int} {s:Drv},0<=s.v/\s.v<=2000->0<=(Drv.queue q s).v/\(Drv.queue q s).v<=2000
 |[],s,h=>h
 |x::q,s,h=>zSD (q:=q) (zG1 s.v _)
theorem zSO{c:Car}(hc:c.ok)(q:List Int)(hql:q.length<=1000)(last v:Int)(up hold:Nat)(hu:up<=20)(hh:hold<=20) :
  R L Cs zSq [.a (Pl.kL c),.c (.jc (zu q)),W last,W v,W up,W hold] []=some (.w (.a [.jc (zu (zJ2 c q last (max 0 (min v 2000)) up hold))]),[]):=by
 have h0:=Pl.yY hc;have hv:0<=max 0 (min v 2000)/\max 0 (min v 2000)<=2000:=by omega
 generalize hvv:max 0 (min v 2000)=v' at hv;have ht5:(q.take 5).length<=5:=by simp;omega
 have hl1:(Drv.queue (q.take 5) (Drv.mk last v' [])).l.length=(q.take 5).length:=by rw[Drv.Ai];simp
 have h1:=zSS c q hql up hold (q.take 5) 0 (Drv.mk last v' []) rfl (jA _) (by simp) hv;have g1:=zSD (q:=q.take 5) (s:=Drv.mk last v' []) hv;unfold zJ2;generalize Drv.queue (q.take 5) (Drv.mk last v' [])=s1 at *;have h2:=zSR hc hold up hu up 0 s1 (by omega) (by omega) g1;have g2:=zSy (c:=c) (w:=c.qz) (n:=up) g1;have hl2:=Drv.yk (c:=c) (w:=c.qz) (n:=up) (s:=s1);simp only[];generalize Drv.ur c c.qz up s1=s2 at *;have h3:=zSQ hc hold hh hold 0 s2 (by omega) (by omega) g2;have g3:=zSy (c:=c) (w:=0) (n:=hold) g2;have hl3:=Drv.yk (c:=c) (w:=0) (n:=hold) (s:=s2);generalize Drv.ur c 0 hold s2=s3 at *;have h4:=zSH hc s3.last s3.v;rw[show max 0 (min s3.v 2000)=s3.v by omega]at h4;have h5:=zMs hc s3.last s3.v g3.1 g3.2;generalize stops c s3.last s3.v=st at *;simp only[zS2,zS5,zS1,zS0,rpM,slI,owI,own,Pl.kL,zay,zfq,jw,ji]at h0 h1 h2 h3 h4;have jW:(s3.l.length+st.length)*8<=140737488355328:=by omega
 have hne:zu st≠[]:=by
  have:=h5.2.1;intro e;have e2:(zu st).length=0:=by rw[e];rfl
  rw[zfq]at e2;omega
 have hT:List.take (s3.l.length+st.length) (zu s3.l++zu st)=zu s3.l++zu st:=jX (by simp);rw[zUa zSs rfl];simp[zSi,Pl.kL,hvv,h0,h1,h2,h3,h4,jW,hne,hT,zg,zX]
theorem zLx{c:zK8}{w:Int}:∀{n:Nat} {s:Drv},0<=s.v/\s.v<=2000->0<=(Drv.ur c w n s).v/\(Drv.ur c w n s).v<=2000
 |0,s,h=>h
 |n+1,s,h=>zLx (n:=n) (zG1 s.v _)
theorem zMg:∀{q:List Int} {s:Drv},0<=s.v/\s.v<=2000->0<=(Drv.queue q s).v/\(Drv.queue q s).v<=2000
 |[],s,h=>h
 |x::q,s,h=>zMg (q:=q) (zG1 s.v _)
theorem zOt{c:zK8}(hc:c.ok)(q:List Int)(last v:Int)(up hold:Nat)(hv:0<=v/\v<=2000):(zJ2 c q last v up hold).length<=115+up+hold:=by
 unfold zJ2;have h1:=zMg (q:=q.take 5) (s:=Drv.mk last v []) hv;have h2:=zLx (c:=c) (w:=c.qz) (n:=up) h1;have h3:=zLx (c:=c) (w:=0) (n:=hold) h2;have hl1:(Drv.queue (q.take 5) (Drv.mk last v [])).l.length=(q.take 5).length:=by rw[Drv.Ai];simp
 have hl2:=Drv.yk (c:=c) (w:=c.qz) (n:=up) (s:=Drv.queue (q.take 5) (Drv.mk last v []));have hl3:=Drv.yk (c:=c) (w:=0) (n:=hold) (s:=Drv.ur c c.qz up (Drv.queue (q.take 5) (Drv.mk last v [])));generalize Drv.ur c 0 hold (Drv.ur c c.qz up (Drv.queue (q.take 5) (Drv.mk last v [])))=s at *;have h4:=(zMs hc s.last s.v h3.1 h3.2).2.2;have h5:(q.take 5).length<=5:=by simp;omega
 simp only[ju];omega
theorem zVF{m:zD}(h:zcp m){b:zk}(hb:VB m b):NB b:=by
 have h1:=hb.lo;have h2:=hb.le;have h3:=hb.hi;have h4:=hb.vlo;have h5:=hb.vle;have h6:=hb.vhi;have hl:=(zcX h hb.lane).2;have ht:zeR (zaK m b.lane)<=2000:=by unfold zeR;(repeat' split)<;>omega
 exact⟨by omega,by omega,by omega,by omega,h2,h5⟩
theorem zVE{m:zD}{zs:List Zon}{ss:List Sgn}(hf:zmq m zs ss){k:zci}(hc:zdf m k=0)(less:List Int)(hl:less.length<=1000):R L Cs zUi [.a (zG k),.c (.jc (zu less))] []=some (.w (.a (zG (zUv k less))),[]):=by
 obtain⟨⟨⟨e1,e2,e3⟩,_⟩,_⟩:=zte hc;exact zVb k (by have:=zvx hf.qW hf.yQ hc;omega) (fun b hb=>zVF hf.qW (zxJ hf.qW hc b hb)) (by omega) less hl
theorem zVs{c:zK8}(hc:c.ok)(q:List Int)(hq:∀a∈q,zk0 a)(last v:Int)(hv:0<=v/\v<=2000)(up hold:Nat):∀a∈zJ2 c q last v up hold,zk0 a:=by
 have hcc:=hc;obtain⟨q1,q2,q3,q4,q5,q6,q7,q8,q9,q10⟩:=hcc;have hr:∀(w:Int) (n:Nat) (s:Drv),(∀a∈s.l,zk0 a)->∀a∈(Drv.ur c w n s).l,zk0 a:=by
  intro w n;induction n with
  |zero=>intro s h;exact h
  |succ n ih =>
   intro s h;refine ih _ fun a ha=>?_
   simp only[Drv.Ac,jx,jt]at ha;rcases ha with ha|rfl
   ·exact h a ha
   ·have:=zNt hc s.last w;exact⟨by omega,by omega⟩
 have hs:∀(m:Nat) (f:Bool) (last v:Int) (l:List Int),zGI c m f last v=some l->∀a∈l,zk0 a:=by
  intro m;induction m with
  |zero=>intro f last v l h;cases h
  |succ m ih =>
   intro f last v l h;rw[zF7]at h;split at h
   ·obtain⟨l',h',rfl⟩:=ja.1 h;intro a ha;rcases jB.1 ha with rfl|ha
    ·have:=zNt hc last (-c.kW);exact⟨by omega,by omega⟩
    ·exact ih _ _ _ _ h' a ha
   ·obtain rfl:=vG h;intro a ha;cases ha
 intro a ha;unfold zJ2 at ha;simp only[jx]at ha;have g1:=zMg (q:=q.take 5) (s:=Drv.mk last v []) hv;have g2:=zLx (c:=c) (w:=c.qz) (n:=up) g1;have g3:=zLx (c:=c) (w:=0) (n:=hold) g2;rcases ha with ha|ha
 ·refine hr _ _ _ (hr _ _ _ fun a ha=>?_) a ha;rw[Drv.BG,jg]at ha;exact hq a (k9 ha)
 ·exact hs _ _ _ _ _ (zMs hc _ _ g3.1 g3.2).1 a ha
theorem zWh{m:zD}(hlen:∀l∈m.jb,R L Cs zN [.a [zeT l]] []=some (.w (W l.len),[]))(hk:∀l∈m.jb,l.kind=1\/l.kind=2\/l.kind=3){w:zCP}{j:Nat}(hj:j<m.jb.length)(e:w.lane=j)(x1:0<=w.lo)(x3:w.hi<=m.jb[j].len)(x4:0<=w.Am)(x5:w.Am<w.ends)(x6:w.ends<=1099511627776)(x7:0<=w.qF)(hb:w.hi<w.lo\/zeR m.jb[j].kind<w.qF) :
  R L Cs zfh [.a (zf m),.a (zaL w)] []=some (.w (W 2),[]):=by
 have hB:=zhv (hk _ (jf hj));have hL:=hlen _ (jf hj);have hW:=zmm w.qF 0 (zeR m.jb[j].kind);simp only[zeT]at hL;obtain⟨w1,w2,w3,w4,w5,w6⟩:=w;simp only at e x1 x3 x4 x5 x6 x7 hb hW;subst e;generalize zeR m.jb[j].kind=tv at *;have y0:¬(m.jb.length:Int)<=(j:Int):=by omega
 have yj:¬(j:Int)<0:=by omega
 have y1:¬w2<0:=by omega
 have y3:¬m.jb[j].len<w3:=by omega
 have y4:¬w4<0:=by omega
 have y5:¬w5<=w4:=by omega
 have y6:¬(1099511627776:Int)<w5:=by omega
 rw[zUa ziH rfl];by_cases y2:w3<w2
 ·simp[zdF,zf,zaL,hj,zo,hB,hL,yj,y0,y1,y2]
 ·have x8:¬w6<=tv:=by omega
  simp[zdF,zf,zaL,hj,zo,hB,hL,hW,yj,y0,y1,y2,y3,y4,y5,y6,x7,x8]
theorem zWb(n rt x0 x1 x2 x3 a0 a1 a2 a3 w0 w1 w2 w3 up:Int)(l:List Bit)(hl:∀x∈l,zk0 x.hold)(less:List Int)(signals:Bool) :
  R L Cs zWa [W n,W rt,.a [I x0,I x1,I x2,I x3],.c (.jc (zDS l)),.a [I a0,I a1,I a2,I a3],.c (.jc (zu less)),.a [I w0,I w1,I w2,I w3],W up,Bo signals] []=some (.w (Bo true),[]):=by
 have ha:=Pl.CA;by_cases c1:(6:Int)<l.length
 ·have c1':6<l.length:=by omega
  rw[zUa znP rfl];simp[zb,c1,c1',ha,zg]
 have c1':¬6<l.length:=by omega
 by_cases c2:(8:Int)<less.length
 ·have c2':8<less.length:=by omega
  rw[zUa znP rfl];simp[zb,c1,c1',c2,c2',ha,zg]
 have c2':¬8<less.length:=by omega
 obtain⟨k,lim,r0,o1,o2,o3,v,ws,hk,nu,hM⟩:=zA5 n;have nu0:zp2 k lim r0 o1 o2 o3 v []:=⟨⟨nu.lim,nu.r,nu.o1,nu.o2,nu.o3,nu.v,by simp⟩,fun x hx=>by cases hx⟩;have hF:=zTs k hk nu0;have hf:=hF.full;have hm:=hf.qW;have hp:=hF.pos;obtain⟨kk,hR⟩:=zES hm rt;have hrl:=zEm (zq k lim r0 o1 o2 o3 v []) kk;have hon:=zEy hm kk;have hr:=zE5 hf hp kk;generalize zDT (zq k lim r0 o1 o2 o3 v []) kk=r at *;obtain⟨_,hne,_⟩:=zg1 hm hr;obtain⟨y0,r',rfl⟩:∃x t,r=x::t:=by cases r with|nil=>exact absurd rfl hne|cons x t=>exact⟨x,t,rfl⟩
 have hy0:=hon y0 (jp ..);have Ba:=zEV hm hy0;have hLb:=zcX hm hy0;have f0:=zD0 w0 20001 (by omega) (by omega);have f1:=zD0 w1 20000 (by omega) (by omega);have f2:=zD0 w2 1000 (by omega) (by omega);have f3:=zD0 w3 400 (by omega) (by omega);have b0:=zDJ w0 20001 (by omega);have b1:=zDJ w1 20000 (by omega);have b2:=zDJ w2 1000 (by omega);have b3:=zDJ w3 400 (by omega);have wf:=kr (w0 % 20001+w1 % 20000);generalize w0 % 20001=fr at *;generalize w1 % 20000=sp at *;generalize w2 % 1000=bg at *;generalize w3 % 400=lm at *;obtain⟨j,hj0⟩:=jv hy0.1;have hj:j<(zq k lim r0 o1 o2 o3 v []).jb.length:=by omega
 have eL:z8 (zq k lim r0 o1 o2 o3 v []) y0=(zq k lim r0 o1 o2 o3 v []).jb[j].len:=by rw[hj0];simp[z8,hj]
 obtain⟨wk,hwk⟩:∃w:zCP,w=⟨y0,fr,min (z8 (zq k lim r0 o1 o2 o3 v []) y0) (fr+sp),bg,1100,lm⟩:=⟨_,rfl⟩;have nuS:NumsO k lim r0 o1 o2 o3 v [wk]:=⟨nu.lim,nu.r,nu.o1,nu.o2,nu.o3,nu.v,by simp⟩;have hGW:=zV9 k hk nuS;have hCk:∃e,R L Cs zeE [.a (zf (zq k lim r0 o1 o2 o3 v [wk]))] []=some (.w (W e),[])/\(e=0->WkV (zq k lim r0 o1 o2 o3 v [wk]) wk):=by
  by_cases hv:WkV (zq k lim r0 o1 o2 o3 v [wk]) wk
  ·refine⟨0,(hGW.qW fun x hx=>?_).Bb,fun _=>hv⟩;rw[jt.1 hx];exact hv
  ·refine⟨2,hGW.bad wk 2 rfl (zWh hm.rlen hm.kind (m:=zq k lim r0 o1 o2 o3 v [wk]) (j:=j) hj (by rw[hwk];exact hj0) (by rw[hwk];exact b0.1) ?_ (by rw[hwk];exact b2.1) (by rw[hwk];show bg<1100;omega) (by rw[hwk];show(1100:Int)<=_;omega) (by rw[hwk];exact b3.1) ?_),fun h=>absurd h (by omega)⟩
   ·rw[hwk];show min (z8 (zq k lim r0 o1 o2 o3 v []) y0) (fr+sp)<=(zq k lim r0 o1 o2 o3 v []).jb[j].len;omega
   ·refine Classical.byContradiction fun hc=>hv ⟨j,hj,by rw[hwk];exact hj0,by rw[hwk];exact b0.1,by omega,?_,by rw[hwk];exact b2.1,by rw[hwk];show bg<1100;omega,by rw[hwk];show(1100:Int)<=_;omega,by rw[hwk];exact b3.1,by omega⟩
    rw[hwk];show min (z8 (zq k lim r0 o1 o2 o3 v []) y0) (fr+sp)<=(zq k lim r0 o1 o2 o3 v []).jb[j].len;omega
 obtain⟨e,hCk,he0⟩:=hCk;have hK:=zFz hm hp (y0::r') hrl l (by omega) hl a0 a1 (a2 % 270) a3;obtain⟨v1,v2,v3⟩:=zEM hm hp (y0::r') hrl hon l a0 a1 (a2 % 270) a3;have hKl:(zD1 (zq k lim r0 o1 o2 o3 v []) (y0::r') l a0 a1 (a2 % 270) a3).jQ.length<=6:=by
  have:=zkq (l.map (zDN (zq k lim r0 o1 o2 o3 v [])));rw[qL]at this;simp only[zD1];omega
 have hmd:=zD0 a2 270 (by omega) (by omega);have hmu:=zEW up 7 (by omega) (by omega);obtain⟨u,hu⟩:=jv (qi up (show(7:Int)≠0 by decide));have hu2:u<=20:=by omega
 rw[hu]at hmu;have hC:=Pl.R_made x0 x1 x2 x3;have hcok:=Pl.Ca x0 x1 x2 x3;generalize Pl.Bf x0 x1 x2 x3=c at *;generalize a2 % 270=aa at *;generalize hK0:zD1 (zq k lim r0 o1 o2 o3 v []) (y0::r') l a0 a1 aa a3=K0 at *;have hO:=zPg hm (y0::r') (by omega) c.len K0 (by omega) (fun z hz=>zFo hm (zxJ hm v1 z hz));have hOl:=zO2 hm (y0::r') c.len K0 (by omega);generalize zO3 (zq k lim r0 o1 o2 o3 v []) (y0::r') c.len K0=K at *;have hP:=zSO hcok [] (by simp) 0 K.ego.vhi u 2 hu2 (by omega);have e2:((2:Nat):Int)=2:=rfl;rw[e2]at hP;have hci:=zOt hcok [] 0 (max 0 (min K.ego.vhi 2000)) u 2 (by omega);have hin:=zVs hcok [] (fun _ h=>nomatch h) 0 (max 0 (min K.ego.vhi 2000)) (by omega) u 2;generalize zJ2 c [] 0 (max 0 (min K.ego.vhi 2000)) u 2=p at *;have eM0:zf (zq k lim r0 o1 o2 o3 v [])=[I v,.jc ((zy k lim).map zo),.jc (zO k r0),.jc (zt k r0 o1 o2 o3),.jc []]:=rfl;have eMw:zf (zq k lim r0 o1 o2 o3 v ws)=[I v,.jc ((zy k lim).map zo),.jc (zO k r0),.jc (zt k r0 o1 o2 o3),.jc (ws.map zaL)]:=rfl;have eMS:zf (zq k lim r0 o1 o2 o3 v [wk])=[I v,.jc ((zy k lim).map zo),.jc (zO k r0),.jc (zt k r0 o1 o2 o3),.jc [[I y0,I fr,I (min (z8 (zq k lim r0 o1 o2 o3 v []) y0) (fr+sp)),I bg,I 1100,I lm]]]:=by rw[hwk];rfl
 by_cases he:e=0
 ·have hwv:=he0 he;subst he;have nuV:zp2 k lim r0 o1 o2 o3 v [wk]:=⟨nuS,fun x hx=>by rw[jt.1 hx];exact hwv⟩;have hFS:=zTs k hk nuV;have hV:=zOJ hFS (y0::r') (by omega) c K hOl p hin (by omega) signals;generalize hyy:zOk (zq k lim r0 o1 o2 o3 v [wk]) (zsP k r0) (ssP k r0 o1 o2 o3) (y0::r') c K p signals=y at *;obtain⟨z1,z2,z3⟩:=y;cases z1 with
  |false =>
   rw[eMS]at hCk hV;rw[eM0]at hR hK hO Ba;rw[eMw]at hM;generalize z8 (zq k lim r0 o1 o2 o3 v []) y0=lf at *;simp only[zG,Pl.kL,zJ4,zJY,zay,zaP]at hM hR hK hC hO hP hV hCk Ba;rw[zUa znP rfl];simp (maxSteps:=1000000) [zb,zG,Pl.kL,c1,c1',c2,c2',ha,hM,hR,hK,hC,hO,hP,hV,hCk,Ba,hmd,hmu,f0,f1,f2,f3,wf,zg,zH,zX]
  |true =>
   have hT:(zOk (wkM (zq k lim r0 o1 o2 o3 v []) [wk]) (zsP k r0) (ssP k r0 o1 o2 o3) (y0::r') c K p signals).1=true:=by
    show(zOk (zq k lim r0 o1 o2 o3 v [wk]) (zsP k r0) (ssP k r0 o1 o2 o3) (y0::r') c K p signals).1=true;rw[hyy]
   have hT0:=zWj hf rfl (fun w hw=>by rw[jt.1 hw,hwk];exact b3.1) hT;obtain⟨h1,-,-,-,-⟩:=(zUm _ _ _ _ _ _ _ _).1 hT0;obtain⟨-,-,hcc,hkc⟩:=zNz h1;have hN:=zVE hf hkc less (by omega);have hNok:=zUO hm hkc less;have hNI:=zUC hf (fun w hw=>by cases hw) (zVe K less) hNok hT0;have w1:=zOJ hF (y0::r') (by omega) c (zUv K less) (by have:=zvx hm hf.yQ hNok;omega) p hin (by omega) signals;generalize zOk (zq k lim r0 o1 o2 o3 v []) (zsP k r0) (ssP k r0 o1 o2 o3) (y0::r') c (zUv K less) p signals=q1 at *;obtain⟨q11,q12,q13⟩:=q1;simp only at hNI;subst hNI;generalize zUv K less=nk at *;rw[eMS]at hCk hV;rw[eM0]at hR hK hO Ba w1;rw[eMw]at hM;generalize z8 (zq k lim r0 o1 o2 o3 v []) y0=lf at *;simp only[zG,Pl.kL,zJ4,zJY,zay,zaP]at hM hR hK hC hO hP hV hCk Ba hN w1;rw[zUa znP rfl];simp (maxSteps:=1000000) [zb,zG,Pl.kL,c1,c1',c2,c2',ha,hM,hR,hK,hC,hO,hP,hV,hCk,Ba,hN,w1,hmd,hmu,f0,f1,f2,f3,wf,zg,zH,zX]
 ·have he':(e==0)=false:=by simp[he]
  have he2:(e !=0)=true:=by simp[he]
  rw[eMS]at hCk;rw[eM0]at hR hK hO Ba;rw[eMw]at hM;generalize z8 (zq k lim r0 o1 o2 o3 v []) y0=lf at *;simp only[zG,Pl.kL,zay,zaP]at hM hR hK hC hO hP hCk Ba;rw[zUa znP rfl];simp (maxSteps:=1000000) [zb,zG,Pl.kL,c1,c1',c2,c2',ha,hM,hR,hK,hC,hO,hP,hCk,Ba,he,he',he2,hmd,hmu,f0,f1,f2,f3,wf,zg,zH,zX]
theorem zWd:∀xs,zot [zmN,zmN,.st [zmN,zmN,zmN,zmN],.slice zFC,.st [zmN,zmN,zmN,zmN],.slice zmN,.st [zmN,zmN,zmN,zmN],zmN,.bool] xs->∃M',R L Cs zWa xs []=some (.w (.c (.bool true)),M'):=by
 intro xs h;simp only[zot]at h;obtain⟨c1,_,rfl,h1,c2,_,rfl,h2,c3,_,rfl,h3,c4,_,rfl,h4,c5,_,rfl,h5,c6,_,rfl,h6,c7,_,rfl,h7,c8,_,rfl,h8,c9,_,rfl,h9,rfl⟩:=h;simp only[zfo,znD]at h1 h2 h3 h4 h5 h6 h7 h8 h9;obtain⟨n,rfl,_⟩:=h1;obtain⟨rt,rfl,_⟩:=h2;obtain⟨_,_,rfl,⟨x0,rfl,_⟩,_,_,rfl,⟨x1,rfl,_⟩,_,_,rfl,⟨x2,rfl,_⟩,_,_,rfl,⟨x3,rfl,_⟩,rfl⟩:=h3;obtain⟨rows,rfl,_,Ad⟩:=h4;obtain⟨l,rfl,hl⟩:=zE2 (rows:=rows) (fun r hr=>by simp only[zfo,znD];exact Ad r hr);obtain⟨_,_,rfl,⟨a0,rfl,_⟩,_,_,rfl,⟨a1,rfl,_⟩,_,_,rfl,⟨a2,rfl,_⟩,_,_,rfl,⟨a3,rfl,_⟩,rfl⟩:=h5;obtain⟨vK,rfl,_,y8⟩:=h6;obtain⟨q,rfl,_⟩:=zxB (rows:=vK) (fun r hr=>by simp only[zfo];exact y8 r hr);obtain⟨_,_,rfl,⟨w0,rfl,_⟩,_,_,rfl,⟨w1,rfl,_⟩,_,_,rfl,⟨w2,rfl,_⟩,_,_,rfl,⟨w3,rfl,_⟩,rfl⟩:=h7;obtain⟨up,rfl,_⟩:=h8;obtain⟨s,rfl⟩:=h9;exact⟨[],zWb n rt x0 x1 x2 x3 a0 a1 a2 a3 w0 w1 w2 w3 up l hl q s⟩
theorem zq2(a:Int):R L [] zlc [W a] []=some (.w (Bo false),[]):=by
 rw[zUa zle rfl];simp[zfU]
theorem zn3(a:Int):R L [] zi5 [W a] []=some (.w (Bo false),[]):=by
 rw[zUa zi9 rfl];simp[ze6]
theorem zuB(a b:Int):R L [] zi6 [W a,W b] []=some (.w (W (zgQ a b)),[]):=by
 have h1:=zq2 a;have h2:=zq2 b;rw[zUa zja rfl];unfold zgQ;by_cases h:a<b
 ·simp[zb3,h1,h2,h]
 ·by_cases h':b<a
  ·simp[zb3,h1,h2,h,h']
  ·simp[zb3,h1,h2,h,h']
theorem zmv(a b:Int):R L [] zhQ [W a,W b] []=some (.w (W (zgQ a b)),[]):=by
 have h1:=zn3 a;have h2:=zn3 b;rw[zUa zhS rfl];unfold zgQ;by_cases h:a<b
 ·simp[zbq,h1,h2,h]
 ·by_cases h':b<a
  ·simp[zbq,h1,h2,h,h']
  ·simp[zbq,h1,h2,h,h']
theorem zxz(b:Bool):R L [] zhB [Bo b] []=some (.w (W (if b then 1 else 0)),[]):=by
 rw[zUa zp4 rfl];cases b<;>simp[zhF]
def orI(a b c d:Int):Int:=if a=0 then(if b=0 then(if c=0 then d else c) else b) else a
abbrev orE(a b c d:Int)(i:Int):Env:=[(7,.w (W 4)),(6,.w (.c (.jc [[I a],[I b],[I c],[I d]]))),(3,.w (W 0)),(8,.w (W i))]
theorem or0(a b c d:Int):R L [] zob [.c (.jc [[I a],[I b],[I c],[I d]])] []=some (.w (W (orI a b c d)),[]):=by
 have w1:IntKind.i64.wrap 1=1:=rfl;have w2:IntKind.i64.wrap 2=2:=rfl;have w3:IntKind.i64.wrap 3=3:=rfl;have w4:IntKind.i64.wrap 4=4:=rfl;have h4:Y L [] zab (some [7,6,3,8]) 0 (orE a b c d 4) []=some (.exit 0,[(9,.w (Bo false)),(3,.w (W 0)),(6,.w (.c (.jc [[I a],[I b],[I c],[I d]]))),(7,.w (W 4)),(8,.w (W 4))],[]):=by
  rw[zj zab.eq_1];simp
 have h3:Y L [] zab (some [7,6,3,8]) 0 (orE a b c d 3) []=if d=0 then Y L [] zab (some [7,6,3,8]) 0 (orE a b c d 4) [] else some (.ret,[(2,.w (W d))],[]):=by
  rw[zj zab.eq_1];by_cases h:d=0
  ·simp[h,w4]
  ·have h':(d !=0)=true:=by simp[h]
   simp[h,h']
 have h2:Y L [] zab (some [7,6,3,8]) 0 (orE a b c d 2) []=if c=0 then Y L [] zab (some [7,6,3,8]) 0 (orE a b c d 3) [] else some (.ret,[(2,.w (W c))],[]):=by
  rw[zj zab.eq_1];by_cases h:c=0
  ·simp[h,w3]
  ·have h':(c !=0)=true:=by simp[h]
   simp[h,h']
 have h1:Y L [] zab (some [7,6,3,8]) 0 (orE a b c d 1) []=if b=0 then Y L [] zab (some [7,6,3,8]) 0 (orE a b c d 2) [] else some (.ret,[(2,.w (W b))],[]):=by
  rw[zj zab.eq_1];by_cases h:b=0
  ·simp[h,w2]
  ·have h':(b !=0)=true:=by simp[h]
   simp[h,h']
 have h0:Y L [] zab (some [7,6,3,8]) 0 (orE a b c d 0) []=if a=0 then Y L [] zab (some [7,6,3,8]) 0 (orE a b c d 1) [] else some (.ret,[(2,.w (W a))],[]):=by
  rw[zj zab.eq_1];by_cases h:a=0
  ·simp[h,w1]
  ·have h':(a !=0)=true:=by simp[h]
   simp[h,h']
 rw[h4]at h3;rw[h3]at h2;rw[h2]at h1;rw[h1]at h0;rw[zUa zow rfl];unfold orI;by_cases c1:a=0<;>by_cases c2:b=0<;>by_cases c3:c=0<;>by_cases c4:d=0<;>simp only[c1,c2,c3,c4,if_true,if_false]at h0 ⊢<;>simp[zfw,h0]
def zoG(b:Bool):Int:=if b then 1 else 0
def zu6(a b:Swp):Int:=orI (zgQ a.lane b.lane) (zgQ a.lo b.lo) (zgQ a.hi b.hi) (zoG a.cap-zoG b.cap)
theorem less0(a b:Swp):R L [] zar [.a (swC a),.a (swC b)] []=some (.w (W (zu6 a b)),[]):=by
 have h1:=zuB a.lane b.lane;have h2:=zmv a.lo b.lo;have h3:=zmv a.hi b.hi;have h4:R L [] zhB [Bo a.cap] []=some (.w (W (zoG a.cap)),[]):=zxz a.cap;have h5:R L [] zhB [Bo b.cap] []=some (.w (W (zoG b.cap)),[]):=zxz b.cap;have h6:=or0 (zgQ a.lane b.lane) (zgQ a.lo b.lo) (zgQ a.hi b.hi) (zoG a.cap-zoG b.cap);have w:IntKind.i64.wrap (zoG a.cap-zoG b.cap)=zoG a.cap-zoG b.cap:=by
  cases a.cap<;>cases b.cap<;>rfl
 unfold zu6;generalize zgQ a.lane b.lane=x1 at *;generalize zgQ a.lo b.lo=x2 at *;generalize zgQ a.hi b.hi=x3 at *;generalize zoG a.cap=o1 at *;generalize zoG b.cap=o2 at *;rw[zUa zsv rfl];simp[zjq,swC,h1,h2,h3,h4,h5,h6,w,zg,zX]
theorem zz5(a b:Swp):(zu6 a b<0)<->ltS a b=true:=by
 rw[zz2];unfold zu6 orI zgQ zoG;by_cases h1:a.lane<b.lane
 ·simp[h1]
 ·by_cases h2:b.lane<a.lane
  ·have:¬a.lane=b.lane:=by omega
   simp[h1,h2,this]
  ·have e1:a.lane=b.lane:=by omega
   by_cases h3:a.lo<b.lo
   ·simp[e1,h3]
   ·by_cases h4:b.lo<a.lo
    ·have:¬a.lo=b.lo:=by omega
     simp[e1,h3,h4,this]
    ·have e2:a.lo=b.lo:=by omega
     by_cases h5:a.hi<b.hi
     ·simp[e1,e2,h5]
     ·by_cases h6:b.hi<a.hi
      ·have:¬a.hi=b.hi:=by omega
       simp[e1,e2,h5,h6,this]
      ·have e3:a.hi=b.hi:=by omega
       cases a.cap<;>cases b.cap<;>simp[e1,e2,e3]
end Go.TrRun
namespace Go.Eng
open Go
theorem zsf [zb0]{P:Program}{cf:za4}(hcf:FnS P cf){f:FuncId}(hf:f<zb0.base){args:List WV}{vs:Array Value}{w:World}{σ:zP}{j:Inj}{M':Mem}{c:Int}(h:cf f args []=some (.w (.c (.int .i64 c)),M'))
  (hag:zM σ w) (hvs:zac σ j args vs.toList) (hm:MR (fun b=>w.heap.size<=b) σ j [] w) :
  Calls P f vs w fun e w'=>e=.returned (.int .i64 c)/\∃q os',w'=Go.Sort.grow (w.drewN q) os':=by
 obtain⟨_,_,_,_,hc⟩:=(hcf f args [] _ _ h (fun id hid=>by simp at hid)).1 hf;refine Calls.yl (hc (fun b=>w.heap.size<=b) σ j w vs (fun _ h=>h) hag hm hvs) ?_;rintro e w' ⟨v,σ',j',rfl,hr,_,_,hst⟩;have hr:VC σ' j' (.int .i64 c) v:=hr;cases hr;refine⟨rfl,w'.drawn-w.drawn,w'.heap.extract w.heap.size w'.heap.size,?_⟩;have h1:=hst.side.os;have h2:=hst.side.output;have h3:=hst.side.tape;have h4:=hst.side.drawn;have h5:=hst.frame;have h6:=hst.size;cases w' with |mk heap tape drawn os output =>
 simp only at h1 h2 h3 h4 h5 h6;subst h1;subst h2;subst h3;unfold Go.Sort.grow World.drewN;simp only[World.mk.injEq,and_true,true_and];refine⟨?_,by omega⟩;apply Array.ext_getElem?;intro i;by_cases hi:i<w.heap.size
 ·rw[kA hi];exact h5 i hi (by omega)
 ·rw[vO (by omega),ud];by_cases hi2:i<heap.size
  ·rw[if_pos (by omega)]
   congr 1;omega
  ·rw[if_neg (by omega)];exact qE (by omega)
end Go.Eng
namespace Go.TrRun
open Go Go.Eng
theorem zxp(σ:zP)(j:Inj)(x:List Int):WVR σ j (.a (swC (zik x))) (.agg (ziq 4 7 x).toArray):=by
 refine⟨_,rfl,?_⟩;have e:(ziq 4 7 x).toArray.toList=[.int .i64 (x.getD 0 0),.int .i64 (x.getD 1 0),.int .i64 (x.getD 2 0),.bool (x.getD 3 0 !=0)]:=rfl;rw[e];refine⟨rfl,fun n c v hc hv=>?_⟩
 match n with
 |0=>cases hc;cases hv;exact .int _ _ _
 |1=>cases hc;cases hv;exact .int _ _ _
 |2=>cases hc;cases hv;exact .int _ _ _
 |3=>cases hc;cases hv;exact .bool _ _
 |n+4=>cases hc
def zAw(x y:List Int):Int:=zu6 (zik x) (zik y)
theorem zBC:(fun x y=>decide (zAw x y<0))=ltZ 4 7:=by
 funext x y;have h:=zz5 (zik x) (zik y);have e:ltS (zik x) (zik y)=ltZ 4 7 x y:=by
  have k1:∀z:List Int,zji (zik z)=zsY 4 7 z:=fun z=>by
   simp[zji,zik,zsY,List.range,List.range.loop,zgk]
  simp only[ltS,ltZ,k1,if_true]
 rw[e]at h;unfold zAw;cases hz:ltZ 4 7 x y with
 |true=>exact decide_eq_true (h.2 hz)
 |false =>
  refine decide_eq_false fun h'=>?_
  rw[h.1 h']at hz;cases hz
theorem zwK{P:Program}(uw:P.follows .mixedOrders=true)(hL:(L.map fun p=>zcF P an true p.1)=L.map fun p=>some p.2)(hV:zql P L=true)(hf:zar<P.funcs.size)(x y:List Int)(W:World) :
  Calls P zar #[.agg (ziq 4 7 x).toArray,.agg (ziq 4 7 y).toArray] W fun e w'=>e=.returned (.int .i64 (zAw x y))/\∃q os',w'=Go.Sort.grow (W.drewN q) os':=by
 letI:=zww P fun f=>L.lookup f
 obtain⟨n,hn⟩:=zah.1 (less0 (zik x) (zik y));exact zsf (zsT uw hL hV (Cs:=[]) rfl (fun c hc=>by cases hc) n) (f:=zar) hf hn (zml (W:=W) fun g row hr=>by cases hr) (.cons (zxp _ _ x) (.cons (zxp _ _ y) .nil)) MR.nil
end Go.TrRun
