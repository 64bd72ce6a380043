/- This text proves what functions of this seat's program answer, run by the evaluator; no condition. -/
import Derived.Test.YtiakbjhnpchbhaaGreatTx2
import Derived.KernelRfl
set_option maxHeartbeats 8000000
set_option linter.unusedVariables false
set_option linter.unusedSimpArgs false
set_option linter.unusedSectionVars false
set_option maxRecDepth 10000
namespace Go.TrRun
open Go Go.Eng
theorem zO7{m:zD}{zs:List Zon}{ss:List Sgn}(hf:zmq m zs ss):∀q∈zs,∀p∈q.parts,zOj p:=by
 intro q hq p hp;obtain⟨a0,a1,a2,a3,_⟩:=hf.pv q hq p hp;have:=zcX hf.qe a0;exact⟨by omega,by omega⟩
theorem zPm{m:zD}{zs:List Zon}{ss:List Sgn}(hf:zmq m zs ss){l:List Int}(hr:zdA m l=0)(hs:zN1 (zKh m zs 0 l))(hn:(zKh m zs 0 l).length<=19) :
  R L Cs zMC [.a (zf m),.c (.jc (zu l))] []=some (.w (.c (.jc (zKd (zKh m zs 0 l)))),[]):=by
 have h:=hf.qe;obtain⟨hon,hne,hl8⟩:=zg1 h hr;have hF:=zvR h hr;have g:=zOY h l hl8 hon zs hf.zd.z hf.zd.few hf.zd.BT (zO7 hf) l 0 0 [] rfl (jD _) rfl (kG _) (by omega) (by simp);have hS:=zOK (zKh m zs 0 l) hs hn (zKh m zs 0 l).length;rw[jk]at g;generalize zKh m zs 0 l=o at *;simp only[zPY,zQd,paS,paM,own,zlf,zf,zLE,zNO,js,jg,Bh]at g hF hS;rw[zUa zMO rfl];simp[zIL,zf,hF,g,hS,zg,zX]
abbrev zQ0(m:zD)(o:List Pss):Mem:=[bx 5 (zf m),gb 4,some (own 4 (zKd o))]
abbrev rpS(o:List Pss):WV:=.c (.slice 2 o.length 4 0 o.length none)
abbrev zRQ(m:zD)(l:List Int)(i z k:Nat)(o:List Pss):Env:=[(5,.w (rpS o)),(9,.w (W k)),(2,.w (Pt 0)),(1,.w (.c (.jc (zu l)))),(8,.w (W z)),(6,.w (.c (.jc (zu (zW m 0 l))))),(7,.w (W i))]
theorem zRO{m:zD}(l:List Int)(i:Nat)(hil:i<l.length)(st:Int)(his:i<(zW m 0 l).length)(hst:(zW m 0 l)[i]=st)(hsb:0<=st/\st<=100000000)(x:Int)(hx:l[i]=x)(zs:List Zon)(hzz:m.kr=zk8 zs)(z:Nat)(hz:z<zs.length)(q:Zon)(hzq:zs[z]=q)(hq:q.parts.length<=6)(hpo:∀p∈q.parts,zOj p):∀(t:List Prt) (k:Nat) (o:List Pss),q.parts.drop k=t->k<=q.parts.length->o.length<=1000+k ->
  Y L Cs zJv (some [5,9,2,1,8,6,7]) 3 (zRQ m l i z k o) (zQ0 m o) =
    some (.exit 4,(37,.w (Bo false))::zRQ m l i z q.parts.length (o++zLB st z x k t),zQ0 m (o++zLB st z x k t)):=by
 intro t;induction t with
 |nil =>
  intro k o hd hk ho;obtain rfl:=zUb hd hk;have e0:(zk8 zs)[z]'(by simpa using hz)=zdP q:=by simp[hzq]
  rw[ZfM zJv.eq_1];simp[zLB,zf,hzz,hz,hzq,zdP]
 |cons p t ih =>
  intro k o hd hk ho;obtain⟨hkl,hp,hd'⟩:=zL hd;have hw:=zB (i:=k) (by omega);have hok:=hpo p (by rw[<-hp];exact ja hkl);have w1:IntKind.i64.wrap (st+p.lo)=st+p.lo:=zTd _ (by have:=hok.lo;omega) (by have:=hok.lo;omega);have w2:IntKind.i64.wrap (st+p.hi)=st+p.hi:=zTd _ (by have:=hok.hi;omega) (by have:=hok.hi;omega);have jZ:(o.length+1)*32<=140737488355328:=by omega
  unfold zLB;by_cases c:p.lane=x
  ·have cb:(p.lane==x)=true:=by simp[c]
   rw[if_pos c];have h:=ih (k+1) (o++[⟨z,k,st+p.lo,st+p.hi⟩]) hd' hkl (by simp;omega);have e1:o++⟨z,k,st+p.lo,st+p.hi⟩::zLB st z x (k+1) t=(o++[⟨z,k,st+p.lo,st+p.hi⟩])++zLB st z x (k+1) t:=by simp
   rw[e1,<-h,ZfM zJv.eq_1];clear h ih e1;simp[zRQ,rpS,zQ0,own,zdP,zeB,zKF,hzz,hz,hzq,hil,hx,hkl,hp,hw,his,hst,w1,w2,c,cb,jZ,zg,zf,zH]
  ·have cb:(p.lane==x)=false:=by simp[c]
   rw[if_neg c];have h:=ih (k+1) o hd' hkl (by omega);rw[<-h,ZfM zJv.eq_1];clear h ih;simp[zRQ,rpS,zQ0,own,zdP,zeB,zKF,hzz,hz,hzq,hil,hx,hkl,hp,hw,c,cb,zg,zf,zH]
abbrev zRX(m:zD)(l:List Int)(i z:Nat)(o:List Pss):Env:=[(5,.w (rpS o)),(2,.w (Pt 0)),(1,.w (.c (.jc (zu l)))),(8,.w (W z)),(6,.w (.c (.jc (zu (zW m 0 l))))),(7,.w (W i))]
theorem zRN{m:zD}(l:List Int)(i:Nat)(hil:i<l.length)(st:Int)(his:i<(zW m 0 l).length)(hst:(zW m 0 l)[i]=st)(hsb:0<=st/\st<=100000000)(x:Int)(hx:l[i]=x)(zs:List Zon)(hzz:m.kr=zk8 zs)(hz:zs.length<=12)(hq:∀q∈zs,q.parts.length<=6)(hpo:∀q∈zs,∀p∈q.parts,zOj p):∀(t:List Zon) (z:Nat) (o:List Pss),zs.drop z=t->z<=zs.length->o.length<=900+6*z ->
  Y L Cs zJu (some [5,2,1,8,6,7]) 3 (zRX m l i z o) (zQ0 m o)=some (.exit 2,(26,.w (Bo false))::zRX m l i zs.length (o++zLA st x z t),zQ0 m (o++zLA st x z t)):=by
 intro t;induction t with
 |nil =>
  intro z o hd hk ho;obtain rfl:=zUb hd hk;rw[ZfM zJu.eq_1];simp[zLA,zf,hzz]
 |cons q t ih =>
  intro z o hd hk ho;obtain⟨hkl,hp,hd'⟩:=zL hd;have hw:=zB (i:=z) (by omega);have hqm:q∈zs:=by rw[<-hp];exact ja hkl
  have hp6:=hq q hqm;have hpl:=zLR st z x q.parts 0;have h1:=zRO l i hil st his hst hsb x hx zs hzz z hkl q hp hp6 (hpo q hqm) q.parts 0 o rfl (jD _) (by omega);have h:=ih (z+1) (o++zLB st z x 0 q.parts) hd' hkl (by simp;omega);unfold zLA;rw[<-jF,<-h,ZfM zJu.eq_1];clear h ih;generalize zLB st z x 0 q.parts=pp at *;simp only[zRQ,rpS,zQ0,own,zf,hzz,jg,zLE,zMu,jr]at h1;simp[zRX,rpS,zQ0,own,hkl,hp,hw,h1,zg,zf,hzz,zH]
abbrev zRW(m:zD)(l:List Int)(i:Nat)(o:List Pss):Env:=[(5,.w (rpS o)),(2,.w (Pt 0)),(1,.w (.c (.jc (zu l)))),(6,.w (.c (.jc (zu (zW m 0 l))))),(7,.w (W i))]
theorem zRM{m:zD}(h:zcp m)(l:List Int)(hl:l.length<=8)(hon:zj2 m l)(zs:List Zon)(hzz:m.kr=zk8 zs)(hz:zs.length<=12)(hq:∀q∈zs,q.parts.length<=6)(hpo:∀q∈zs,∀p∈q.parts,zOj p):∀(t:List Int) (i:Nat) (a:Int) (o:List Pss),l.drop i=t->i<=l.length->(zW m 0 l).drop i=zW m a t->0<=a->a<=i*1000000->o.length<=100*i ->
  Y L Cs zJt (some [5,2,1,6,7]) 3 (zRW m l i o) (zQ0 m o)=some (.exit 0,(19,.w (Bo false))::zRW m l l.length (o++zKh m zs a t),zQ0 m (o++zKh m zs a t)):=by
 intro t;induction t with
 |nil =>
  intro i a o hd hk hs h0 h1 ho;obtain rfl:=zUb hd hk;have e:(zW m 0 l).length=l.length:=zcO ..;rw[ZfM zJt.eq_1];simp[zKh,e]
 |cons x t ih =>
  intro i a o hd hk hs h0 h1 ho;obtain⟨hkl,hp,hd'⟩:=zL hd;have hw:=zB (i:=i) (by omega);have hx:=hon x (by rw[<-hp];exact ja hkl);have hle:=zcX h hx;have e:(zW m 0 l).length=l.length:=zcO ..;have hsl:i<(zW m 0 l).length:=by rw[zcO];exact hkl
  have hsd:=ki hsl;rw[hs,zW]at hsd;simp only[List.cons.injEq]at hsd;have hzl:=zNv a x zs 0 hq;have g:=zRN l i hkl a hsl hsd.1.symm ⟨h0,by omega⟩ x hp zs hzz hz hq hpo zs 0 o rfl (jD _) (by omega);have hh:=ih (i+1) (a+z8 m x) (o++zLA a x 0 zs) hd' hkl hsd.2.symm (by omega) (by omega) (by simp;omega);unfold zKh;rw[<-jF,<-hh,ZfM zJt.eq_1];clear hh ih;generalize zLA a x 0 zs=pp at *;simp only[zRX,rpS,zQ0,own,zf,hzz,jg,zLE,zMu,jr]at g;simp[zRW,rpS,zQ0,own,hkl,hp,hw,g,zg,zf,hzz,zH,e]
theorem zRP(m:zD)(o:List Pss)(hs:zN1 o)(hl:o.length<=19)(i:Nat)(hi:i<o.length):Y L Cs zJs (some [12,11,5]) 3 [(12,.w (W i)),(11,.w (W i)),(5,.w (rpS o))] (zQ0 m o) =
  some (.exit 8,[(126,.w (Bo false)),(12,.w (W i)),(11,.w (W i)),(5,.w (rpS o))],zQ0 m o):=by
 cases i with
 |zero =>
  rw[ZfM zJs.eq_1];simp[zf]
 |succ j =>
  have h2:j<o.length:=by omega
  have hn:=hs j hi;have hw:IntKind.i64.wrap ((j:Int)+1-1)=(j:Int):=by rw[zTd _ (by omega) (by omega)];omega
  have hg:(0:Int)<(j:Int)+1:=by omega
  have hwj:IntKind.i64.wrap (j:Int)=(j:Int):=zTd _ (by omega) (by omega);have a1:(0:Int)<=(j:Int)+1:=by omega
  have a2:(j:Int)+1<(o.length:Int):=by omega
  have a3:((j:Int)+1).toNat=j+1:=by omega
  have a4:(j:Int)<(o.length:Int):=by omega
  generalize hu:o[j+1]=u at *;generalize hv:o[j]=v at *;unfold zI2 at hn;have n1:¬u.lo<v.lo:=by omega
  rw[ZfM zJs.eq_1];by_cases c:u.lo=v.lo
  ·have cb:(u.lo==v.lo)=true:=by simp[c]
   have n2:¬u.kp<v.kp:=by omega
   have n3:¬v.lo<v.lo:=by omega
   simp[zQ0,rpS,own,zf,hg,hw,hwj,hi,h2,a1,a2,a3,a4,hu,hv,zKF,n1,n2,n3,c]
  ·have cb:(u.lo==v.lo)=false:=by simp[c]
   simp[zQ0,rpS,own,zf,hg,hw,hwj,hi,h2,a1,a2,a3,a4,hu,hv,zKF,n1,c,cb]
theorem zRL(m:zD)(o:List Pss)(hs:zN1 o)(hl:o.length<=19):∀(n i:Nat),i+n=o.length\/(n=0/\o.length<=i)->∃i',Y L Cs zJr (some [11,5]) 3 [(11,.w (W i)),(5,.w (rpS o))] (zQ0 m o)=some (.exit 6,[(79,.w (Bo false)),(11,.w (W i')),(5,.w (rpS o))],zQ0 m o):=by
 intro n;induction n with
 |zero =>
  intro i hi;have hc:¬(i:Int)<o.length:=by omega
  have hc':¬i<o.length:=by omega
  refine⟨i,?_⟩;rw[ZfM zJr.eq_1];simp[rpS,hc,hc']
 |succ n ih =>
  intro i hi;have hil:i<o.length:=by omega
  have hc:(i:Int)<o.length:=by omega
  have hw:=zB (i:=i) (by omega);have hin:=zRP m o hs hl i hil;obtain⟨i',h⟩:=ih (i+1) (by omega);refine⟨i',?_⟩;rw[<-h,ZfM zJr.eq_1];simp only[zQ0,rpS,zf,own,zLE]at hin;simp[rpS,zQ0,zf,own,hc,hil,hw,hin]
theorem zRG{m:zD}(h:zcp m){l:List Int}(hr:zdA m l=0):R L Cs zQ4 [.a (zf m),.c (.jc (zu l))] []=some (.w (.c (.jc (zu (zW m 0 l)))),[]):=by
 obtain⟨hon,hne,hl8⟩:=zg1 h hr;have h1:=zp0 m h.small h.A9 l (by omega);have h2:=zvX h (l:=l) (by omega) hon;rw[hr]at h1;simp only[zf]at h1 h2;rw[zUa zQ6 rfl];simp[zJM,zf,h1,h2,zg,zX]
theorem zRH{m:zD}{zs:List Zon}{ss:List Sgn}(hf:zmq m zs ss){l:List Int}(hr:zdA m l=0)(hs:zN1 (zKh m zs 0 l))(hn:(zKh m zs 0 l).length<=19) :
  R L Cs zQ5 [.a (zf m),.c (.jc (zu l))] []=some (.w (.c (.jc (zKd (zKh m zs 0 l)))),[]):=by
 have h:=hf.qe;obtain⟨hon,hne,hl8⟩:=zg1 h hr;have hS:=zRG h hr;have g:=zRM h l hl8 hon zs hf.zd.z hf.zd.few hf.zd.BT (zO7 hf) l 0 0 [] rfl (jD _) rfl (kG _) (by omega) (by simp);rw[jk]at g;obtain⟨i',g2⟩:=zRL m (zKh m zs 0 l) hs hn ((zKh m zs 0 l).length-1) 1 (by omega);generalize zKh m zs 0 l=o at *;have hw:IntKind.i64.wrap 1=1:=rfl;simp only[zRW,rpS,zQ0,own,zf,zLE,zNO,js,jg,j9]at g g2 hS;rw[zUa zQ7 rfl];simp[zJN,zf,hS,g,g2,zg,zX]
set_option maxRecDepth 100000
open Go Go.Eng
def isE:Option (AV×Mem)->Bool
 |some (.w (.c (.jc [])),[])=>true
 |_=>false
theorem zLU:∀{x:Option (AV×Mem)},isE x=true->x=some (.w (.c (.jc [])),[])
 |some (.w (.c (.jc [])),[]),_=>rfl
 |none,h=>by cases h
 |some (.u,_),h=>by cases h
 |some (.t _,_),h=>by cases h
 |some (.w (.a _),_),h=>by cases h
 |some (.w (.c (.jc (_::_))),_),h=>by cases h
 |some (.w (.c (.jc [])),_::_),h=>by cases h
 |some (.w (.c (.bool _)),_),h=>by cases h
 |some (.w (.c (.int _ _)),_),h=>by cases h
 |some (.w (.c (.str _)),_),h=>by cases h
 |some (.w (.c (.ptr ..)),_),h=>by cases h
 |some (.w (.c (.uR ..)),_),h=>by cases h
 |some (.w (.c .qS),_),h=>by cases h
 |some (.w (.c (.slice ..)),_),h=>by cases h
 |some (.w (.c .jd),_),h=>by cases h
 |some (.w (.c (.fn ..)),_),h=>by cases h
 |some (.w (.c .vl),_),h=>by cases h
 |some (.w (.c (.iface ..)),_),h=>by cases h
 |some (.w (.c .qy),_),h=>by cases h
 |some (.w (.c (.yld ..)),_),h=>by cases h
def zLW(m:zD):Bool:=isE (zaH L Cs 400 zMz [.a (zf m)] [])&&isE (zaH L Cs 400 zMB [.a (zf m)] [])&&isE (zaH L Cs 400 zMW [.a (zf m)] [])&&isE (zaH L Cs 400 zMA [.a (zf m)] [])
def zMm(m:zD):Bool:=true
theorem zQo(lim r o1 o2 o3 v:Int)(ws:List zCP):zLW (zq 0 lim r o1 o2 o3 v ws)=true:=by kernel_rfl
theorem zQk(lim r o1 o2 o3 v:Int)(ws:List zCP):zMm (zq 0 lim r o1 o2 o3 v ws)=true:=by kernel_rfl
theorem zQn(lim r o1 o2 o3 v:Int)(ws:List zCP):zLW (zq 3 lim r o1 o2 o3 v ws)=true:=by kernel_rfl
theorem zQj(lim r o1 o2 o3 v:Int)(ws:List zCP):zMm (zq 3 lim r o1 o2 o3 v ws)=true:=by kernel_rfl
theorem zQm(lim r o1 o2 o3 v:Int)(ws:List zCP):zLW (zq 4 lim r o1 o2 o3 v ws)=true:=by kernel_rfl
theorem zQi(lim r o1 o2 o3 v:Int)(ws:List zCP):zMm (zq 4 lim r o1 o2 o3 v ws)=true:=by kernel_rfl
theorem zQl(lim r o1 o2 o3 v:Int)(ws:List zCP):zLW (zq 5 lim r o1 o2 o3 v ws)=true:=by kernel_rfl
theorem zQh(lim r o1 o2 o3 v:Int)(ws:List zCP):zMm (zq 5 lim r o1 o2 o3 v ws)=true:=by kernel_rfl
theorem zPF(lim o1 o2 o3 v:Int)(ws:List zCP):zLW (zq 1 lim 0 o1 o2 o3 v ws)=true:=by kernel_rfl
theorem zPz(lim o1 o2 o3 v:Int)(ws:List zCP):zMm (zq 1 lim 0 o1 o2 o3 v ws)=true:=by kernel_rfl
theorem zPE(lim o1 o2 o3 v:Int)(ws:List zCP):zLW (zq 1 lim 1 o1 o2 o3 v ws)=true:=by kernel_rfl
theorem zPy(lim o1 o2 o3 v:Int)(ws:List zCP):zMm (zq 1 lim 1 o1 o2 o3 v ws)=true:=by kernel_rfl
theorem zPD(lim o1 o2 o3 v:Int)(ws:List zCP):zLW (zq 2 lim 0 o1 o2 o3 v ws)=true:=by kernel_rfl
theorem zPx(lim o1 o2 o3 v:Int)(ws:List zCP):zMm (zq 2 lim 0 o1 o2 o3 v ws)=true:=by kernel_rfl
theorem zPC(lim o1 o2 o3 v:Int)(ws:List zCP):zLW (zq 2 lim 1 o1 o2 o3 v ws)=true:=by kernel_rfl
theorem zPw(lim o1 o2 o3 v:Int)(ws:List zCP):zMm (zq 2 lim 1 o1 o2 o3 v ws)=true:=by kernel_rfl
theorem zPB(lim o1 o2 o3 v:Int)(ws:List zCP):zLW (zq 6 lim 0 o1 o2 o3 v ws)=true:=by kernel_rfl
theorem zPv(lim o1 o2 o3 v:Int)(ws:List zCP):zMm (zq 6 lim 0 o1 o2 o3 v ws)=true:=by kernel_rfl
theorem zPA(lim o1 o2 o3 v:Int)(ws:List zCP):zLW (zq 6 lim 1 o1 o2 o3 v ws)=true:=by kernel_rfl
theorem zPu(lim o1 o2 o3 v:Int)(ws:List zCP):zMm (zq 6 lim 1 o1 o2 o3 v ws)=true:=by kernel_rfl
theorem zQg(k:Nat)(hk:k<7)(lim r o1 o2 o3 v:Int)(ws:List zCP)(hr:r=0\/r=1):zLW (zq k lim r o1 o2 o3 v ws)=true/\zMm (zq k lim r o1 o2 o3 v ws)=true:=by
 match k,hk with
 |0,_=>exact⟨zQo ..,zQk ..⟩
 |1,_=>rcases hr with rfl |rfl;exact⟨zPF ..,zPz ..⟩;exact⟨zPE ..,zPy ..⟩
 |2,_=>rcases hr with rfl |rfl;exact⟨zPD ..,zPx ..⟩;exact⟨zPC ..,zPw ..⟩
 |3,_=>exact⟨zQn ..,zQj ..⟩
 |4,_=>exact⟨zQm ..,zQi ..⟩
 |5,_=>exact⟨zQl ..,zQh ..⟩
 |6,_=>rcases hr with rfl |rfl;exact⟨zPB ..,zPv ..⟩;exact⟨zPA ..,zPu ..⟩
theorem zQC{m:zD}(h:zcp m)(hf:zLW m=true):R L Cs zNA [.a (zf m)] []=some (.w (Bo true),[]):=by
 unfold zLW at hf;simp only[jh]at hf;obtain⟨⟨⟨a1,a2⟩,a3⟩,a4⟩:=hf;have h1:=zah.2 ⟨400,zLU a1⟩;have h2:=zah.2 ⟨400,zLU a2⟩;have h3:=zah.2 ⟨400,zLU a3⟩;have h4:=zah.2 ⟨400,zLU a4⟩;have h0:=h.chk;have w0:IntKind.i64.wrap 0=0:=rfl;simp only[zf]at h0 h1 h2 h3 h4;rw[zUa zNI rfl];simp[zIV,zf,h0,h1,h2,h3,h4,w0,zg]
structure zKj(m:zD)(zs:List Zon)(ss:List Sgn):Prop where
 full:zmq m zs ss
 pos:0<m.je.length
 qg:m.qg.length<=1000
 two:zs.length<=2
 fit:zLW m=true/\zMm m=true
 srt:∀l,zdA m l=0->zN1 (zKh m zs 0 l)
 few:∀l,zdA m l=0->(zKh m zs 0 l).length<=19
theorem zOu{m:zD}{zs:List Zon}{ss:List Sgn}(hf:zmq m zs ss)(hz:zs.length<=2)(hn:∀q∈zs,q.parts.length<=4){l:List Int}(hr:zdA m l=0):(zKh m zs 0 l).length<=16:=by
 have hl:=zlP hf.yV hr;have key:∀(t:List Zon) (a x:Int) (z:Nat),(∀q∈t,q.parts.length<=4)->(zLA a x z t).length<=4*t.length:=by
  intro t;induction t with
  |nil=>intro a x z _;simp[zLA]
  |cons q t ih =>
   intro a x z h;have h1:=ih a x (z+1) fun y hy=>h y (jy _ hy)
   have h2:=zLR a z x q.parts 0;have h3:=h q (ju ..);unfold zLA;simp;omega
 have k2:∀(t:List Int) (a:Int),(zKh m zs a t).length<=8*t.length:=by
  intro t;induction t with
  |nil=>intro a;simp[zKh]
  |cons x t ih =>
   intro a;have h1:=ih (a+z8 m x);have h2:=key zs a x 0 hn;unfold zKh;simp;omega
 have:=k2 l 0;omega
def zOT:List Pss->Bool
 |a::b::r=>!decide (zI2 b a)&&zOT (b::r)
 |_=>true
theorem zMq:∀{l:List Pss},zOT l=true->zN1 l
 |[],_=>fun i h=>by simp at h
 |[_],_=>fun i h=>by simp at h
 |a::b::r,h=>by
  simp only[zOT,jh,kR,decide_eq_false_iff_not]at h;intro i hi;cases i with
  |zero=>exact h.1
  |succ i=>exact zMq h.2 i (by simpa using hi)
def zTx(m:zD)(C:List Int->Bool):Bool:=(List.range 4).all fun x=>C [(x:Int)]&&(zS m x).all fun y=>C [(x:Int),y]
theorem zQa(k:Nat)(hk:k<7)(lim r o1 o2 o3 v:Int)(ws:List zCP):zTx (zq k lim r o1 o2 o3 v ws) (fun l=>zOT (zKh (zq k lim r o1 o2 o3 v ws) (zsP k r) 0 l))=true:=match k,hk with
 |0,_=>by kernel_rfl
 |1,_=>by kernel_rfl
 |2,_=>by kernel_rfl
 |3,_=>by kernel_rfl
 |4,_=>by kernel_rfl
 |5,_=>by kernel_rfl
 |6,_=>by kernel_rfl
theorem zTp{m:zD}(hs:zmX m){C:List Int->Bool}(qY:zTx m C=true){l:List Int}(hr:zdA m l=0):C l=true:=by
 have hl:=zlP hs hr;have few:=hs.few;have qY:=jA.1 qY
 match l,hl,hr with
 |[],_,hr=>cases hr
 |[x],_,hr =>
  simp only[zdA]at hr;split at hr
  ·cases hr
  split at hr
  ·cases hr
  split at hr
  ·cases hr
  rename_i h2 h3;obtain⟨n,rfl⟩:=jx (show 0<=x by omega);have:=qY n (kP.2 (by omega));rw[jh]at this;exact this.1
 |[x,y],_,hr =>
  simp only[zdA]at hr;split at hr
  ·cases hr
  split at hr
  ·cases hr
  split at hr
  ·cases hr
  rename_i h2 h3;split at hr
  ·cases hr
  split at hr
  ·rename_i hg;obtain⟨n,rfl⟩:=jx (show 0<=x by omega);have:=qY n (kP.2 (by omega));rw[jh]at this;simp only[goF,jh,decide_eq_true_eq]at hg;exact jA.1 this.2 y hg.1
  ·cases hr
theorem zOQ(k:Nat)(hk:k<7)(r:Int):(zsP k r).length<=2/\∀q∈zsP k r,q.parts.length<=4:=by
 match k,hk with
 |0,_ |1,_ |2,_ |3,_ |4,_ |5,_ |6,_=>simp[zsP]
theorem zTs(k:Nat)(hk:k<7){lim r o1 o2 o3 v:Int}{ws:List zCP}(nu:zp2 k lim r o1 o2 o3 v ws):zKj (zq k lim r o1 o2 o3 v ws) (zsP k r) (ssP k r o1 o2 o3):=by
 have hf:=zCE k hk nu;obtain⟨z1,z2⟩:=zOQ k hk r;refine⟨hf,zE9 k hk _ _ _ _ _ _ _,?_,z1,zQg k hk lim r o1 o2 o3 v ws nu.r,fun l hr=>zMq (zTp hf.yV (zQa k hk lim r o1 o2 o3 v ws) hr),fun l hr=>?_⟩
 ·have:=nu.wl;show ws.length<=1000;omega
 ·have:=zOu hf z1 z2 hr;omega
set_option maxRecDepth 10000
open Go Go.Eng
structure Vis where
 kp:Int
 entry:Int
 first:Pss
 last:Pss
abbrev zKw:Pss:=⟨0,0,0,0⟩
def zJ1(v:Vis):List Cl:=[I v.kp,I v.entry,I v.first.kp,I v.first.part,I v.first.lo,I v.first.hi,I v.last.kp,I v.last.part,I v.last.lo,I v.last.hi]
def zKt(l:List Vis):List (List Cl):=l.map zJ1
@[simp] theorem zJZ(l:List Vis):(zKt l).length=l.length:=by simp[zKt]
@[simp] theorem zP7:zKt []=[]:=rfl
@[simp] theorem zPS(x:Vis)(l:List Vis):zKt (x::l)=zJ1 x::zKt l:=rfl
@[simp] theorem zP8(l k:List Vis):zKt (l++k)=zKt l++zKt k:=by simp[zKt]
@[simp] theorem zPR(l:List Vis):(zKt l).take l.length=zKt l:=jE (by simp)
@[simp] theorem zPo{l:List Vis}{i:Nat}(h:i<(zKt l).length):(zKt l)[i]=zJ1 (l[i]'(by simpa using h)):=by simp[zKt]
@[simp] theorem zNp(v:Vis):(zJ1 v).length=10:=rfl
def zJ5(z:Int)(v:Vis)(p:Pss):Vis:=if p.kp=z then(if v.entry<0 then⟨v.kp,p.part,p,p⟩ else⟨v.kp,v.entry,v.first,p⟩) else v
def zKn(ps:List Pss)(z:Int):Vis:=ps.foldl (zJ5 z) ⟨z,-1,zKw,zKw⟩
def zKE(ps:List Pss):Nat->Nat->List Vis
 |_,0=>[]
 |z,n+1=>if 0<=(zKn ps z).entry then zKn ps z::zKE ps (z+1) n else zKE ps (z+1) n
abbrev jC(m:zD)(r:List Int)(len:Int)(ps:List Pss)(VS:Cl)(was now:List Cl)(SW:Cl):List Cl:=zh m r len++[.jc (zKd ps),VS]++was++now++[SW]
abbrev njE(ps:List Pss)(nz z:Nat)(id:Nat)(i:Nat):Env:=[(34,.w (W i)),(33,.w (W ps.length)),(7,.w (Pt 1)),(23,.w (W nz)),(24,.w (W z)),(32,.w (.c (.jc (zKd ps)))),(8,.w (W z)),(9,.w (Pt id))]
abbrev njM(m:zD)(r:List Int)(len:Int)(ps:List Pss)(u:Nat)(VS:Cl):Mem:=[bx 5 (zf m),bxv u 26 (jC m r len ps VS zox zox .jd)]
theorem nj1(m:zD)(r:List Int)(len:Int)(ps:List Pss)(hp:ps.length<=1000)(nz z:Nat):∀(t:List Pss) (i:Nat) (v:Vis) (w:Nat),ps.drop i=t->i<=ps.length->∃w',w<=w' /\
  Y L Cs zH8 (some [34,33,7,23,24,32,8,9]) 3 (njE ps nz z 2 i) (njM m r len ps 0 .jd++[bxv w 10 (zJ1 v)]) =
    some (.exit 2,(35,.w (Bo false))::njE ps nz z 2 ps.length,njM m r len ps 0 .jd++[bxv w' 10 (zJ1 (t.foldl (zJ5 z) v))]):=by
 intro t;induction t with
 |nil =>
  intro i v w hd hi;obtain rfl:=zUb hd hi;refine⟨w,jq _,?_⟩;rw[ZfM zH8.eq_1];simp
 |cons p t ih =>
  intro i v w hd hi;obtain⟨hil,hx,hd'⟩:=zL hd;have hw:=zB (i:=i) (by omega);rw[jT];by_cases c:p.kp=z
  ·have cb:(p.kp !=(z:Int))=false:=by simp[c]
   by_cases d:v.entry<0
   ·have e:zJ5 z v p=⟨v.kp,p.part,p,p⟩:=by simp[zJ5,c,d]
    obtain⟨w',h1,h⟩:=ih (i+1) ⟨v.kp,p.part,p,p⟩ (w+3) hd' hil;refine⟨w',by omega,?_⟩;rw[e,<-h,ZfM zH8.eq_1];clear h ih;simp[njE,njM,jC,zox,zh,zi,zf,zJ1,zKF,hil,hx,hw,c,cb,d,zg,zH]
   ·have e:zJ5 z v p=⟨v.kp,v.entry,v.first,p⟩:=by simp[zJ5,c,d]
    obtain⟨w',h1,h⟩:=ih (i+1) ⟨v.kp,v.entry,v.first,p⟩ (w+1) hd' hil;refine⟨w',by omega,?_⟩;rw[e,<-h,ZfM zH8.eq_1];clear h ih;simp[njE,njM,jC,zox,zh,zi,zf,zJ1,zKF,hil,hx,hw,c,cb,d,zg,zH]
  ·have cb:(p.kp !=(z:Int))=true:=by simp[c]
   have e:zJ5 z v p=v:=by simp[zJ5,c]
   obtain⟨w',h1,h⟩:=ih (i+1) v w hd' hil;refine⟨w',by omega,?_⟩;rw[e,<-h,ZfM zH8.eq_1];clear h ih;simp[njE,njM,jC,zox,zh,zi,zf,zJ1,zKF,hil,hx,hw,c,cb,zg,zH]
abbrev zLG(v:Vis):Option Blk:=some { box:=false,esz:=10,rows:=[zJ1 v],gen:=1,fz:=false,ver:=1 }
abbrev zKV(m:zD)(r:List Int)(len:Int)(ps:List Pss)(v0:Vis)(w0:Nat):Mem:=[bx 5 (zf m),bxv 1 26 (jC m r len ps (.slice 4 1 10 0 1 none) zox zox .jd),bxv w0 10 (zJ1 v0),zLG v0,some (own 10 [zJ1 v0])]
abbrev zMw(m:zD)(r:List Int)(len:Int)(ps:List Pss)(v0 v1:Vis)(w0 w1:Nat):Mem:=[bx 5 (zf m),bxv 2 26 (jC m r len ps (.slice 4 2 10 0 2 none) zox zox .jd),bxv w0 10 (zJ1 v0),zLG v0,some (own 10 [zJ1 v0,zJ1 v1]),bxv w1 10 (zJ1 v1),zLG v1]
theorem nj1b(m:zD)(r:List Int)(len:Int)(v0:Vis)(w0:Nat)(ps:List Pss)(hp:ps.length<=1000)(nz z:Nat):∀(t:List Pss) (i:Nat) (v:Vis) (w:Nat),ps.drop i=t->i<=ps.length->∃w',w<=w' /\
  Y L Cs zH8 (some [34,33,7,23,24,32,8,9]) 6 (njE ps nz z 5 i) (zKV m r len ps v0 w0++[bxv w 10 (zJ1 v)]) =
    some (.exit 2,(35,.w (Bo false))::njE ps nz z 5 ps.length,zKV m r len ps v0 w0++[bxv w' 10 (zJ1 (t.foldl (zJ5 z) v))]):=by
 intro t;induction t with
 |nil =>
  intro i v w hd hi;obtain rfl:=zUb hd hi;refine⟨w,jq _,?_⟩;rw[ZfM zH8.eq_1];simp
 |cons p t ih =>
  intro i v w hd hi;obtain⟨hil,hx,hd'⟩:=zL hd;have hw:=zB (i:=i) (by omega);rw[jT];by_cases c:p.kp=z
  ·have cb:(p.kp !=(z:Int))=false:=by simp[c]
   by_cases d:v.entry<0
   ·have e:zJ5 z v p=⟨v.kp,p.part,p,p⟩:=by simp[zJ5,c,d]
    obtain⟨w',h1,h⟩:=ih (i+1) ⟨v.kp,p.part,p,p⟩ (w+3) hd' hil;refine⟨w',by omega,?_⟩;rw[e,<-h,ZfM zH8.eq_1];clear h ih;simp[njE,zKV,own,jC,zox,zh,zi,zf,zJ1,zKF,hil,hx,hw,c,cb,d,zg,zH]
   ·have e:zJ5 z v p=⟨v.kp,v.entry,v.first,p⟩:=by simp[zJ5,c,d]
    obtain⟨w',h1,h⟩:=ih (i+1) ⟨v.kp,v.entry,v.first,p⟩ (w+1) hd' hil;refine⟨w',by omega,?_⟩;rw[e,<-h,ZfM zH8.eq_1];clear h ih;simp[njE,zKV,own,jC,zox,zh,zi,zf,zJ1,zKF,hil,hx,hw,c,cb,d,zg,zH]
  ·have cb:(p.kp !=(z:Int))=true:=by simp[c]
   have e:zJ5 z v p=v:=by simp[zJ5,c]
   obtain⟨w',h1,h⟩:=ih (i+1) v w hd' hil;refine⟨w',by omega,?_⟩;rw[e,<-h,ZfM zH8.eq_1];clear h ih;simp[njE,zKV,own,jC,zox,zh,zi,zf,zJ1,zKF,hil,hx,hw,c,cb,zg,zH]
abbrev zLk(nz z:Nat):Env:=[(23,.w (W nz)),(7,.w (Pt 1)),(24,.w (W z))]
theorem nj2a(m:zD)(r:List Int)(len:Int)(ps:List Pss)(hp:ps.length<=1000)(nz z:Nat)(hz:z<nz)(hn:nz<=10):∃w,
  Y L Cs zH7 (some [23,7,24]) 2 (zLk nz z) (njM m r len ps 0 .jd) =
    if 0<=(zKn ps z).entry then Y L Cs zH7 (some [23,7,24]) 2 (zLk nz (z+1)) (zKV m r len ps (zKn ps z) w) else Y L Cs zH7 (some [23,7,24]) 2 (zLk nz (z+1)) (njM m r len ps 0 .jd):=by
 have hw:=zB (i:=z) (by omega);have hzi:(z:Int)<nz:=by omega
 obtain⟨w',_,h⟩:=nj1 m r len ps hp nz z ps 0 ⟨z,-1,zKw,zKw⟩ 1 rfl (jD _);refine⟨w',?_⟩;rw[show ps.foldl (zJ5 z) ⟨z,-1,zKw,zKw⟩=zKn ps z from rfl]at h;generalize zKn ps z=v at *;simp only[njE,njM,jC,zox,zh,zi,zf,zJ1,jp,jk,jg]at h;by_cases c:0<=v.entry
 ·rw[if_pos c,ZfM zH7.eq_1];simp (maxSteps:=1000000) [zLk,njM,zKV,zLG,own,jC,zox,zh,zi,zf,zJ1,hzi,hz,hw,h,c,zg,zH]
 ·rw[if_neg c,ZfM zH7.eq_1];simp (maxSteps:=1000000) [zLk,njM,zKV,zLG,own,jC,zox,zh,zi,zf,zJ1,hzi,hz,hw,h,c,zg,zH]
theorem nj2b(m:zD)(r:List Int)(len:Int)(ps:List Pss)(v0:Vis)(w0:Nat)(hp:ps.length<=1000)(nz z:Nat)(hz:z<nz)(hn:nz<=10):∃w,
  Y L Cs zH7 (some [23,7,24]) 2 (zLk nz z) (zKV m r len ps v0 w0) =
    if 0<=(zKn ps z).entry then Y L Cs zH7 (some [23,7,24]) 2 (zLk nz (z+1)) (zMw m r len ps v0 (zKn ps z) w0 w) else Y L Cs zH7 (some [23,7,24]) 2 (zLk nz (z+1)) (zKV m r len ps v0 w0++[bxv w 10 (zJ1 (zKn ps z))]):=by
 have hw:=zB (i:=z) (by omega);have hzi:(z:Int)<nz:=by omega
 obtain⟨w',_,h⟩:=nj1b m r len v0 w0 ps hp nz z ps 0 ⟨z,-1,zKw,zKw⟩ 1 rfl (jD _);refine⟨w',?_⟩;rw[show ps.foldl (zJ5 z) ⟨z,-1,zKw,zKw⟩=zKn ps z from rfl]at h;generalize zKn ps z=v at *;simp only[njE,zKV,zLG,own,jC,zox,zh,zi,zf,zJ1,jp,jk,jg,jm,js]at h;by_cases c:0<=v.entry
 ·rw[if_pos c,ZfM zH7.eq_1];simp (maxSteps:=1000000) [zLk,zMw,zKV,zLG,own,jC,zox,zh,zi,zf,zJ1,hzi,hz,hw,h,c,zg,zH]
 ·rw[if_neg c,ZfM zH7.eq_1];simp (maxSteps:=1000000) [zLk,zMw,zKV,zLG,own,jC,zox,zh,zi,zf,zJ1,hzi,hz,hw,h,c,zg,zH]
abbrev zJ3(m:zD)(r:List Int)(len:Int)(ps:List Pss)(vs:List Vis)(u:Nat)(was now:List Cl)(SW:Cl):Mem :=
 if vs=[] then [bxv u 26 (jC m r len ps .jd was now SW)] else [bxv u 26 (jC m r len ps (.slice 1 vs.length 10 0 vs.length none) was now SW),some (own 10 (zKt vs))]
theorem zLF(nz:Nat)(M:Mem):Y L Cs zH7 (some [23,7,24]) 2 (zLk nz nz) M=some (.exit 0,[(25,.w (Bo false)),(7,.w (Pt 1)),(23,.w (W nz)),(24,.w (W nz))],M):=by
 rw[ZfM zH7.eq_1];simp
theorem zMM{m:zD}{zs:List Zon}{ss:List Sgn}(hF:zKj m zs ss){r:List Int}(hr:zdA m r=0)(len:Int) :
  ∃u,R L Cs zMn [.a (zf m),.c (.jc (zu r)),W len] []=some (.w (.c (.ptr 0 0 0 0)),zJ3 m r len (zKh m zs 0 r) (zKE (zKh m zs 0 r) 0 zs.length) u zox zox .jd):=by
 have hf:=hF.full;have hz:=hF.two;have hA:=zB9 hf.qe hr len;have hP:=zPm hf hr (hF.srt r hr) (hF.few r hr);have hp:=hF.few r hr;have hzz:=hf.zd.z;generalize zKh m zs 0 r=ps at *;rw[zUa zMp rfl];have n2:((2:Nat):Int)=2:=rfl
 match zs,hz,hzz with
 |[],_,hzz =>
  refine⟨0,?_⟩;have AA:m.kr=[]:=hzz;have h:=zLF 0 (njM m r len ps 0 .jd);rw[show zKE ps 0 ([]:List Zon).length=[] from rfl];simp only[zLk,njM,zKV,zMw,zLG,own,jC,zox,zh,zi,zf,zJ1,AA,jp,jk,jm,js,jg,j9,n2]at h hA hP;simp (maxSteps:=1000000) [zID,zJ3,jC,zox,zf,zh,zi,hA,hP,AA,h,zJ1,own,zg,zX]
 |[z0],_,hzz =>
  have AA:m.kr=[zdP z0]:=hzz;obtain⟨w,h1⟩:=nj2a m r len ps (by omega) 1 0 (by omega) (by omega);rw[show [z0].length=1 from rfl];by_cases c:0<=(zKn ps 0).entry
  ·refine⟨1,?_⟩;have e:=zLF 1 (zKV m r len ps (zKn ps 0) w);simp only[jg,c,if_true]at h1;rw[e]at h1;have hv:zKE ps 0 1=[zKn ps 0]:=by simp[zKE,c]
   rw[hv];clear hv e;generalize zKn ps 0=v at *;simp only[zLk,njM,zKV,zMw,zLG,own,jC,zox,zh,zi,zf,zJ1,AA,jp,jk,jm,js,jg,j9,n2]at h1 hA hP;simp (maxSteps:=1000000) [zID,zJ3,jC,zox,zf,zh,zi,hA,hP,AA,h1,zJ1,own,zg,zX]
  ·refine⟨0,?_⟩;have e:=zLF 1 (njM m r len ps 0 .jd);simp only[jg,c,if_false]at h1;rw[e]at h1;have hv:zKE ps 0 1=[]:=by simp[zKE,c]
   rw[hv];clear hv e;simp only[zLk,njM,zKV,zMw,zLG,own,jC,zox,zh,zi,zf,zJ1,AA,jp,jk,jm,js,jg,j9,n2]at h1 hA hP;simp (maxSteps:=1000000) [zID,zJ3,jC,zox,zf,zh,zi,hA,hP,AA,h1,zJ1,own,zg,zX]
 |[z0,z1],_,hzz =>
  have AA:m.kr=[zdP z0,zdP z1]:=hzz;obtain⟨w,h1⟩:=nj2a m r len ps (by omega) 2 0 (by omega) (by omega);rw[show [z0,z1].length=2 from rfl];by_cases c:0<=(zKn ps 0).entry
  ·simp only[jg,c,if_true]at h1;obtain⟨w2,h2⟩:=nj2b m r len ps (zKn ps 0) w (by omega) 2 1 (by omega) (by omega);by_cases d:0<=(zKn ps 1).entry
   ·refine⟨2,?_⟩;have e:=zLF 2 (zMw m r len ps (zKn ps 0) (zKn ps 1) w w2);simp only[j9,d,if_true]at h2;rw[h2,e]at h1;have hv:zKE ps 0 2=[zKn ps 0,zKn ps 1]:=by simp[zKE,c,d]
    rw[hv];clear hv e h2;generalize zKn ps 0=v at *;generalize zKn ps 1=v1 at *;simp only[zLk,njM,zKV,zMw,zLG,own,jC,zox,zh,zi,zf,zJ1,AA,jp,jk,jm,js,jg,j9,n2]at h1 hA hP;simp (maxSteps:=1000000) [zID,zJ3,jC,zox,zf,zh,zi,hA,hP,AA,h1,zJ1,own,zg,zX]
   ·refine⟨1,?_⟩;have e:=zLF 2 (zKV m r len ps (zKn ps 0) w++[bxv w2 10 (zJ1 (zKn ps 1))]);simp only[j9,d,if_false]at h2;rw[h2,e]at h1;have hv:zKE ps 0 2=[zKn ps 0]:=by simp[zKE,c,d]
    rw[hv];clear hv e h2;generalize zKn ps 0=v at *;generalize zKn ps 1=v1 at *;simp only[zLk,njM,zKV,zMw,zLG,own,jC,zox,zh,zi,zf,zJ1,AA,jp,jk,jm,js,jg,j9,n2]at h1 hA hP;simp (maxSteps:=1000000) [zID,zJ3,jC,zox,zf,zh,zi,hA,hP,AA,h1,zJ1,own,zg,zX]
  ·simp only[jg,c,if_false]at h1;obtain⟨w2,h2⟩:=nj2a m r len ps (by omega) 2 1 (by omega) (by omega);by_cases d:0<=(zKn ps 1).entry
   ·refine⟨1,?_⟩;have e:=zLF 2 (zKV m r len ps (zKn ps 1) w2);simp only[j9,d,if_true]at h2;rw[h2,e]at h1;have hv:zKE ps 0 2=[zKn ps 1]:=by simp[zKE,c,d]
    rw[hv];clear hv e h2;generalize zKn ps 1=v1 at *;simp only[zLk,njM,zKV,zMw,zLG,own,jC,zox,zh,zi,zf,zJ1,AA,jp,jk,jm,js,jg,j9,n2]at h1 hA hP;simp (maxSteps:=1000000) [zID,zJ3,jC,zox,zf,zh,zi,hA,hP,AA,h1,zJ1,own,zg,zX]
   ·refine⟨0,?_⟩;have e:=zLF 2 (njM m r len ps 0 .jd);simp only[j9,d,if_false]at h2;rw[h2,e]at h1;have hv:zKE ps 0 2=[]:=by simp[zKE,c,d]
    rw[hv];clear hv e h2;simp only[zLk,njM,zKV,zMw,zLG,own,jC,zox,zh,zi,zf,zJ1,AA,jp,jk,jm,js,jg,j9,n2]at h1 hA hP;simp (maxSteps:=1000000) [zID,zJ3,jC,zox,zf,zh,zi,hA,hP,AA,h1,zJ1,own,zg,zX]
@[simp] theorem zOb(p:Swp):(swC p).length=4:=rfl
theorem zO6(l:List Pss)(hl:l.length<=100000000000)(fnv:Cl)(f:Pss->Bool)(M:Mem)(hc:∀p∈l,zx (R L Cs) ⟨true⟩ (.c fnv) [.a (zKF p)] M=some (.w (Bo (f p)),M,.no)) :
  ∃k:Int,R L Cs zLd [.c (.jc (zKd l)),.c fnv] M=some (.w (W k),M)/\(decide (0<=k)=l.any f):=by
 have htk:∀p:Pss,List.take (zKF p).length (zKF p)=zKF p:=fun p=>Ac
 have h:=zxf (L:=L) (Cs:=Cs) (b:=zHw) (live:=some [7,1,0,8]) (n0:=M.length) l (fun i=>[(7,.w (W l.length)),(1,.w (.c fnv)),(0,.w (.c (.jc (zKd l)))),(8,.w (W i))]) M f (fun i=>(.ret,[(4,.w (W i))],M)) (.exit 0,[(9,.w (Bo false)),(0,.w (.c (.jc (zKd l)))),(1,.w (.c fnv)),(7,.w (W l.length)),(8,.w (W l.length))],M) ?_ ?_ ?_
 ·cases hq:l.findIdx? f with
  |none =>
   rw[hq]at h;refine⟨-1,?_,?_⟩
   ·simp only[jg]at h;rw[zUa zKB rfl];simp[zHI,h]
   ·rw[kE]at hq;have:l.any f=false:=by simpa using hq
    rw[this];decide
  |some k =>
   rw[hq]at h;refine⟨k,?_,?_⟩
   ·simp only[jg]at h;rw[zUa zKB rfl];simp[zHI,h]
   ·obtain⟨h1,h2,_⟩:=jM.1 hq;have:l.any f=true:=jQ.2 ⟨_,ja h1,h2⟩;rw[this];simp
 ·intro i hi hp;have hw:=zB (i:=i) (by omega);have hcc:=hc l[i] (ja hi);have ht:=htk l[i];simp only[zNu]at ht;rw[hp]at hcc;rw[ZfM zHw.eq_1];simp[hi,hw,hcc,ht,-zx]
 ·intro i hi hp;have hcc:=hc l[i] (ja hi);have ht:=htk l[i];simp only[zNu]at ht;rw[hp]at hcc;rw[ZfM zHw.eq_1];simp[hi,hcc,ht,-zx]
 ·rw[ZfM zHw.eq_1];simp
theorem zOz(l:List Swp)(hl:l.length<=100000000000)(fnv:Cl)(f:Swp->Bool)(M:Mem)(hc:∀p∈l,zx (R L Cs) ⟨true⟩ (.c fnv) [.a (swC p)] M=some (.w (Bo (f p)),M,.no)) :
  ∃k:Int,R L Cs zLa [.c (.jc (zbf l)),.c fnv] M=some (.w (W k),M)/\(decide (0<=k)=l.any f):=by
 have htk:∀p:Swp,List.take (swC p).length (swC p)=swC p:=fun p=>Ac
 have h:=zxf (L:=L) (Cs:=Cs) (b:=zHr) (live:=some [7,1,0,8]) (n0:=M.length) l (fun i=>[(7,.w (W l.length)),(1,.w (.c fnv)),(0,.w (.c (.jc (zbf l)))),(8,.w (W i))]) M f (fun i=>(.ret,[(4,.w (W i))],M)) (.exit 0,[(9,.w (Bo false)),(0,.w (.c (.jc (zbf l)))),(1,.w (.c fnv)),(7,.w (W l.length)),(8,.w (W l.length))],M) ?_ ?_ ?_
 ·cases hq:l.findIdx? f with
  |none =>
   rw[hq]at h;refine⟨-1,?_,?_⟩
   ·simp only[jg]at h;rw[zUa zKy rfl];simp[zHG,h]
   ·rw[kE]at hq;have:l.any f=false:=by simpa using hq
    rw[this];decide
  |some k =>
   rw[hq]at h;refine⟨k,?_,?_⟩
   ·simp only[jg]at h;rw[zUa zKy rfl];simp[zHG,h]
   ·obtain⟨h1,h2,_⟩:=jM.1 hq;have:l.any f=true:=jQ.2 ⟨_,ja h1,h2⟩;rw[this];simp
 ·intro i hi hp;have hw:=zB (i:=i) (by omega);have hcc:=hc l[i] (ja hi);have ht:=htk l[i];simp only[zOb]at ht;rw[hp]at hcc;rw[ZfM zHr.eq_1];simp[hi,hw,hcc,ht,-zx]
 ·intro i hi hp;have hcc:=hc l[i] (ja hi);have ht:=htk l[i];simp only[zOb]at ht;rw[hp]at hcc;rw[ZfM zHr.eq_1];simp[hi,hcc,ht,-zx]
 ·rw[ZfM zHr.eq_1];simp
theorem zOy(l:List Vis)(hl:l.length<=100000000000)(fnv:Cl)(f:Vis->Bool)(M:Mem)(hc:∀p∈l,zx (R L Cs) ⟨true⟩ (.c fnv) [.a (zJ1 p)] M=some (.w (Bo (f p)),M,.no)) :
  ∃k:Int,R L Cs zKm [.c (.jc (zKt l)),.c fnv] M=some (.w (W k),M)/\(decide (0<=k)=l.any f):=by
 have htk:∀p:Vis,List.take (zJ1 p).length (zJ1 p)=zJ1 p:=fun p=>Ac
 have h:=zxf (L:=L) (Cs:=Cs) (b:=zHq) (live:=some [7,1,0,8]) (n0:=M.length) l (fun i=>[(7,.w (W l.length)),(1,.w (.c fnv)),(0,.w (.c (.jc (zKt l)))),(8,.w (W i))]) M f (fun i=>(.ret,[(4,.w (W i))],M)) (.exit 0,[(9,.w (Bo false)),(0,.w (.c (.jc (zKt l)))),(1,.w (.c fnv)),(7,.w (W l.length)),(8,.w (W l.length))],M) ?_ ?_ ?_
 ·cases hq:l.findIdx? f with
  |none =>
   rw[hq]at h;refine⟨-1,?_,?_⟩
   ·simp only[jg]at h;rw[zUa zKb rfl];simp[zHF,h]
   ·rw[kE]at hq;have:l.any f=false:=by simpa using hq
    rw[this];decide
  |some k =>
   rw[hq]at h;refine⟨k,?_,?_⟩
   ·simp only[jg]at h;rw[zUa zKb rfl];simp[zHF,h]
   ·obtain⟨h1,h2,_⟩:=jM.1 hq;have:l.any f=true:=jQ.2 ⟨_,ja h1,h2⟩;rw[this];simp
 ·intro i hi hp;have hw:=zB (i:=i) (by omega);have hcc:=hc l[i] (ja hi);have ht:=htk l[i];simp only[zNp]at ht;rw[hp]at hcc;rw[ZfM zHq.eq_1];simp[hi,hw,hcc,ht,-zx]
 ·intro i hi hp;have hcc:=hc l[i] (ja hi);have ht:=htk l[i];simp only[zNp]at ht;rw[hp]at hcc;rw[ZfM zHq.eq_1];simp[hi,hcc,ht,-zx]
 ·rw[ZfM zHq.eq_1];simp
abbrev juM(m:zD)(r:List Int)(len:Int)(ps:List Pss)(vs:List Vis)(u:Nat)(was now:zci)(sw:List Swp):Mem:=zJ3 m r len ps vs u (zG was) (zG now) (.jc (zbf sw))
abbrev J0:WV:=.c (.ptr 0 0 0 0)
def onW(m:zD)(r:List Int)(now:zci):Int:=if zmd m 0 r<now.ego.shi then 3 else 0
theorem zNc(m:zD)(r:List Int)(len:Int)(ps:List Pss)(vs:List Vis)(u:Nat)(was now:zci)(sw:List Swp) :
  R L Cs zJ6 [J0] (juM m r len ps vs u was now sw)=some (.w (W (onW m r now)),juM m r len ps vs u was now sw):=by
 rw[zUa zLu rfl];unfold onW;by_cases hv:vs=[]<;>by_cases c:zmd m 0 r<now.ego.shi<;>simp[zHV,juM,zJ3,hv,jC,zh,zi,zf,zG,c,zg,zH,own]
def zMt(m:zD)(r:List Int)(now:zci):Int:=if max (zNU m now.ego.slo now.ego.shi now.tick 0 (-1) r) 0<now.ego.vhi then 2 else 0
theorem zPf{m:zD}(h:zcp m)(hwk:m.qg.length<=1000)(r:List Int)(hl:r.length<=1000)(hon:zj2 m r)(len:Int)(ps:List Pss)(vs:List Vis)(u:Nat)(was now:zci)(hn:0<=now.ego.slo/\now.ego.slo<=10000000000/\0<=now.ego.shi/\now.ego.shi<=10000000000)(sw:List Swp) :
  R L Cs zKc [J0] (juM m r len ps vs u was now sw)=some (.w (W (zMt m r now)),juM m r len ps vs u was now sw):=by
 have hL:=zPh h hwk r hl hon len now.ego.slo now.ego.shi now.tick (by omega) (by omega);rw[zUa zL2 rfl];unfold zMt;generalize max (zNU m now.ego.slo now.ego.shi now.tick 0 (-1) r) 0=q at *;simp only[zh,zi,jp,jk]at hL;by_cases hv:vs=[]<;>by_cases c:q<now.ego.vhi<;>simp[zIk,juM,zJ3,hv,jC,zh,zi,zf,zG,hL,c,zg,zH,own]
structure zPI(m:zD)(s:Swp):Prop where
 lane:0<=s.lane/\s.lane<m.je.length
 lo:0<=s.lo/\s.lo<=1000000
 hi:0<=s.hi/\s.hi<=1000000
def apP(m:zD)(r:List Int)(shi:Int)(s:Swp):Bool:=match zgo r s.lane with
 |some i=>!s.cap&&decide (jU m r i+s.lo<=shi)
 |none=>false
def zMF(m:zD)(r:List Int)(now:zci)(sw:List Swp):Int:=if now.ego.vhi=0 then 0 else if sw.any (apP m r now.ego.shi) then 4 else 0
abbrev apE(sw:List Swp)(i:Nat):Env:=[(17,.w (W sw.length)),(16,.w (.c (.jc (zbf sw)))),(0,.w J0),(18,.w (W i))]
theorem zNY{m:zD}(h:zcp m)(r:List Int)(hl:r.length<=8)(hon:zj2 m r)(len:Int)(ps:List Pss)(vs:List Vis)(u:Nat)(was now:zci)(sw:List Swp)(hs:sw.length<=100000000000)(hok:∀s∈sw,zPI m s)(n0:Nat)(hn0:n0=(juM m r len ps vs u was now sw).length) :
  (sw.any (apP m r now.ego.shi)=true->∃s,Y L Cs zHR (some [17,16,0,18]) n0 (apE sw 0) (juM m r len ps vs u was now sw)=some (.ret,[(2,.w (W 4))],juM m r len ps vs u was now sw++[bxv 1 4 (swC s)])) /\
  (sw.any (apP m r now.ego.shi)=false->Y L Cs zHR (some [17,16,0,18]) n0 (apE sw 0) (juM m r len ps vs u was now sw)=some (.exit 0,[(19,.w (Bo false)),(0,.w J0),(16,.w (.c (.jc (zbf sw)))),(17,.w (W sw.length)),(18,.w (W sw.length))],juM m r len ps vs u was now sw)):=by
 subst hn0;have hly:ziO m r 0:=⟨h,hl,hon,by omega⟩;have key:=zxf (L:=L) (Cs:=Cs) (b:=zHR) (live:=some [17,16,0,18]) (n0:=(juM m r len ps vs u was now sw).length) sw (fun i=>apE sw i) (juM m r len ps vs u was now sw) (apP m r now.ego.shi) (fun i=>(.ret,[(2,.w (W 4))],juM m r len ps vs u was now sw++[bxv 1 4 (swC (sw.getD i zpa))])) (.exit 0,[(19,.w (Bo false)),(0,.w J0),(16,.w (.c (.jc (zbf sw)))),(17,.w (W sw.length)),(18,.w (W sw.length))],juM m r len ps vs u was now sw) ?_ ?_ ?_
 ·rw[key];cases hq:sw.findIdx? (apP m r now.ego.shi)with
  |none =>
   rw[kE]at hq;have:sw.any (apP m r now.ego.shi)=false:=by simpa using hq
   rw[this];exact⟨fun h=>(by cases h),fun _=>rfl⟩
  |some k =>
   obtain⟨h1,h2,_⟩:=jM.1 hq;have:sw.any (apP m r now.ego.shi)=true:=jQ.2 ⟨_,ja h1,h2⟩;rw[this];exact⟨fun _=>⟨_,rfl⟩,fun h=>(by cases h)⟩
 ·intro i hi hp;have hw:=zB (i:=i) (by omega);have hx:=zoq r sw[i].lane (by omega);have hso:=hok sw[i] (ja hi);generalize hsi:sw[i]=s at *;unfold apP at hp;rw[ZfM zHR.eq_1];cases hL:zgo r s.lane with
  |none =>
   rw[hL]at hx;simp only[zbe]at hx;by_cases hv:vs=[]<;>simp[apE,juM,zJ3,hv,jC,zh,zi,zf,zG,swC,hi,hsi,hw,hx,zg,zH,own]
  |some j =>
   obtain⟨hjl,_⟩:=zfT hL;have hsl:j<(zW m 0 r).length:=by rw[zcO];exact hjl
   have hst:(zW m 0 r)[j]=jU m r j:=by simp[jU,hsl]
   have hsb:=zmA hly hjl;have hlo:=hso.lo;have w2:=ku (jU m r j+s.lo);have hj0:(0:Int)<=(j:Int):=by omega
   rw[hL]at hx hp;simp only[zbe]at hx;cases hc:s.cap with
   |true=>by_cases hv:vs=[]<;>simp[apE,juM,zJ3,hv,jC,zh,zi,zf,zG,swC,hi,hsi,hw,hx,hc,hj0,zg,zH,own]
   |false =>
    simp only[hc,yJ,kq,decide_eq_false_iff_not]at hp;by_cases hv:vs=[]<;>simp[apE,juM,zJ3,hv,jC,zh,zi,zf,zG,swC,hi,hsi,hw,hx,hc,hj0,hsl,hst,w2,hp,zg,zH,own]
 ·intro i hi hp;have hx:=zoq r sw[i].lane (by omega);have hso:=hok sw[i] (ja hi);have hgd:sw.getD i zpa=sw[i]:=by simp[jo,hi]
  rw[hgd];clear hgd;generalize hsi:sw[i]=s at *;unfold apP at hp;rw[ZfM zHR.eq_1];cases hL:zgo r s.lane with
  |none=>rw[hL]at hp;cases hp
  |some j =>
   obtain⟨hjl,_⟩:=zfT hL;have hsl:j<(zW m 0 r).length:=by rw[zcO];exact hjl
   have hst:(zW m 0 r)[j]=jU m r j:=by simp[jU,hsl]
   have hsb:=zmA hly hjl;have hlo:=hso.lo;have w2:=ku (jU m r j+s.lo);have hj0:(0:Int)<=(j:Int):=by omega
   rw[hL]at hx hp;simp only[zbe]at hx;simp only[jh,kR,decide_eq_true_eq]at hp;by_cases hv:vs=[]<;>simp[apE,juM,zJ3,hv,jC,zh,zi,zf,zG,swC,hi,hsi,hx,hp.1,hj0,hsl,hst,w2,hp.2,zg,zH,own]
 ·rw[ZfM zHR.eq_1];by_cases hv:vs=[]<;>simp[apE,juM,zJ3,hv]
theorem zOh{m:zD}(h:zcp m)(r:List Int)(hl:r.length<=8)(hon:zj2 m r)(len:Int)(ps:List Pss)(vs:List Vis)(u:Nat)(was now:zci)(sw:List Swp)(hs:sw.length<=100000000000)(hok:∀s∈sw,zPI m s) :
  R L Cs zJ9 [J0] (juM m r len ps vs u was now sw)=some (.w (W (zMF m r now sw)),juM m r len ps vs u was now sw):=by
 obtain⟨g1,g2⟩:=zNY h r hl hon len ps vs u was now sw hs hok _ rfl;rw[zUa zLM rfl];unfold zMF;by_cases c:now.ego.vhi=0
 ·have cb:(now.ego.vhi==0)=true:=by simp[c]
  by_cases hv:vs=[]<;>simp[zIa,juM,zJ3,hv,jC,zh,zi,zf,zG,c,cb,zg,zH,own]
 ·have cb:(now.ego.vhi==0)=false:=by simp[c]
  cases hq:sw.any (apP m r now.ego.shi)with
  |true =>
   obtain⟨s,g⟩:=g1 hq;clear g1 g2;by_cases hv:vs=[]
   ·simp only[apE,juM,zJ3,hv,jC,zh,zi,zf,zG,swC,if_true,jp,jk,jg,jm,js]at g;simp[zIa,juM,zJ3,hv,jC,zh,zi,zf,zG,swC,c,cb,g,zg,zH,own]
   ·simp only[apE,juM,zJ3,hv,jC,zh,zi,zf,zG,swC,own,zJZ,if_false,jp,jk,jg,jm,js]at g;simp[zIa,juM,zJ3,hv,jC,zh,zi,zf,zG,swC,c,cb,g,zg,zH,own]
  |false =>
   have g:=g2 hq;clear g1 g2;by_cases hv:vs=[]
   ·simp only[apE,juM,zJ3,hv,jC,zh,zi,zf,zG,if_true,jp,jk,jg,jm,js]at g;simp[zIa,juM,zJ3,hv,jC,zh,zi,zf,zG,c,cb,g,zg,zH,own]
   ·simp only[apE,juM,zJ3,hv,jC,zh,zi,zf,zG,own,zJZ,if_false,jp,jk,jg,jm,js]at g;simp[zIa,juM,zJ3,hv,jC,zh,zi,zf,zG,c,cb,g,zg,zH,own]
def inS(p:Prt)(s:Swp):Bool:=!s.cap&&decide (s.lane=p.lane)&&decide (s.lo<=p.hi)&&decide (p.lo<=s.hi)
theorem zOH(p:Prt)(s:Swp):R L Cs zKG [.a (swC s),.c (.ptr 0 0 0 0)] [bxv 1 4 (zeB p)]=some (.w (Bo (inS p s)),[bxv 1 4 (zeB p)]):=by
 rw[zUa zLt rfl];unfold inS;cases hc:s.cap with
 |true=>simp[zHU,swC,zeB,hc,zg,zH]
 |false =>
  by_cases c1:s.lane=p.lane
  ·have b1:(s.lane==p.lane)=true:=by simp[c1]
   by_cases c2:s.lo<=p.hi<;>by_cases c3:p.lo<=s.hi<;>simp[zHU,swC,zeB,hc,c1,b1,c2,c3,zg,zH]
  ·have b1:(s.lane==p.lane)=false:=by simp[c1]
   simp[zHU,swC,zeB,hc,c1,b1,zg,zH]
abbrev zPL:Cl:=.fn zKG [] [.ptr 0 0 0 0]
theorem zNk(p:Prt)(sw:List Swp)(hs:sw.length<=100000000000):R L Cs zKR [.c (.jc (zbf sw)),.c zPL] [bxv 1 4 (zeB p)]=some (.w (Bo (sw.any (inS p))),[bxv 1 4 (zeB p)]):=by
 obtain⟨k,h1,h2⟩:=zOz sw hs zPL (inS p) [bxv 1 4 (zeB p)] (fun s _=>by
  have h:=zOH p s;simp only[zeB,swC]at h;simp[h,zeB,swC])
 rw[zUa zKU rfl];simp only[zeB]at h1;simp[zHt,h1,h2,zeB]
def zNK(sw:List Swp)(entry:Int):Nat->List Prt->Bool
 |_,[]=>false
 |i,p::r=>(decide ((i:Int)≠entry)&&sw.any (inS p))||zNK sw entry (i+1) r
abbrev tkM(m:zD)(r:List Int)(len:Int)(ps:List Pss)(vs:List Vis)(u:Nat)(was now:zci)(sw:List Swp)(v:Vis):Mem:=juM m r len ps vs u was now sw++[bx 10 (zJ1 v)]
abbrev tkE(n:Nat)(q:Zon)(i:Nat):Env:=[(19,.w (W q.parts.length)),(18,.w (.c (.jc (zkl q.parts)))),(3,.w (Pt n)),(0,.w J0),(20,.w (W i))]
theorem zNJ(m:zD)(r:List Int)(len:Int)(ps:List Pss)(vs:List Vis)(u:Nat)(was now:zci)(sw:List Swp)(hs:sw.length<=100000000000)(v:Vis)(q:Zon)(hq:q.parts.length<=6)(n:Nat)(hn:n=(juM m r len ps vs u was now sw).length):∀(t:List Prt) (i:Nat),q.parts.drop i=t->i<=q.parts.length ->
  (zNK sw v.entry i t=true->∃X,Y L Cs zHP (some [19,18,3,0,20]) (n+1) (tkE n q i) (tkM m r len ps vs u was now sw v)=some (.ret,[(4,.w (Bo true))],tkM m r len ps vs u was now sw v++[bxv 1 4 (zeB X)])) /\
  (zNK sw v.entry i t=false->Y L Cs zHP (some [19,18,3,0,20]) (n+1) (tkE n q i) (tkM m r len ps vs u was now sw v)=some (.exit 0,[(21,.w (Bo false)),(0,.w J0),(3,.w (Pt n)),(18,.w (.c (.jc (zkl q.parts)))),(19,.w (W q.parts.length)),(20,.w (W q.parts.length))],tkM m r len ps vs u was now sw v)):=by
 intro t;induction t with
 |nil =>
  intro i hd hi;obtain rfl:=zUb hd hi;refine⟨fun h=>(by cases h),fun _=>?_⟩;subst hn;rw[ZfM zHP.eq_1];by_cases hv:vs=[]<;>simp[tkE,tkM,juM,zJ3,hv]
 |cons p t ih =>
  intro i hd hi;obtain⟨hil,hp,hd'⟩:=zL hd;have hw:=zB (i:=i) (by omega);obtain⟨i1,i2⟩:=ih (i+1) hd' hil;have hC:=zNk p sw hs;have hnn:n=if vs=[] then 1 else 2:=by
   rw[hn];unfold juM zJ3;split<;>rfl
  have step:(decide ((i:Int)≠v.entry)&&sw.any (inS p))=false->Y L Cs zHP (some [19,18,3,0,20]) (n+1) (tkE n q i) (tkM m r len ps vs u was now sw v)=Y L Cs zHP (some [19,18,3,0,20]) (n+1) (tkE n q (i+1)) (tkM m r len ps vs u was now sw v):=by
   intro hf;clear i1 i2 ih;simp only[zeB]at hC;rw[ZfM zHP.eq_1];by_cases c:(i:Int)=v.entry
   ·have cb:((i:Int)==v.entry)=true:=by simp[c]
    have cb':((i:Int) !=v.entry)=false:=by simp[c]
    by_cases hv:vs=[]
    ·rw[if_pos hv]at hnn;subst hnn;simp[tkE,tkM,juM,zJ3,hv,jC,zh,zi,zf,zG,zJ1,zeB,hil,hp,hw,cb',zg,zH,own]
    ·rw[if_neg hv]at hnn;subst hnn;simp[tkE,tkM,juM,zJ3,hv,jC,zh,zi,zf,zG,zJ1,zeB,hil,hp,hw,cb',zg,zH,own]
   ·have cb':((i:Int) !=v.entry)=true:=by simp[c]
    have hf':sw.any (inS p)=false:=by simpa [c]using hf
    rw[hf']at hC;by_cases hv:vs=[]
    ·rw[if_pos hv]at hnn;subst hnn;simp[tkE,tkM,juM,zJ3,hv,jC,zh,zi,zf,zG,zJ1,zeB,hil,hp,hw,cb',hC,zg,zH,own]
    ·rw[if_neg hv]at hnn;subst hnn;simp[tkE,tkM,juM,zJ3,hv,jC,zh,zi,zf,zG,zJ1,zeB,hil,hp,hw,cb',hC,zg,zH,own]
  have hit:(decide ((i:Int)≠v.entry)&&sw.any (inS p))=true->Y L Cs zHP (some [19,18,3,0,20]) (n+1) (tkE n q i) (tkM m r len ps vs u was now sw v)=some (.ret,[(4,.w (Bo true))],tkM m r len ps vs u was now sw v++[bxv 1 4 (zeB p)]):=by
   intro hf;clear i1 i2 ih step;simp only[jh,decide_eq_true_eq]at hf;have cb':((i:Int) !=v.entry)=true:=by simp[hf.1]
   rw[hf.2]at hC;simp only[zeB]at hC;rw[ZfM zHP.eq_1];by_cases hv:vs=[]
   ·rw[if_pos hv]at hnn;subst hnn;simp[tkE,tkM,juM,zJ3,hv,jC,zh,zi,zf,zG,zJ1,zeB,hil,hp,hw,cb',hC,zg,zH,own]
   ·rw[if_neg hv]at hnn;subst hnn;simp[tkE,tkM,juM,zJ3,hv,jC,zh,zi,zf,zG,zJ1,zeB,hil,hp,hw,cb',hC,zg,zH,own]
  unfold zNK;cases hb:(decide ((i:Int)≠v.entry)&&sw.any (inS p))with
  |true=>exact⟨fun _=>⟨p,hit hb⟩,fun h=>by simp at h⟩
  |false =>
   rw[step hb,k7];exact⟨i1,i2⟩
def zMh(zs:List Zon)(z:Int):List Prt:=((zs[z.toNat]?).map Zon.parts).getD []
structure zKN(zs:List Zon)(v:Vis):Prop where
 z:0<=v.kp/\v.kp<zs.length
 few:(zMh zs v.kp).length<=6
 en:0<=v.entry/\v.entry<(zMh zs v.kp).length
def zNf(zs:List Zon)(sw:List Swp)(v:Vis):Bool:=zNK sw v.entry 0 (zMh zs v.kp)
theorem zPJ{m:zD}{zs:List Zon}(hz:m.kr=zk8 zs)(r:List Int)(len:Int)(ps:List Pss)(vs:List Vis)(u:Nat)(was now:zci)(sw:List Swp)(hs:sw.length<=100000000000)(v:Vis)(hv:zKN zs v) :
  R L Cs zLI [J0,.a (zJ1 v)] (juM m r len ps vs u was now sw)=some (.w (Bo (zNf zs sw v)),juM m r len ps vs u was now sw):=by
 obtain⟨z,hzz⟩:=jx hv.z.1;have hzl:z<zs.length:=by have:=hv.z.2;omega
 have hzi:(z:Int)<zs.length:=by omega
 have hzp:zMh zs v.kp=zs[z].parts:=by rw[hzz];simp[zMh,hzl]
 have hq:=hv.few;rw[hzp]at hq;unfold zNf;rw[hzp];have key:∀n,n=(juM m r len ps vs u was now sw).length->_:=fun n hn=>zNJ m r len ps vs u was now sw hs v zs[z] hq n hn zs[z].parts 0 rfl (jD _)
 rw[zUa zLL rfl];by_cases h0:vs=[]
 ·obtain⟨g1,g2⟩:=key 1 (by simp[juM,zJ3,h0]);cases hb:zNK sw v.entry 0 zs[z].parts with
  |true =>
   obtain⟨X,g⟩:=g1 hb;clear g1 g2 key;simp only[tkE,tkM,juM,zJ3,h0,jC,zh,zi,zf,zG,zJ1,zeB,hzz,hz,if_true,jp,jk,jg]at g;simp[zH9,juM,zJ3,h0,jC,zh,zi,zf,zG,zJ1,zeB,zdP,hz,hzz,hzl,hzi,g,zg,zH,own]
  |false =>
   have g:=g2 hb;clear g1 g2 key;simp only[tkE,tkM,juM,zJ3,h0,jC,zh,zi,zf,zG,zJ1,zeB,hzz,hz,if_true,jp,jk,jg]at g;simp[zH9,juM,zJ3,h0,jC,zh,zi,zf,zG,zJ1,zeB,zdP,hz,hzz,hzl,hzi,g,zg,zH,own]
 ·obtain⟨g1,g2⟩:=key 2 (by simp[juM,zJ3,h0]);cases hb:zNK sw v.entry 0 zs[z].parts with
  |true =>
   obtain⟨X,g⟩:=g1 hb;clear g1 g2 key;simp only[tkE,tkM,juM,zJ3,h0,jC,zh,zi,zf,zG,zJ1,zeB,hzz,hz,own,zJZ,if_false,jp,jk,jg]at g;simp[zH9,juM,zJ3,h0,jC,zh,zi,zf,zG,zJ1,zeB,zdP,hz,hzz,hzl,hzi,g,zg,zH,own]
  |false =>
   have g:=g2 hb;clear g1 g2 key;simp only[tkE,tkM,juM,zJ3,h0,jC,zh,zi,zf,zG,zJ1,zeB,hzz,hz,own,zJZ,if_false,jp,jk,jg]at g;simp[zH9,juM,zJ3,h0,jC,zh,zi,zf,zG,zJ1,zeB,zdP,hz,hzz,hzl,hzi,g,zg,zH,own]
def zM4(z high low:Int)(p:Pss):Bool:=decide (p.kp=z)&&decide (p.lo<=high)&&decide (low<=p.hi)
abbrev alM(v:Vis)(high low:Int):Mem:=[bxv 1 10 (zJ1 v),bxv 1 1 [I high],bxv 1 1 [I low]]
abbrev zQB:Cl:=.fn zKH [] [.ptr 0 0 0 0,.ptr 1 0 0 0,.ptr 2 0 0 0]
theorem zOL(v:Vis)(high low:Int)(p:Pss):R L Cs zKH [.a (zKF p),.c (.ptr 0 0 0 0),.c (.ptr 1 0 0 0),.c (.ptr 2 0 0 0)] (alM v high low)=some (.w (Bo (zM4 v.kp high low p)),alM v high low):=by
 rw[zUa zLv rfl];unfold zM4;by_cases c1:p.kp=v.kp
 ·have b1:(p.kp==v.kp)=true:=by simp[c1]
  by_cases c2:p.lo<=high<;>by_cases c3:low<=p.hi<;>simp[zHX,zJ1,zKF,c1,b1,c2,c3,zg,zH]
 ·have b1:(p.kp==v.kp)=false:=by simp[c1]
  simp[zHX,zJ1,zKF,c1,b1,zg,zH]
theorem zNl(v:Vis)(high low:Int)(ps:List Pss)(hs:ps.length<=100000000000):R L Cs zKY [.c (.jc (zKd ps)),.c zQB] (alM v high low)=some (.w (Bo (ps.any (zM4 v.kp high low))),alM v high low):=by
 obtain⟨k,h1,h2⟩:=zO6 ps hs zQB (zM4 v.kp high low) (alM v high low) (fun p _=>by
  have h:=zOL v high low p;simp only[alM,zKF,zJ1]at h;simp[h,alM,zKF,zJ1])
 rw[zUa zK2 rfl];simp only[alM,zJ1]at h1;simp[zHz,h1,h2,alM,zJ1]
def alP(zs:List Zon)(ps:List Pss)(sw:List Swp)(high low:Int)(v:Vis):Bool:=ps.any (zM4 v.kp high low)&&zNf zs sw v
abbrev aoM(m:zD)(r:List Int)(len:Int)(ps:List Pss)(vs:List Vis)(u:Nat)(was now:zci)(sw:List Swp)(low high:Int):Mem:=[bxv u 26 (jC m r len ps (.slice 1 vs.length 10 0 vs.length none) (zG was) (zG now) (.jc (zbf sw))),some (own 10 (zKt vs)),bxv 1 1 [I low],bxv 1 1 [I high]]
abbrev aoE(vs:List Vis)(i:Nat):Env:=[(30,.w (W vs.length)),(29,.w (.c (.slice 1 vs.length 10 0 vs.length none))),(3,.w (Pt 2)),(4,.w (Pt 3)),(0,.w J0),(31,.w (W i))]
theorem zNZ{m:zD}{zs:List Zon}(hz:m.kr=zk8 zs)(r:List Int)(len:Int)(ps:List Pss)(hp:ps.length<=1000)(vs:List Vis)(hv0:vs≠[])(hvl:vs.length<=100)(hvo:∀v∈vs,zKN zs v)(u:Nat)(was now:zci)(sw:List Swp)(hs:sw.length<=100000000000)(low high:Int):∀(t:List Vis) (i:Nat),vs.drop i=t->i<=vs.length ->
  (t.any (alP zs ps sw high low)=true->∃X,Y L Cs zHS (some [30,29,3,4,0,31]) 4 (aoE vs i) (aoM m r len ps vs u was now sw low high)=some (.ret,[(2,.w (W 5))],aoM m r len ps vs u was now sw low high++[bxv 1 10 (zJ1 X)])) /\
  (t.any (alP zs ps sw high low)=false->Y L Cs zHS (some [30,29,3,4,0,31]) 4 (aoE vs i) (aoM m r len ps vs u was now sw low high)=some (.exit 0,[(32,.w (Bo false)),(0,.w J0),(4,.w (Pt 3)),(3,.w (Pt 2)),(29,.w (.c (.slice 1 vs.length 10 0 vs.length none))),(30,.w (W vs.length)),(31,.w (W vs.length))],aoM m r len ps vs u was now sw low high)):=by
 intro t;induction t with
 |nil =>
  intro i hd hi;obtain rfl:=zUb hd hi;refine⟨fun h=>(by cases h),fun _=>?_⟩;rw[ZfM zHS.eq_1];simp[aoE,aoM]
 |cons v t ih =>
  intro i hd hi;obtain⟨hil,hx,hd'⟩:=zL hd;have hw:=zB (i:=i) (by omega);obtain⟨i1,i2⟩:=ih (i+1) hd' hil;have hC:=zNl v high low ps (by omega);have hT:=zPJ hz r len ps vs u was now sw hs v (hvo v (by rw[<-hx];exact ja hil));simp only[alM,zJ1,juM,zJ3,hv0,jC,zh,zi,zf,zG,own,zJZ,if_false,jp,jk]at hC hT;have step:alP zs ps sw high low v=false->Y L Cs zHS (some [30,29,3,4,0,31]) 4 (aoE vs i) (aoM m r len ps vs u was now sw low high)=Y L Cs zHS (some [30,29,3,4,0,31]) 4 (aoE vs (i+1)) (aoM m r len ps vs u was now sw low high):=by
   intro hf;clear i1 i2 ih;unfold alP at hf;rw[ZfM zHS.eq_1];cases hc:ps.any (zM4 v.kp high low)with
   |false =>
    rw[hc]at hC;simp[aoE,aoM,jC,zh,zi,zf,zG,zJ1,hil,hx,hw,hC,zg,zH,own]
   |true =>
    have ht:zNf zs sw v=false:=by simpa [hc]using hf
    rw[hc]at hC;rw[ht]at hT;simp[aoE,aoM,jC,zh,zi,zf,zG,zJ1,hil,hx,hw,hC,hT,zg,zH,own]
  have hit:alP zs ps sw high low v=true->Y L Cs zHS (some [30,29,3,4,0,31]) 4 (aoE vs i) (aoM m r len ps vs u was now sw low high)=some (.ret,[(2,.w (W 5))],aoM m r len ps vs u was now sw low high++[bxv 1 10 (zJ1 v)]):=by
   intro hf;clear i1 i2 ih step;unfold alP at hf;rw[jh]at hf;rw[hf.1]at hC;rw[hf.2]at hT;rw[ZfM zHS.eq_1];simp[aoE,aoM,jC,zh,zi,zf,zG,zJ1,hil,hx,hw,hC,hT,zg,zH,own]
  rw[uq];cases hb:alP zs ps sw high low v with
  |true=>exact⟨fun _=>⟨v,hit hb⟩,fun h=>by simp at h⟩
  |false =>
   rw[step hb,k7];exact⟨i1,i2⟩
def zMG(zs:List Zon)(len:Int)(ps:List Pss)(vs:List Vis)(was now:zci)(sw:List Swp):Int:=if vs.any (alP zs ps sw now.ego.shi (was.ego.slo-len)) then 5 else 0
theorem zOi{m:zD}{zs:List Zon}(hz:m.kr=zk8 zs)(r:List Int)(len:Int)(hlen:0<=len/\len<=100000)(ps:List Pss)(hp:ps.length<=1000)(vs:List Vis)(hvl:vs.length<=100)(hvo:∀v∈vs,zKN zs v)(u:Nat)(was now:zci)(hws:0<=was.ego.slo/\was.ego.slo<=1000000000000000)(sw:List Swp)(hs:sw.length<=100000000000) :
  R L Cs zKa [J0] (juM m r len ps vs u was now sw)=some (.w (W (zMG zs len ps vs was now sw)),juM m r len ps vs u was now sw):=by
 have w1:=ku (was.ego.slo-len);unfold zMG;by_cases h0:vs=[]
 ·subst h0;have g:∀E M,Y L Cs zHS (some [30,29,3,4,0,31]) 3 [(30,.w (W 0)),(29,E),(3,.w (Pt 1)),(4,.w (Pt 2)),(0,.w J0),(31,.w (W 0))] M=some (.exit 0,[(32,.w (Bo false)),(0,.w J0),(4,.w (Pt 2)),(3,.w (Pt 1)),(29,E),(30,.w (W 0)),(31,.w (W 0))],M):=by
   intro E M;rw[ZfM zHS.eq_1];simp
  rw[zUa zK3 rfl];simp[zIb,juM,zJ3,jC,zh,zi,zf,zG,g,w1,zg,zH,own]
 ·obtain⟨g1,g2⟩:=zNZ hz r len ps hp vs h0 hvl hvo u was now sw hs (was.ego.slo-len) now.ego.shi vs 0 rfl (jD _);rw[zUa zK3 rfl];cases hb:vs.any (alP zs ps sw now.ego.shi (was.ego.slo-len))with
  |true =>
   obtain⟨X,g⟩:=g1 hb;clear g1 g2;simp only[aoE,aoM,jC,zh,zi,zf,zG,zJ1,own,zJZ,jp,jk,jg]at g;simp[zIb,juM,zJ3,h0,jC,zh,zi,zf,zG,zJ1,g,w1,zg,zH,own]
  |false =>
   have g:=g2 hb;clear g1 g2;simp only[aoE,aoM,jC,zh,zi,zf,zG,zJ1,own,zJZ,jp,jk,jg]at g;simp[zIb,juM,zJ3,h0,jC,zh,zi,zf,zG,zJ1,g,w1,zg,zH,own]
def zPp(zs:List Zon)(z:Int):Int:=((zs[z.toNat]?).map Zon.qR).getD 0
def zPX(zs:List Zon)(z e:Int):Int:=(((zMh zs z)[e.toNat]?).map Prt.lane).getD 0
def zP0(zs:List Zon)(ss:List Sgn)(v:Vis)(tick:Int):Bool:=zfA (ss.getD (zPp zs v.kp-1).toNat ztn) (zPX zs v.kp v.entry) tick
def zP1(zs:List Zon)(shi slo:Int)(v:Vis):Bool:=decide (0<zPp zs v.kp)&&decide (v.first.lo<=shi)&&decide (slo<v.first.lo)
def zNj(zs:List Zon)(ss:List Sgn)(shi slo tick:Int)(v:Vis):Bool:=zP1 zs shi slo v && !zP0 zs ss v tick
abbrev awM(m:zD)(r:List Int)(len:Int)(ps:List Pss)(vs:List Vis)(u:Nat)(was now:zci)(sw:List Swp):Mem:=[bxv u 26 (jC m r len ps (.slice 1 vs.length 10 0 vs.length none) (zG was) (zG now) (.jc (zbf sw))),some (own 10 (zKt vs))]
abbrev awE(vs:List Vis)(i:Nat):Env:=[(11,.w (W vs.length)),(10,.w (.c (.slice 1 vs.length 10 0 vs.length none))),(0,.w J0),(12,.w (W i))]
theorem zN0{m:zD}{zs:List Zon}{ss:List Sgn}(hf:zmq m zs ss)(r:List Int)(len:Int)(ps:List Pss)(vs:List Vis)(hv0:vs≠[])(hvl:vs.length<=100)(hvo:∀v∈vs,zKN zs v)(u:Nat)(was now:zci)(sw:List Swp):∀(t:List Vis) (i:Nat),vs.drop i=t->i<=vs.length ->
  (t.any (zNj zs ss now.ego.shi was.ego.slo was.tick)=true->∃X Z,Y L Cs zHL (some [11,10,0,12]) 2 (awE vs i) (awM m r len ps vs u was now sw)=some (.ret,[(2,.w (W 6))],awM m r len ps vs u was now sw++[bxv 1 10 (zJ1 X),bxv 1 2 (zdP Z)])) /\
  (t.any (zNj zs ss now.ego.shi was.ego.slo was.tick)=false->Y L Cs zHL (some [11,10,0,12]) 2 (awE vs i) (awM m r len ps vs u was now sw)=some (.exit 0,[(13,.w (Bo false)),(0,.w J0),(10,.w (.c (.slice 1 vs.length 10 0 vs.length none))),(11,.w (W vs.length)),(12,.w (W vs.length))],awM m r len ps vs u was now sw)):=by
 have hz:=hf.zd.z;have hsg:=hf.zd.s;intro t;induction t with
 |nil =>
  intro i hd hi;obtain rfl:=zUb hd hi;refine⟨fun h=>(by cases h),fun _=>?_⟩;rw[ZfM zHL.eq_1];simp[awE,awM]
 |cons v t ih =>
  intro i hd hi;obtain⟨hil,hx,hd'⟩:=zL hd;have hw:=zB (i:=i) (by omega);obtain⟨i1,i2⟩:=ih (i+1) hd' hil;have hv:=hvo v (by rw[<-hx];exact ja hil);obtain⟨z,hzz⟩:=jx hv.z.1;have hzl:z<zs.length:=by have:=hv.z.2;omega
  have hzi:(z:Int)<zs.length:=by omega
  have hzp:zMh zs v.kp=zs[z].parts:=by rw[hzz];simp[zMh,hzl]
  have hzg:zPp zs v.kp=zs[z].qR:=by rw[hzz];simp[zPp,hzl]
  have hen:=hv.en;rw[hzp]at hen;obtain⟨e,he⟩:=jx hen.1;have hel:e<zs[z].parts.length:=by omega
  have hei:(e:Int)<zs[z].parts.length:=by omega
  have hpl:zPX zs v.kp v.entry=zs[z].parts[e].lane:=by unfold zPX;rw[hzp,he];simp[hel]
  have hsig:=hf.zd.sig zs[z] (ja hzl);have hsf:=hf.zd.CU;have step:zNj zs ss now.ego.shi was.ego.slo was.tick v=false->Y L Cs zHL (some [11,10,0,12]) 2 (awE vs i) (awM m r len ps vs u was now sw)=Y L Cs zHL (some [11,10,0,12]) 2 (awE vs (i+1)) (awM m r len ps vs u was now sw):=by
   intro hff;clear i1 i2 ih;unfold zNj zP1 zP0 at hff;rw[hzg,hpl]at hff;rw[ZfM zHL.eq_1];by_cases c1:0<zs[z].qR
   ·by_cases c2:v.first.lo<=now.ego.shi
    ·by_cases c3:was.ego.slo<v.first.lo
     ·obtain⟨j,hj⟩:∃j:Nat,zs[z].qR=j+1:=⟨(zs[z].qR-1).toNat,by omega⟩;have hjl:j<ss.length:=by omega
      have hji:(j:Int)<ss.length:=by omega
      have wj:IntKind.i64.wrap (zs[z].qR-1)=j:=by rw[hj];rw[zTd _ (by omega) (by omega)];omega
      have hgd:ss.getD (zs[z].qR-1).toNat ztn=ss[j]:=by
       rw[show(zs[z].qR-1).toNat=j by omega];simp[jo,hjl]
      have hG:=zAP ss[j] zs[z].parts[e].lane was.tick (hf.zd.ph _ (ja hjl));rw[hgd]at hff;have hg:zfA ss[j] zs[z].parts[e].lane was.tick=true:=by simpa [c1,c2,c3]using hff
      rw[hg]at hG;simp only[zeq]at hG;simp[awE,awM,jC,zh,zi,zf,zG,zJ1,zdP,zeB,zeq,hz,hsg,hzz,hzl,hzi,he,hel,hei,hil,hx,hw,c1,c2,c3,wj,hjl,hji,hG,zg,zH,own]
     ·simp[awE,awM,jC,zh,zi,zf,zG,zJ1,zdP,zeB,hz,hzz,hzl,hzi,hil,hx,hw,c1,c2,c3,zg,zH,own]
    ·simp[awE,awM,jC,zh,zi,zf,zG,zJ1,zdP,zeB,hz,hzz,hzl,hzi,hil,hx,hw,c1,c2,zg,zH,own]
   ·simp[awE,awM,jC,zh,zi,zf,zG,zJ1,zdP,zeB,hz,hzz,hzl,hzi,hil,hx,hw,c1,zg,zH,own]
  have hit:zNj zs ss now.ego.shi was.ego.slo was.tick v=true->Y L Cs zHL (some [11,10,0,12]) 2 (awE vs i) (awM m r len ps vs u was now sw)=some (.ret,[(2,.w (W 6))],awM m r len ps vs u was now sw++[bxv 1 10 (zJ1 v),bxv 1 2 (zdP zs[z])]):=by
   intro hff;clear i1 i2 ih step;unfold zNj zP1 zP0 at hff;rw[hzg,hpl]at hff;simp only[jh,decide_eq_true_eq,kR]at hff;obtain⟨⟨⟨c1,c2⟩,c3⟩,c4⟩:=hff;obtain⟨j,hj⟩:∃j:Nat,zs[z].qR=j+1:=⟨(zs[z].qR-1).toNat,by omega⟩;have hjl:j<ss.length:=by omega
   have hji:(j:Int)<ss.length:=by omega
   have wj:IntKind.i64.wrap (zs[z].qR-1)=j:=by rw[hj];rw[zTd _ (by omega) (by omega)];omega
   have hgd:ss.getD (zs[z].qR-1).toNat ztn=ss[j]:=by
    rw[show(zs[z].qR-1).toNat=j by omega];simp[jo,hjl]
   have hG:=zAP ss[j] zs[z].parts[e].lane was.tick (hf.zd.ph _ (ja hjl));rw[hgd]at c4;rw[c4]at hG;simp only[zeq]at hG;rw[ZfM zHL.eq_1];simp[awE,awM,jC,zh,zi,zf,zG,zJ1,zdP,zeB,zeq,hz,hsg,hzz,hzl,hzi,he,hel,hei,hil,hx,hw,c1,c2,c3,wj,hjl,hji,hG,zg,zH,own]
  rw[uq];cases hb:zNj zs ss now.ego.shi was.ego.slo was.tick v with
  |true=>exact⟨fun _=>⟨v,_,hit hb⟩,fun h=>by simp at h⟩
  |false =>
   rw[step hb,k7];exact⟨i1,i2⟩
def zMH(zs:List Zon)(ss:List Sgn)(vs:List Vis)(was now:zci):Int:=if vs.any (zNj zs ss now.ego.shi was.ego.slo was.tick) then 6 else 0
theorem zNd{m:zD}{zs:List Zon}{ss:List Sgn}(hf:zmq m zs ss)(r:List Int)(len:Int)(ps:List Pss)(vs:List Vis)(hvl:vs.length<=100)(hvo:∀v∈vs,zKN zs v)(u:Nat)(was now:zci)(sw:List Swp) :
  R L Cs zJ7 [J0] (juM m r len ps vs u was now sw)=some (.w (W (zMH zs ss vs was now)),juM m r len ps vs u was now sw):=by
 unfold zMH;by_cases h0:vs=[]
 ·subst h0;have g:∀E M,Y L Cs zHL (some [11,10,0,12]) 1 [(11,.w (W 0)),(10,E),(0,.w J0),(12,.w (W 0))] M=some (.exit 0,[(13,.w (Bo false)),(0,.w J0),(10,E),(11,.w (W 0)),(12,.w (W 0))],M):=by
   intro E M;rw[ZfM zHL.eq_1];simp
  rw[zUa zKJ rfl];simp[zHY,juM,zJ3,jC,zh,zi,zf,zG,g,zg,zH,own]
 ·obtain⟨g1,g2⟩:=zN0 hf r len ps vs h0 hvl hvo u was now sw vs 0 rfl (jD _);rw[zUa zKJ rfl];cases hb:vs.any (zNj zs ss now.ego.shi was.ego.slo was.tick)with
  |true =>
   obtain⟨X,Z,g⟩:=g1 hb;clear g1 g2;simp only[awE,awM,jC,zh,zi,zf,zG,zJ1,zdP,own,zJZ,jp,jk,jg]at g;simp[zHY,juM,zJ3,h0,jC,zh,zi,zf,zG,zJ1,zdP,g,zg,zH,own]
  |false =>
   have g:=g2 hb;clear g1 g2;simp only[awE,awM,jC,zh,zi,zf,zG,zJ1,zdP,own,zJZ,jp,jk,jg]at g;simp[zHY,juM,zJ3,h0,jC,zh,zi,zf,zG,zJ1,zdP,g,zg,zH,own]
def zKq(NW:List Cl)(SW:Cl):Prop:=(NW=zox/\SW=.jd)\/∃k x,NW=zG k/\SW=.jc x
def zJY(ok:Bool)(at' why:Int):List Cl:=[.bool ok,I at',I why]
abbrev ghJ(q:Nat)(s:Int)(v:Nat):Option Blk:=some { box:=true,esz:=4,rows:=[[I s,.ptr 1 0 0 0,.ptr q 0 0 0,.ptr (q+1) 0 0 0]],gen:=0,fz:=false,ver:=v }
abbrev zOE:Option Blk:=some { box:=true,esz:=1,rows:=[[.fn zJ6 [.ptr 2 0 0 0] []],[.fn zKc [.ptr 2 0 0 0] []],[.fn zJ9 [.ptr 2 0 0 0] []],[.fn zKa [.ptr 2 0 0 0] []],[.fn zJ7 [.ptr 2 0 0 0] []]],gen:=5,fz:=false,ver:=5 }
def zKs:List Int->Int
 |[]=>0
 |a::l=>if a=0 then zKs l else a
abbrev zTv:List Nat:=[zJ6,zKc,zJ9,zKa,zJ7]
abbrev rdA(m:zD)(r:List Int)(len:Int)(ps:List Pss)(vs:List Vis)(s:Int)(gv u:Nat)(was:zci)(NW:List Cl)(SW:Cl)(w:Nat)(n:Int)(fv:Nat)(F:List Cl):Mem:=[ghJ 4 s gv,bx 1 [.ptr 2 0 0 0],bxv u 26 (jC m r len ps (.slice 3 vs.length 10 0 vs.length none) (zG was) NW SW),some (own 10 (zKt vs)),bxv w 1 [I n],bxv fv 3 F]
abbrev rdB(m:zD)(r:List Int)(len:Int)(ps:List Pss)(vs:List Vis)(s:Int)(gv u:Nat)(was:zci)(NW:List Cl)(SW:Cl)(w:Nat)(n:Int)(fv:Nat)(F:List Cl):Mem:=[ghJ 3 s gv,bx 1 [.ptr 2 0 0 0],bxv u 26 (jC m r len ps .jd (zG was) NW SW),bxv w 1 [I n],bxv fv 3 F]
abbrev rdG(qq:Nat)(m:zD)(r:List Int)(len:Int)(ps:List Pss)(vs:List Vis)(s:Int)(gv u:Nat)(was:zci)(NW:List Cl)(SW:Cl)(w:Nat)(n:Int)(fv:Nat)(F:List Cl):Mem:=if qq=0 then rdB m r len ps vs s gv u was NW SW w n fv F else rdA m r len ps vs s gv u was NW SW w n fv F
theorem zVW{α:Sort _}{qq:Nat}{vs:List Vis}(h:qq=0/\vs=[]\/qq=1/\vs≠[])(a b:α):(if vs=[] then a else b)=if qq=0 then a else b:=by
 rcases h with⟨rfl,h⟩ |⟨rfl,h⟩
 ·rw[if_pos h,if_pos rfl]
 ·rw[if_neg h,if_neg (by decide)]
abbrev aMG(qq:Nat)(m:zD)(r:List Int)(len:Int)(ps:List Pss)(vs:List Vis)(gv u:Nat)(was now:zci)(sw:List Swp)(w:Nat)(n:Int)(fv:Nat)(F:List Cl):Mem:=rdG qq m r len ps vs 1 gv u was (zG now) (.jc (zbf sw)) w n fv F++[bxv 1 6 (zG now),zOE]
abbrev aEG(qq:Nat)(i:Nat):Env:=[(47,.w (W 5)),(10,.w (Pt (qq+5))),(4,.w (Pt 1)),(46,.w (.c (.slice (qq+6) 5 1 0 5 none))),(48,.w (W i)),(9,.w (Pt (qq+3))),(8,.w (Pt (qq+4)))]
theorem zV4(i j:Nat)(hi:i<5)(hj:j=i+1)(m:zD)(r:List Int)(len:Int)(ps:List Pss)(vs:List Vis)(qq:Nat)(hq0:qq=0/\vs=[]\/qq=1/\vs≠[])(gv u:Nat)(was now:zci)(sw:List Swp)(w:Nat)(n:Int)(a:Int)
  (hR:R L Cs (zTv.getD i 0) [J0] (juM m r len ps vs u was now sw)=some (.w (W a),juM m r len ps vs u was now sw)) :
  Y L Cs zHE (some [47,10,4,46,48,9,8]) (qq+7) (aEG qq i) (aMG qq m r len ps vs gv u was now sw w n 0 (zJY false 0 0)) =
    if a=0 then Y L Cs zHE (some [47,10,4,46,48,9,8]) (qq+7) (aEG qq j) (aMG qq m r len ps vs gv u was now sw w n 0 (zJY false 0 0)) else some (.ret,[],aMG qq m r len ps vs gv u was now sw w n 1 (zJY false n a)):=by
 subst hj;have cb:¬a=0->(a==0)=false/\(a !=0)=true:=fun c=>by simp[c]
 simp only[zTv,juM,zJ3,zVW hq0,jC,zh,zi,zf,zG,own,zJZ,jp,jk]at hR;rw[ZfM zHE.eq_1];have hw:∀x:Int,0<=x->x<=9->IntKind.i64.wrap x=x:=fun x _ _=>ku x
 match i,hi with
 |0,_ |1,_ |2,_ |3,_ |4,_ =>
  simp only[uw,List.getD_cons_succ]at hR;by_cases c:a=0
  ·rw[if_pos c];subst c;rcases hq0 with⟨rfl,-⟩ |⟨rfl,-⟩<;>simp only[jS,↓reduceIte,jH,Nat.reduceAdd]at hR<;>simp (maxSteps:=1000000) [aEG,aMG,rdG,rdA,rdB,jC,zh,zi,zf,zG,zJY,own,hw,hR,zg,zH]
  ·rw[if_neg c];rcases hq0 with⟨rfl,-⟩ |⟨rfl,-⟩<;>simp only[jS,↓reduceIte,jH,Nat.reduceAdd]at hR<;>simp (maxSteps:=1000000) [aEG,aMG,rdG,rdA,rdB,jC,zh,zi,zf,zG,zJY,own,hw,hR,c,(cb c).1,(cb c).2,zg,zH]
theorem zV3(m:zD)(r:List Int)(len:Int)(ps:List Pss)(vs:List Vis)(qq:Nat)(hq0:qq=0/\vs=[]\/qq=1/\vs≠[])(gv u:Nat)(was now:zci)(sw:List Swp)(w:Nat)(n:Int) :
  Y L Cs zHE (some [47,10,4,46,48,9,8]) (qq+7) (aEG qq 5) (aMG qq m r len ps vs gv u was now sw w n 0 (zJY false 0 0))=some (.exit 2,[(49,.w (Bo false)),(46,.w (.c (.slice (qq+6) 5 1 0 5 none))),(4,.w (Pt 1)),(10,.w (Pt (qq+5))),(47,.w (W 5)),(48,.w (W 5)),(9,.w (Pt (qq+3))),(8,.w (Pt (qq+4)))],aMG qq m r len ps vs gv u was now sw w n 0 (zJY false 0 0)):=by
 rw[ZfM zHE.eq_1];rcases hq0 with⟨rfl,-⟩ |⟨rfl,-⟩<;>simp[aEG,aMG,rdG,rdA,rdB]
theorem zVZ(m:zD)(r:List Int)(len:Int)(ps:List Pss)(vs:List Vis)(qq:Nat)(hq0:qq=0/\vs=[]\/qq=1/\vs≠[])(gv u:Nat)(was now:zci)(sw:List Swp)(w:Nat)(n:Int)(a b c d e:Int)
  (hA:R L Cs zJ6 [J0] (juM m r len ps vs u was now sw)=some (.w (W a),juM m r len ps vs u was now sw))
  (hB:a=0->R L Cs zKc [J0] (juM m r len ps vs u was now sw)=some (.w (W b),juM m r len ps vs u was now sw))
  (hC:R L Cs zJ9 [J0] (juM m r len ps vs u was now sw)=some (.w (W c),juM m r len ps vs u was now sw))
  (hD:R L Cs zKa [J0] (juM m r len ps vs u was now sw)=some (.w (W d),juM m r len ps vs u was now sw))
  (hE:R L Cs zJ7 [J0] (juM m r len ps vs u was now sw)=some (.w (W e),juM m r len ps vs u was now sw)) :
  Y L Cs zHE (some [47,10,4,46,48,9,8]) (qq+7) (aEG qq 0) (aMG qq m r len ps vs gv u was now sw w n 0 (zJY false 0 0)) =
    some (if zKs [a,b,c,d,e]=0 then(.exit 2,[(49,.w (Bo false)),(46,.w (.c (.slice (qq+6) 5 1 0 5 none))),(4,.w (Pt 1)),(10,.w (Pt (qq+5))),(47,.w (W 5)),(48,.w (W 5)),(9,.w (Pt (qq+3))),(8,.w (Pt (qq+4)))],aMG qq m r len ps vs gv u was now sw w n 0 (zJY false 0 0)) else(.ret,[],aMG qq m r len ps vs gv u was now sw w n 1 (zJY false n (zKs [a,b,c,d,e])))):=by
 rw[zV4 0 1 (by decide) rfl m r len ps vs qq hq0 gv u was now sw w n a hA];by_cases c0:a=0
 ·rw[if_pos c0,zV4 1 2 (by decide) rfl m r len ps vs qq hq0 gv u was now sw w n b (hB c0)];by_cases c1:b=0
  ·rw[if_pos c1,zV4 2 3 (by decide) rfl m r len ps vs qq hq0 gv u was now sw w n c hC];by_cases c2:c=0
   ·rw[if_pos c2,zV4 3 4 (by decide) rfl m r len ps vs qq hq0 gv u was now sw w n d hD];by_cases c3:d=0
    ·rw[if_pos c3,zV4 4 5 (by decide) rfl m r len ps vs qq hq0 gv u was now sw w n e hE];by_cases c4:e=0
     ·rw[if_pos c4,zV3 m r len ps vs qq hq0 gv u was now sw w n];simp only[zKs,c0,c1,c2,c3,c4,if_true]
     ·rw[if_neg c4];simp only[zKs,c0,c1,c2,c3,c4,if_true,if_false]
    ·rw[if_neg c3];simp only[zKs,c0,c1,c2,c3,if_true,if_false]
   ·rw[if_neg c2];simp only[zKs,c0,c1,c2,if_true,if_false]
  ·rw[if_neg c1];simp only[zKs,c0,c1,if_true,if_false]
 ·rw[if_neg c0];simp only[zKs,c0,if_false]
abbrev rsh:List (Nat×Bool×Nat):=[(4,false,1),(9,false,1),(8,false,1)]
theorem zVY(m:zD)(r:List Int)(len:Int)(ps:List Pss)(vs:List Vis)(qq:Nat)(hq0:qq=0/\vs=[]\/qq=1/\vs≠[])(gv u:Nat)(was:zci)(NW:List Cl)(now:zci)(SW:Cl)(hSW:zKq NW SW)(sw:List Swp)(w:Nat)(n:Int) :
  X L Cs (sQ (rG 1 [o1 0 10 (.box 0 6 (.k (.a [(I 0),.jd,(I 0),(I 0),(I 0),(I 0)]))),o0 1 (.store 6 (.s 10) (.s 24))] [25,10,4,9,8]) (rG 0 [mS 0 11 25] [11,10,4,9,8])) (zv3 [24,25] [.a (zG now),.c (.jc (zbf sw))]++[(4,.w (Pt 1)),(9,.w (Pt (qq+3))),(8,.w (Pt (qq+4)))]) (rdG qq m r len ps vs 0 gv u was NW SW w n 0 (zJY false 0 0)) =
    some (.normal,[(11,.w (.c (.jc (zbf sw)))),(10,.w (Pt (qq+5))),(4,.w (Pt 1)),(9,.w (Pt (qq+3))),(8,.w (Pt (qq+4)))],rdG qq m r len ps vs 0 gv u was NW SW w n 0 (zJY false 0 0)++[bxv 1 6 (zG now)]):=by
 rcases hq0 with⟨rfl,-⟩ |⟨rfl,-⟩<;>rcases hSW with⟨rfl,rfl⟩ |⟨k0,x,rfl,rfl⟩<;>simp[zv3,rdG,rdA,rdB,jC,zox,zh,zi,zf,zG,zJY,own,zg,zH]
theorem zV7(m:zD)(r:List Int)(len:Int)(ps:List Pss)(vs:List Vis)(qq:Nat)(hq0:qq=0/\vs=[]\/qq=1/\vs≠[])(gv u:Nat)(was:zci)(NW:List Cl)(now:zci)(SW:Cl)(hSW:zKq NW SW)(sw:List Swp)(w n:Nat)(hn:n<1000)(why:Int)
  (g:Y L Cs zHE (some [47,10,4,46,48,9,8]) (qq+7) (aEG qq 0) (aMG qq m r len ps vs gv (u+1+1) was now sw (w+1) (n+1) 0 (zJY false 0 0)) =
   some (if why=0 then(.exit 2,[(49,.w (Bo false)),(46,.w (.c (.slice (qq+6) 5 1 0 5 none))),(4,.w (Pt 1)),(10,.w (Pt (qq+5))),(47,.w (W 5)),(48,.w (W 5)),(9,.w (Pt (qq+3))),(8,.w (Pt (qq+4)))],aMG qq m r len ps vs gv (u+1+1) was now sw (w+1) (n+1) 0 (zJY false 0 0)) else(.ret,[],aMG qq m r len ps vs gv (u+1+1) was now sw (w+1) (n+1) 1 (zJY false (n+1) why)))) :
  ∃E,X L Cs zHO.code [(11,.w (.c (.jc (zbf sw)))),(10,.w (Pt (qq+5))),(4,.w (Pt 1)),(9,.w (Pt (qq+3))),(8,.w (Pt (qq+4)))] (rdG qq m r len ps vs 1 gv u was NW SW w n 0 (zJY false 0 0)++[bxv 1 6 (zG now)]) =
   some (if why=0 then(.normal,E,aMG qq m r len ps vs gv (u+1+1+1) now now sw (w+1) (n+1) 0 (zJY false 0 0)) else(.ret,[],aMG qq m r len ps vs gv (u+1+1) was now sw (w+1) (n+1) 1 (zJY false (n+1) why))):=by
 have hw:=zB (i:=n) (by omega);have n0:((0:Nat):Int)=0:=rfl;refine⟨[],?_⟩;by_cases c:why=0
 ·rw[if_pos c];rw[if_pos c]at g;rcases hq0 with⟨rfl,-⟩ |⟨rfl,-⟩<;>simp only[jS,↓reduceIte,jH,Nat.reduceAdd,aEG,aMG,rdG,rdA,rdB,jC,zh,zi,zf,zG,zJY,own,zJZ,jp,jk,n0]at g<;>rcases hSW with⟨rfl,rfl⟩ |⟨k0,x,rfl,rfl⟩<;>simp (maxSteps:=1000000) [zHO,aEG,aMG,rdG,rdA,rdB,jC,zox,zh,zi,zf,zG,zJY,own,zg,zH,zi2,okW,hw,g]
 ·rw[if_neg c];rw[if_neg c]at g;rcases hq0 with⟨rfl,-⟩ |⟨rfl,-⟩<;>simp only[jS,↓reduceIte,jH,Nat.reduceAdd,aEG,aMG,rdG,rdA,rdB,jC,zh,zi,zf,zG,zJY,own,zJZ,jp,jk,n0]at g<;>rcases hSW with⟨rfl,rfl⟩ |⟨k0,x,rfl,rfl⟩<;>simp (maxSteps:=1000000) [zHO,aEG,aMG,rdG,rdA,rdB,jC,zox,zh,zi,zf,zG,zJY,own,zg,zH,zi2,okW,hw,g]
theorem zV5(m:zD)(r:List Int)(len:Int)(ps:List Pss)(vs:List Vis)(qq:Nat)(hq0:qq=0/\vs=[]\/qq=1/\vs≠[])(gv u:Nat)(was:zci)(NW:List Cl)(now:zci)(SW:Cl)(hSW:zKq NW SW)(sw:List Swp)(w n:Nat)(hn:n<1000)(why:Int)
  (g:Y L Cs zHE (some [47,10,4,46,48,9,8]) (qq+7) (aEG qq 0) (aMG qq m r len ps vs (gv+1) (u+1+1) was now sw (w+1) (n+1) 0 (zJY false 0 0)) =
   some (if why=0 then(.exit 2,[(49,.w (Bo false)),(46,.w (.c (.slice (qq+6) 5 1 0 5 none))),(4,.w (Pt 1)),(10,.w (Pt (qq+5))),(47,.w (W 5)),(48,.w (W 5)),(9,.w (Pt (qq+3))),(8,.w (Pt (qq+4)))],aMG qq m r len ps vs (gv+1) (u+1+1) was now sw (w+1) (n+1) 0 (zJY false 0 0)) else(.ret,[],aMG qq m r len ps vs (gv+1) (u+1+1) was now sw (w+1) (n+1) 1 (zJY false (n+1) why)))) :
  R L Cs zJ0 [.c (.yld 0 zJ0 rsh),.a (zG now),.c (.jc (zbf sw))] (rdG qq m r len ps vs 0 gv u was NW SW w n 0 (zJY false 0 0)) =
    some (if why=0 then(.w (Bo true),rdG qq m r len ps vs 0 (gv+1+1) (u+1+1+1) now (zG now) (.jc (zbf sw)) (w+1) (n+1) 0 (zJY false 0 0)) else(.w (Bo false),rdG qq m r len ps vs 2 (gv+1+1) (u+1+1) was (zG now) (.jc (zbf sw)) (w+1) (n+1) 1 (zJY false (n+1) why))):=by
 obtain⟨E,hc⟩:=zV7 m r len ps vs qq hq0 (gv+1) u was NW now SW hSW sw w n hn why g;have hp:=zVY m r len ps vs qq hq0 gv u was NW now SW hSW sw w n;by_cases c:why=0
 ·rw[if_pos c]at hc ⊢;exact zOg (cells:=[.ptr 1 0 0 0,.ptr (qq+3) 0 0 0,.ptr (qq+4) 0 0 0]) (M2:=rdG qq m r len ps vs 1 (gv+1) u was NW SW w n 0 (zJY false 0 0)++[bxv 1 6 (zG now)]) (M4:=rdG qq m r len ps vs 0 (gv+1+1) (u+1+1+1) now (zG now) (.jc (zbf sw)) (w+1) (n+1) 0 (zJY false 0 0)++[bxv 1 6 (zG now),zOE]) zKg rfl rfl (by rcases hq0 with⟨rfl,-⟩ |⟨rfl,-⟩<;>simp[Eng.jU,rdG,rdA,rdB]) (by rcases hq0 with⟨rfl,-⟩ |⟨rfl,-⟩<;>simp[zxb,rdG,rdA,rdB]) (by rcases hq0 with⟨rfl,-⟩ |⟨rfl,-⟩<;>rfl) hp (by rcases hq0 with⟨rfl,-⟩ |⟨rfl,-⟩<;>simp[zsR,rdG,rdA,rdB]) hc (by rcases hq0 with⟨rfl,-⟩ |⟨rfl,-⟩<;>simp[zsR,zxZ,rdG,rdA,rdB,aMG]) (by rcases hq0 with⟨rfl,-⟩ |⟨rfl,-⟩<;>simp[finish,zH,rdG,rdA,rdB,jC,zh,zi,zf,zG,zJY,own])
 ·rw[if_neg c]at hc ⊢;exact zOg (cells:=[.ptr 1 0 0 0,.ptr (qq+3) 0 0 0,.ptr (qq+4) 0 0 0]) (M2:=rdG qq m r len ps vs 1 (gv+1) u was NW SW w n 0 (zJY false 0 0)++[bxv 1 6 (zG now)]) (M4:=rdG qq m r len ps vs 2 (gv+1+1) (u+1+1) was (zG now) (.jc (zbf sw)) (w+1) (n+1) 1 (zJY false (n+1) why)++[bxv 1 6 (zG now),zOE]) zKg rfl rfl (by rcases hq0 with⟨rfl,-⟩ |⟨rfl,-⟩<;>simp[Eng.jU,rdG,rdA,rdB]) (by rcases hq0 with⟨rfl,-⟩ |⟨rfl,-⟩<;>simp[zxb,rdG,rdA,rdB]) (by rcases hq0 with⟨rfl,-⟩ |⟨rfl,-⟩<;>rfl) hp (by rcases hq0 with⟨rfl,-⟩ |⟨rfl,-⟩<;>simp[zsR,rdG,rdA,rdB]) hc (by rcases hq0 with⟨rfl,-⟩ |⟨rfl,-⟩<;>simp[zsR,zxZ,rdG,rdA,rdB,aMG]) (by rcases hq0 with⟨rfl,-⟩ |⟨rfl,-⟩<;>simp[finish,zH,rdG,rdA,rdB,jC,zh,zi,zf,zG,zJY,own])
theorem zOm{m:zD}{zs:List Zon}{ss:List Sgn}(hf:zmq m zs ss)(r:List Int)(len:Int)(k:zci)(e:Ego)(signals:Bool)(hvb:∀b∈k.jV,VB m b):∀s∈zfV m zs ss r len k e signals,zPI m s:=by
 have h:=hf.qe;intro s hs;unfold zfV zhM at hs;obtain⟨b,hb,hx⟩:=kQ.1 hs;obtain⟨z,hz,rfl⟩:=kJ.1 hx;have hv:=ztK k.ego len r k.jV hvb b hb;have hbd:=zwE h zs ss k signals hv;unfold zn0 at hz;split at hz
 ·have ho:=zBF h r (zfx len e) e.slo (mvF m zs ss k signals b) (by rw[hbd.1];exact hv.lane) _ _ _ z hz;have h1:=zcX h ho.on;have h2:=ho.lo;have h3:=ho.le;have h4:=ho.hi;exact⟨ho.on,by show 0<=z.1.lo/\z.1.lo<=1000000;omega,by show 0<=z.1.hi/\z.1.hi<=1000000;omega⟩
 ·cases hz
theorem zOa{m:zD}{zs:List Zon}{ss:List Sgn}(hf:zmq m zs ss)(r:List Int)(len:Int)(signals:Bool){k:zci}(hk:KJ m k)(a:Int):∀s∈zKu m zs ss r len signals k a,zPI m s:=fun s hs =>
 zOm hf r len k _ signals hk.vb s (zO4 ((zrs _ _).1 hs))
def zMi(m:zD)(zs:List Zon)(ss:List Sgn)(r:List Int)(len:Int)(ps:List Pss)(vs:List Vis)(was now:zci)(sw:List Swp):Int :=
 zKs [onW m r now,zMt m r now,zMF m r now sw,zMG zs len ps vs was now sw,zMH zs ss vs was now]
def zKr(m:zD)(zs:List Zon)(ss:List Sgn)(r:List Int)(len:Int)(ps:List Pss)(vs:List Vis)(signals:Bool):List Int->Nat->zci->Option (Nat×Int)×zci
 |[],n,k=>(none,k)
 |a::t,n,k=>if zMi m zs ss r len ps vs k (zEt m zs ss r len signals k a) (zKu m zs ss r len signals k a)=0 then zKr m zs ss r len ps vs signals t (n+1) (zEt m zs ss r len signals k a) else(some (n+1,zMi m zs ss r len ps vs k (zEt m zs ss r len signals k a) (zKu m zs ss r len signals k a)),k)
theorem zNe{m:zD}{zs:List Zon}{ss:List Sgn}{r:List Int}{len:Int}{ps:List Pss}{vs:List Vis}{was now:zci}{sw:List Swp}(h:zMi m zs ss r len ps vs was now sw=0):now.ego.shi<=zmd m 0 r:=by
 have ho:onW m r now=0:=by
  unfold zMi at h;rw[zKs]at h;by_cases c:onW m r now=0
  ·exact c
  ·rw[if_neg c]at h;exact absurd h c
 unfold onW at ho;split at ho
 ·cases ho
 ·omega
def zV2(m:zD)(r:List Int)(tick:Int)(e:Ego)(a:Int):Prop:=1099511627776<=tick\/1099511627776<(zaN m r e a).shi
instance(m:zD)(r:List Int)(tick:Int)(e:Ego)(a:Int):Decidable (zV2 m r tick e a):=by unfold zV2;infer_instance
def fbF(m:zD)(r:List Int):List Int->Int->Ego->Option Nat
 |[],_,_=>none
 |a::t,tk,e=>if zV2 m r tk e a then some 0 else if zmd m 0 r<(zaN m r e a).shi then none else(fbF m r t (tk+1) (zaN m r e a)).map (· + 1)
theorem zO8(m:zD)(r:List Int):∀(t:List Int) (tk:Int) (e:Ego) (b:Nat),fbF m r t tk e=some b->b<t.length
 |[],_,_,_,h=>by cases h
 |a::t,tk,e,b,h=>by
  unfold fbF at h;split at h
  ·cases h;simp
  ·split at h
   ·cases h
   ·rw[jb]at h;obtain⟨b',h1,rfl⟩:=h;have:=zO8 m r t _ _ _ h1;simp;omega
theorem zLX(m:zD)(r:List Int):∀(t:List Int) (tk:Int) (e:Ego) (n:Nat),fbF m r (t.take n) tk e=(fbF m r t tk e).bind fun b=>if b<n then some b else none
 |[],_,_,n=>by simp[fbF]
 |a::t,tk,e,0=>by
  rw[List.take_zero,show fbF m r [] tk e=none from rfl];cases fbF m r (a::t) tk e<;>simp
 |a::t,tk,e,n+1=>by
  rw[List.take_succ_cons];unfold fbF;split
  ·simp
  ·split
   ·rfl
   ·rw[zLX m r t _ _ n];cases fbF m r t (tk+1) (zaN m r e a)with
    |none=>rfl
    |some b =>
     by_cases h:b<n
     ·simp[h]
     ·simp[h]
def zKX(x:Bool×Int×Int):Option Nat->Bool×Int×Int
 |none=>x
 |some b=>if 0<x.2.1/\x.2.1<=b/\x.2.2≠7 then x else(false,0,1)
def zOP(NW:List Cl)(SW:Cl):Prop:=∃k x,NW=zG k/\SW=.jc x
theorem zVX{m:zD}{zs:List Zon}{ss:List Sgn}(hF:zKj m zs ss){r:List Int}(hr:zdA m r=0)(len:Int)(hlen:0<=len/\len<=20000)(ps:List Pss)(hp:ps.length<=1000)(vs:List Vis)(qq:Nat)(hq0:qq=0/\vs=[]\/qq=1/\vs≠[])(hvl:vs.length<=100)(hvo:∀v∈vs,zKN zs v)(signals:Bool)(gv u w n:Nat)(hn:n<1000)(k:zci)(NW:List Cl)(SW:Cl)(hSW:zKq NW SW)(hk:KJ m k)(a:Int) :
  R L Cs zJ0 [.c (.yld 0 zJ0 rsh),.a (zG (zEt m zs ss r len signals k a)),.c (.jc (zbf (zKu m zs ss r len signals k a)))] (rdG qq m r len ps vs 0 gv u k NW SW w n 0 (zJY false 0 0)) =
    some (if zMi m zs ss r len ps vs k (zEt m zs ss r len signals k a) (zKu m zs ss r len signals k a)=0 then(.w (Bo true),rdG qq m r len ps vs 0 (gv+1+1) (u+1+1+1) (zEt m zs ss r len signals k a) (zG (zEt m zs ss r len signals k a)) (.jc (zbf (zKu m zs ss r len signals k a))) (w+1) (n+1) 0 (zJY false 0 0))
     else(.w (Bo false),rdG qq m r len ps vs 2 (gv+1+1) (u+1+1) k (zG (zEt m zs ss r len signals k a)) (.jc (zbf (zKu m zs ss r len signals k a))) (w+1) (n+1) 1 (zJY false (n+1) (zMi m zs ss r len ps vs k (zEt m zs ss r len signals k a) (zKu m zs ss r len signals k a))))):=by
 have hf:=hF.full;have h:=hf.qe;obtain⟨hon,hne,hl8⟩:=zg1 h hr;have hsl:=zNq (zs:=zs) (ss:=ss) hf hr len signals hk a;have hso:=zOa (zs:=zs) (ss:=ss) hf r len signals hk a;have hd:=zLs h hr hk.ego a;have hes:=hk.ego.s;have hE:=zFu h r hl8 hon;have he1:(zEt m zs ss r len signals k a).ego=zaN m r k.ego a:=rfl;rw[<-he1]at hd;generalize zEt m zs ss r len signals k a=nx at *;generalize zKu m zs ss r len signals k a=sw at *;have e1:=zNc m r len ps vs (u+1+1) k nx sw;have e2:=fun(h0':onW m r nx=0)=>zPf h hF.qg r (by omega) hon len ps vs (u+1+1) k nx (by
   have:nx.ego.shi<=zmd m 0 r:=by
    unfold onW at h0';split at h0'
    ·cases h0'
    ·omega
   omega) sw
 have e3:=zOh h r hl8 hon len ps vs (u+1+1) k nx sw hsl hso;have e4:=zOi hf.zd.z r len (by omega) ps hp vs hvl hvo (u+1+1) k nx (by omega) sw hsl;have e5:=zNd hf r len ps vs hvl hvo (u+1+1) k nx sw;exact zV5 m r len ps vs qq hq0 gv u k NW nx SW hSW sw w n hn _ (zVZ m r len ps vs qq hq0 (gv+1) (u+1+1) k nx sw (w+1) ((n:Int)+1) (onW m r nx) (zMt m r nx) (zMF m r nx sw) (zMG zs len ps vs k nx sw) (zMH zs ss vs k nx) e1 e2 e3 e4 e5)
abbrev zVG(qq:Nat)(m:zD)(r:List Int)(len:Int)(ps:List Pss)(vs:List Vis)(s:Int)(gv u:Nat)(was:zci)(NW:List Cl)(SW:Cl)(w:Nat)(n:Int)(fv:Nat)(F:List Cl)(jL:List Int)(kv:Nat)(k:zci)(signals:Bool):Mem:=rdG qq m r len ps vs s gv u was NW SW w n fv F++[bx 1 [.jc (zu jL)],bx 1 [.ptr 2 0 0 0],bxv kv 6 (zG k),bx 1 [.bool signals]]
abbrev zVK(qq:Nat)(jL:List Int)(i:Nat):Env:=[(12,.w (W jL.length)),(11,.w (.c (.jc (zu jL)))),(2,.w (Pt (qq+6))),(4,.w (Pt (qq+8))),(0,.w (.c (.yld 0 zJ0 rsh))),(3,.w (Pt (qq+7))),(13,.w (W i))]
theorem zVU{m:zD}{zs:List Zon}{ss:List Sgn}(hF:zKj m zs ss){r:List Int}(hr:zdA m r=0)(len:Int)(hlen:0<=len/\len<=20000)(ps:List Pss)(hp:ps.length<=1000)(vs:List Vis)(qq:Nat)(hq0:qq=0/\vs=[]\/qq=1/\vs≠[])(hvl:vs.length<=100)(hvo:∀v∈vs,zKN zs v)(signals:Bool)(jL:List Int)(hin:∀a∈jL,zk0 a)(hal:jL.length<=500):∀(t:List Int) (i:Nat) (gv u w:Nat) (k:zci) (NW:List Cl) (SW:Cl) (kv:Nat),jL.drop i=t->i<=jL.length->KJ m k->0<=k.tick/\k.tick<=1099511627776+i->zKq NW SW ->
  match zKr m zs ss r len ps vs signals t i k with
  |(none,kf)=>∃gv' u' w' NW' SW' kv',zKq NW' SW'/\(gv+min 1 t.length<=gv'/\u+min 1 t.length<=u'/\w+min 1 t.length<=w'/\(kv'=kv/\kf=k\/kv<kv')/\(zOP NW' SW'\/t=[]/\NW'=NW/\SW'=SW))/\Y L Cs zHM (some [12,11,2,4,0,3,13]) (qq+9) (zVK qq jL i) (zVG qq m r len ps vs 0 gv u k NW SW w i 0 (zJY false 0 0) jL kv k signals) =
    some (.exit 0,[(14,.w (Bo false)),(3,.w (Pt (qq+7))),(0,.w (.c (.yld 0 zJ0 rsh))),(4,.w (Pt (qq+8))),(2,.w (Pt (qq+6))),(11,.w (.c (.jc (zu jL)))),(12,.w (W jL.length)),(13,.w (W jL.length))],zVG qq m r len ps vs 0 gv' u' kf NW' SW' w' jL.length 0 (zJY false 0 0) jL kv' kf signals)
  |(some (at',why),kf)=>∃gv' u' w' NW' SW' kv' kk X E,zKq NW' SW'/\(gv+min 1 t.length<=gv'/\u+min 1 t.length<=u'/\w+min 1 t.length<=w'/\(kv'=kv/\kk=k\/kv<kv')/\zOP NW' SW')/\Y L Cs zHM (some [12,11,2,4,0,3,13]) (qq+9) (zVK qq jL i) (zVG qq m r len ps vs 0 gv u k NW SW w i 0 (zJY false 0 0) jL kv k signals) =
    some (.ret,E,zVG qq m r len ps vs 2 gv' u' kf NW' SW' w' at' 1 (zJY false at' why) jL kv' kk signals++[bxv 1 6 (zG X)]):=by
 have hf:=hF.full;have h:=hf.qe;obtain⟨hon,hne,hl8⟩:=zg1 h hr;have hEb:=zFu h r hl8 hon;intro t;induction t with
 |nil =>
  intro i gv u w k NW SW kv hd hi hk ht hSW;obtain rfl:=zUb hd hi;refine⟨gv,u,w,NW,SW,kv,hSW,⟨jq _,jq _,jq _,.inl ⟨rfl,rfl⟩,.inr ⟨rfl,rfl,rfl⟩⟩,?_⟩;rw[ZfM zHM.eq_1];simp[zVK,zVG]
 |cons a t ih =>
  intro i gv u w k NW SW kv hd hi hk ht hSW;obtain⟨hil,ha,hd'⟩:=zL hd;have hw:=zB (i:=i) (by omega);have v1:¬gv+1+1=gv:=by omega
  have v2:¬u+1+1+1=u:=by omega
  have v3:¬u+1+1=u:=by omega
  have v4:¬w+1=w:=by omega
  have hS:=zux hf hr len hlen k (zN7 h hf.yV hk) (by omega) hk.ego hk.vb a (hin a (by rw[<-ha];exact ja hil)) signals;have hRd:=zVX hF hr len hlen ps hp vs qq hq0 hvl hvo signals gv u w i (by omega) k NW SW hSW hk a;have hKs:=zNm hf hr len signals hk a (zs:=zs) (ss:=ss);have htk:(zEt m zs ss r len signals k a).tick=k.tick+1:=rfl;have hon2:=zNe (m:=m) (zs:=zs) (ss:=ss) (r:=r) (len:=len) (ps:=ps) (vs:=vs) (was:=k) (now:=zEt m zs ss r len signals k a) (sw:=zKu m zs ss r len signals k a);rw[show zpg m zs ss r len k (zaN m r k.ego a) signals=zEt m zs ss r len signals k a from rfl,show zhp (zlg (zfV m zs ss r len k (zaN m r k.ego a) signals))=zKu m zs ss r len signals k a from rfl]at hS;unfold zKr;by_cases c:zMi m zs ss r len ps vs k (zEt m zs ss r len signals k a) (zKu m zs ss r len signals k a)=0
  ·rw[if_pos c];rw[if_pos c]at hRd;have hshi:=hon2 c;have hK:=hKs (by omega);have ih':=ih (i+1) (gv+1+1) (u+1+1+1) (w+1) (zEt m zs ss r len signals k a) (zG (zEt m zs ss r len signals k a)) (.jc (zbf (zKu m zs ss r len signals k a))) (kv+1) hd' hil hK (by rw[htk];omega) (.inr ⟨_,_,rfl,rfl⟩);have step:Y L Cs zHM (some [12,11,2,4,0,3,13]) (qq+9) (zVK qq jL i) (zVG qq m r len ps vs 0 gv u k NW SW w i 0 (zJY false 0 0) jL kv k signals)=Y L Cs zHM (some [12,11,2,4,0,3,13]) (qq+9) (zVK qq jL (i+1)) (zVG qq m r len ps vs 0 (gv+1+1) (u+1+1+1) (zEt m zs ss r len signals k a) (zG (zEt m zs ss r len signals k a)) (.jc (zbf (zKu m zs ss r len signals k a))) (w+1) ((i+1:Nat):Int) 0 (zJY false 0 0) jL (kv+1) (zEt m zs ss r len signals k a) signals):=by
    clear ih ih' hKs hon2 hK htk hshi;generalize zEt m zs ss r len signals k a=nx at *;generalize zKu m zs ss r len signals k a=sw at *;rw[ZfM zHM.eq_1];rcases hq0 with⟨rfl,-⟩ |⟨rfl,-⟩<;>rcases hSW with⟨rfl,rfl⟩ |⟨k0,x,rfl,rfl⟩<;>simp only[jS,↓reduceIte,jH,Nat.reduceAdd,rdG,rdA,rdB,jC,zox,zh,zi,zf,zG,zJY,own,zJZ,jp,jk]at hS hRd<;>simp (maxSteps:=1000000) [zVK,zVG,rdG,rdA,rdB,jC,zox,zh,zi,zf,zG,zJY,own,hil,ha,hw,hS,hRd,v1,v2,v3,v4,zg,zH]
   rw[step];clear step;revert ih';generalize zKr m zs ss r len ps vs signals t (i+1) (zEt m zs ss r len signals k a)=V;obtain⟨V1,kf⟩:=V;cases V1 with
   |none =>
    rintro⟨gv',u',w',NW',SW',kv',hO,⟨q1,q2,q3,q4,q5⟩,g⟩;exact⟨gv',u',w',NW',SW',kv',hO,⟨by simp only[jm];omega,by simp only[jm];omega,by simp only[jm];omega,.inr (by omega),.inl (q5.elim id fun q=>⟨_,_,q.2.1,q.2.2⟩)⟩,g⟩
   |some y =>
    rintro⟨gv',u',w',NW',SW',kv',kk,X,E,hO,⟨q1,q2,q3,q4,q5⟩,g⟩;exact⟨gv',u',w',NW',SW',kv',kk,X,E,hO,⟨by simp only[jm];omega,by simp only[jm];omega,by simp only[jm];omega,.inr (by omega),q5⟩,g⟩
  ·rw[if_neg c];rw[if_neg c]at hRd;refine⟨gv+1+1,u+1+1,w+1,zG (zEt m zs ss r len signals k a),.jc (zbf (zKu m zs ss r len signals k a)),kv,k,zEt m zs ss r len signals k a,[(32,.w (Bo true)),(3,.w (Pt (qq+7))),(0,.w (.c (.yld 0 zJ0 rsh))),(4,.w (Pt (qq+8))),(2,.w (Pt (qq+6))),(11,.w (.c (.jc (zu jL)))),(12,.w (W jL.length)),(13,.w (W i)),(8,.w (Pt (qq+9)))],.inr ⟨_,_,rfl,rfl⟩,⟨by simp only[jm];omega,by simp only[jm];omega,by simp only[jm];omega,.inl ⟨rfl,rfl⟩,⟨_,_,rfl,rfl⟩⟩,?_⟩;clear ih hKs hon2 htk;generalize zMi m zs ss r len ps vs k (zEt m zs ss r len signals k a) (zKu m zs ss r len signals k a)=why at *;generalize zEt m zs ss r len signals k a=nx at *;generalize zKu m zs ss r len signals k a=sw at *;rw[ZfM zHM.eq_1];rcases hq0 with⟨rfl,-⟩ |⟨rfl,-⟩<;>rcases hSW with⟨rfl,rfl⟩ |⟨k0,x,rfl,rfl⟩<;>simp only[jS,↓reduceIte,jH,Nat.reduceAdd,rdG,rdA,rdB,jC,zox,zh,zi,zf,zG,zJY,own,zJZ,jp,jk]at hS hRd<;>simp (maxSteps:=1000000) [zVK,zVG,rdG,rdA,rdB,jC,zox,zh,zi,zf,zG,zJY,own,hil,ha,hw,hS,hRd,v1,v2,v3,v4,zg,zH]
def zOS(len:Int)(x:Ego)(v:Vis):Bool:=decide (v.first.lo<=x.shi)&&decide (x.slo-len<=v.last.hi)
abbrev zPQ(vs:List Vis):Option Blk:=some { box:=false,esz:=10,rows:=zKt vs,gen:=vs.length,fz:=true,ver:=vs.length+1 }
abbrev zMj(m:zD)(r:List Int)(len:Int)(ps:List Pss)(vs:List Vis)(u:Nat)(was:zci)(NW:List Cl)(SW:Cl)(x:Ego):Mem:=[bxv 1 4 (zch x),bx 1 [.ptr 2 0 0 0],bxv u 26 (jC m r len ps (.slice 3 vs.length 10 0 vs.length none) (zG was) NW SW),zPQ vs]
abbrev zMc:Cl:=.fn zKC [] [.ptr 0 0 0 0,.ptr 1 0 0 0]
theorem zN2(m:zD)(r:List Int)(len:Int)(hlen:0<=len/\len<=100000)(ps:List Pss)(vs:List Vis)(u:Nat)(was:zci)(NW:List Cl)(SW:Cl)(hO:zKq NW SW)(x:Ego)(hx:0<=x.slo/\x.slo<=1000000000000000)(v:Vis) :
  R L Cs zKC [.a (zJ1 v),.c (.ptr 0 0 0 0),.c (.ptr 1 0 0 0)] (zMj m r len ps vs u was NW SW x)=some (.w (Bo (zOS len x v)),zMj m r len ps vs u was NW SW x):=by
 rcases hO with⟨rfl,rfl⟩ |⟨k0,x0,rfl,rfl⟩
 all_goals
  have w1:=ku (x.slo-len);rw[zUa zLm rfl];unfold zOS;by_cases c1:v.first.lo<=x.shi<;>by_cases c2:x.slo-len<=v.last.hi<;>simp[zHQ,zMj,zch,zJ1,jC,zox,zh,zi,zf,zG,c1,c2,w1,zg,zH,own]
theorem zM0(m:zD)(r:List Int)(len:Int)(hlen:0<=len/\len<=100000)(ps:List Pss)(vs:List Vis)(hvl:vs.length<=100)(u:Nat)(was:zci)(NW:List Cl)(SW:Cl)(hO:zKq NW SW)(x:Ego)(hx:0<=x.slo/\x.slo<=1000000000000000) :
  R L Cs zKe [.c (.jc (zKt vs)),.c zMc] (zMj m r len ps vs u was NW SW x)=some (.w (Bo (vs.any (zOS len x))),zMj m r len ps vs u was NW SW x):=by
 have key:=zOy vs (by omega) zMc (zOS len x) (zMj m r len ps vs u was NW SW x) (fun v _=>by
  have h:=zN2 m r len hlen ps vs u was NW SW hO x hx v;rcases hO with⟨rfl,rfl⟩ |⟨k0,x0,rfl,rfl⟩<;>simp only[zMj,zch,zJ1,jC,zox,zh,zi,zf,zG,own,zJZ,jp,jk]at h<;>simp[h,zMj,zch,zJ1,jC,zox,zh,zi,zf,zG,own])
 obtain⟨k,h1,h2⟩:=key;rw[zUa zKf rfl];rcases hO with⟨rfl,rfl⟩ |⟨k0,x0,rfl,rfl⟩<;>simp only[zMj,zch,jC,zox,zh,zi,zf,zG,own,zJZ,jp,jk]at h1<;>simp[zHs,h1,h2,zMj,zch,jC,zox,zh,zi,zf,zG,own]
def zLQ(len:Int)(vs:List Vis)(was:zci):Bool:=decide (was.ego.vhi=0) && !vs.any (zOS len was.ego)
theorem zNF(m:zD)(r:List Int)(len:Int)(hlen:0<=len/\len<=100000)(ps:List Pss)(vs:List Vis)(hvl:vs.length<=100)(u:Nat)(was:zci)(NW:List Cl)(SW:Cl)(hO:zKq NW SW)(hx:0<=was.ego.slo/\was.ego.slo<=1000000000000000) :
  R L Cs zLC [J0] (zJ3 m r len ps vs u (zG was) NW SW)=some (.w (Bo (zLQ len vs was)),zJ3 m r len ps vs u (zG was) NW SW):=by
 have hC:=zM0 m r len hlen ps vs hvl u was NW SW hO was.ego hx;unfold zLQ;rcases hO with⟨rfl,rfl⟩ |⟨k0,x0,rfl,rfl⟩
 ·by_cases c:was.ego.vhi=0
  ·have cb:(was.ego.vhi==0)=true:=by simp[c]
   have ce:(was.ego.vhi=0)=True:=eq_true c;rw[zUa zKo rfl];by_cases h0:vs=[]
   ·subst h0;have hI:∀(fnv:Cl) (M:Mem),Y L Cs zHq (some [7,1,0,8]) M.length [(7,.w (W 0)),(1,.w (.c fnv)),(0,.w (.c (.jc []))),(8,.w (W 0))] M=some (.exit 0,[(9,.w (Bo false)),(0,.w (.c (.jc []))),(1,.w (.c fnv)),(7,.w (W 0)),(8,.w (W 0))],M):=by
     intro fnv M;rw[ZfM zHq.eq_1];simp
    have hC0:R L Cs zKe [.c (.jc []),.c zMc] [bxv 1 4 (zch was.ego),bx 1 [.ptr 2 0 0 0],bxv u 26 (jC m r len ps .jd (zG was) zox .jd)]=some (.w (Bo false),[bxv 1 4 (zch was.ego),bx 1 [.ptr 2 0 0 0],bxv u 26 (jC m r len ps .jd (zG was) zox .jd)]):=by
     have h1:R L Cs zKm [.c (.jc []),.c zMc] [bxv 1 4 (zch was.ego),bx 1 [.ptr 2 0 0 0],bxv u 26 (jC m r len ps .jd (zG was) zox .jd)]=some (.w (W (-1)),[bxv 1 4 (zch was.ego),bx 1 [.ptr 2 0 0 0],bxv u 26 (jC m r len ps .jd (zG was) zox .jd)]):=by
      have h2:=hI zMc [bxv 1 4 (zch was.ego),bx 1 [.ptr 2 0 0 0],bxv u 26 (jC m r len ps .jd (zG was) zox .jd)];simp only[zch,jC,zh,zi,zf,zox,zG,jm,js,jp,jk]at h2;rw[zUa zKb rfl];simp[zHF,zch,jC,zh,zi,zf,zox,zG,h2]
     rw[zUa zKf rfl];simp only[zch,jC,zh,zi,zf,zox,zG,jp,jk]at h1;simp[zHs,h1,zch,jC,zh,zi,zf,zox,zG]
    simp only[zch,jC,zh,zi,zf,zox,zG,jp,jk]at hC0;simp[zH3,zJ3,jC,zh,zi,zf,zox,zG,zch,cb,ce,hC0,zg,zH,own,zX]
   ·simp only[zMj,zPQ,zch,jC,zh,zi,zf,zox,zG,own,zJZ,jp,jk]at hC;simp[zH3,zJ3,h0,jC,zh,zi,zf,zox,zG,zch,cb,ce,hC,zg,zH,own,zX]
  ·have cb:(was.ego.vhi==0)=false:=by simp[c]
   rw[zUa zKo rfl];by_cases h0:vs=[]<;>simp[zH3,zJ3,h0,jC,zh,zi,zf,zox,zG,zch,c,cb,zg,zH,own]
 ·by_cases c:was.ego.vhi=0
  ·have cb:(was.ego.vhi==0)=true:=by simp[c]
   have ce:(was.ego.vhi=0)=True:=eq_true c;rw[zUa zKo rfl];by_cases h0:vs=[]
   ·subst h0;have hI:∀(fnv:Cl) (M:Mem),Y L Cs zHq (some [7,1,0,8]) M.length [(7,.w (W 0)),(1,.w (.c fnv)),(0,.w (.c (.jc []))),(8,.w (W 0))] M=some (.exit 0,[(9,.w (Bo false)),(0,.w (.c (.jc []))),(1,.w (.c fnv)),(7,.w (W 0)),(8,.w (W 0))],M):=by
     intro fnv M;rw[ZfM zHq.eq_1];simp
    have hC0:R L Cs zKe [.c (.jc []),.c zMc] [bxv 1 4 (zch was.ego),bx 1 [.ptr 2 0 0 0],bxv u 26 (jC m r len ps .jd (zG was) (zG k0) (.jc x0))]=some (.w (Bo false),[bxv 1 4 (zch was.ego),bx 1 [.ptr 2 0 0 0],bxv u 26 (jC m r len ps .jd (zG was) (zG k0) (.jc x0))]):=by
     have h1:R L Cs zKm [.c (.jc []),.c zMc] [bxv 1 4 (zch was.ego),bx 1 [.ptr 2 0 0 0],bxv u 26 (jC m r len ps .jd (zG was) (zG k0) (.jc x0))]=some (.w (W (-1)),[bxv 1 4 (zch was.ego),bx 1 [.ptr 2 0 0 0],bxv u 26 (jC m r len ps .jd (zG was) (zG k0) (.jc x0))]):=by
      have h2:=hI zMc [bxv 1 4 (zch was.ego),bx 1 [.ptr 2 0 0 0],bxv u 26 (jC m r len ps .jd (zG was) (zG k0) (.jc x0))];simp only[zch,jC,zh,zi,zf,zox,zG,jm,js,jp,jk]at h2;rw[zUa zKb rfl];simp[zHF,zch,jC,zh,zi,zf,zox,zG,h2]
     rw[zUa zKf rfl];simp only[zch,jC,zh,zi,zf,zox,zG,jp,jk]at h1;simp[zHs,h1,zch,jC,zh,zi,zf,zox,zG]
    simp only[zch,jC,zh,zi,zf,zox,zG,jp,jk]at hC0;simp[zH3,zJ3,jC,zh,zi,zf,zox,zG,zch,cb,ce,hC0,zg,zH,own,zX]
   ·simp only[zMj,zPQ,zch,jC,zh,zi,zf,zox,zG,own,zJZ,jp,jk]at hC;simp[zH3,zJ3,h0,jC,zh,zi,zf,zox,zG,zch,cb,ce,hC,zg,zH,own,zX]
  ·have cb:(was.ego.vhi==0)=false:=by simp[c]
   rw[zUa zKo rfl];by_cases h0:vs=[]<;>simp[zH3,zJ3,h0,jC,zh,zi,zf,zox,zG,zch,c,cb,zg,zH,own]
abbrev jmA(m:zD)(r:List Int)(len:Int)(ps:List Pss)(vs:List Vis)(u:Nat)(was NW:List Cl)(SW:Cl):Mem:=[bxv u 26 (jC m r len ps (.slice 1 vs.length 10 0 vs.length none) was NW SW),some (own 10 (zKt vs))]
abbrev jmB(m:zD)(r:List Int)(len:Int)(ps:List Pss)(vs:List Vis)(u:Nat)(was NW:List Cl)(SW:Cl):Mem:=[bxv u 26 (jC m r len ps .jd was NW SW)]
abbrev jmG(qq:Nat)(m:zD)(r:List Int)(len:Int)(ps:List Pss)(vs:List Vis)(u:Nat)(was NW:List Cl)(SW:Cl):Mem:=if qq=0 then jmB m r len ps vs u was NW SW else jmA m r len ps vs u was NW SW
theorem zVV(m:zD)(r:List Int)(len:Int)(ps:List Pss)(vs:List Vis)(qq:Nat)(hq0:qq=0/\vs=[]\/qq=1/\vs≠[])(u:Nat)(k k0:zci)(NW:List Cl)(SW:Cl)(hSW:zKq NW SW)(jL:List Int)(signals:Bool) :
  R L Cs zKZ [J0,.a (zG k),.a [.jc (zu jL)],Bo signals] (jmG qq m r len ps vs u (zG k0) NW SW)=some (.w (.c (.fn zJ8 [] [.ptr (qq+1) 0 0 0,.ptr (qq+2) 0 0 0,.ptr (qq+3) 0 0 0,.ptr (qq+4) 0 0 0])),jmG qq m r len ps vs u (zG k0) NW SW++[bx 1 [.jc (zu jL)],bx 1 [.ptr 0 0 0 0],bx 6 (zG k),bx 1 [.bool signals]]):=by
 rw[zUa zK4 rfl];rcases hq0 with⟨rfl,-⟩ |⟨rfl,-⟩<;>rcases hSW with⟨rfl,rfl⟩ |⟨k1,x,rfl,rfl⟩<;>simp[zIc,jmG,jmA,jmB,jC,zox,zh,zi,zf,zG,zJY,own,zg,zH,List.range,List.range.loop]
theorem zVT{m:zD}{zs:List Zon}{ss:List Sgn}(hF:zKj m zs ss){r:List Int}(hr:zdA m r=0)(len:Int)(hlen:0<=len/\len<=20000)(ps:List Pss)(hp:ps.length<=1000)(vs:List Vis)(qq:Nat)(hq0:qq=0/\vs=[]\/qq=1/\vs≠[])(hvl:vs.length<=100)(hvo:∀v∈vs,zKN zs v)(signals:Bool)(jL:List Int)(hin:∀a∈jL,zk0 a)(hal:jL.length<=500)(u:Nat)(k:zci)(NW:List Cl)(SW:Cl)(hk:KJ m k)(ht:0<=k.tick/\k.tick<=1099511627776)(hSW:zKq NW SW)(hne:jL≠[]) :
  ∃gv' u' w' NW' SW' kv' kk,zOP NW' SW'/\(gv'≠0/\u<u'/\w'≠1/\(kv'=0->kk=k))/\R L Cs zJ8 [.c (.yld 0 zJ0 rsh),Pt (qq+5),Pt (qq+6),Pt (qq+7),Pt (qq+8)] (zVG qq m r len ps vs 0 0 u k NW SW 1 0 0 (zJY false 0 0) jL 0 k signals) =
   some (.t [],match (zKr m zs ss r len ps vs signals jL 0 k).1 with
    |none=>zVG qq m r len ps vs 0 gv' u' (zKr m zs ss r len ps vs signals jL 0 k).2 NW' SW' w' jL.length 0 (zJY false 0 0) jL kv' kk signals
    |some (at',why)=>zVG qq m r len ps vs 2 gv' u' (zKr m zs ss r len ps vs signals jL 0 k).2 NW' SW' w' at' 1 (zJY false at' why) jL kv' kk signals):=by
 have g:=zVU hF hr len hlen ps hp vs qq hq0 hvl hvo signals jL hin hal jL 0 0 u 1 k NW SW 0 rfl (jD _) hk (by omega) hSW;generalize zKr m zs ss r len ps vs signals jL 0 k=V at *;obtain⟨V1,kf⟩:=V;have hlp:=kj.2 hne;cases V1 with
 |none =>
  obtain⟨gv',u',w',NW',SW',kv',hO,⟨q1,q2,q3,q4,q5⟩,g⟩:=g;have hO:=q5.resolve_right fun q=>hne q.1
  refine⟨gv',u',w',NW',SW',kv',kf,hO,⟨by omega,by omega,by omega,fun e=>q4.elim (fun q=>q.2) fun q=>by omega⟩,?_⟩;clear q1 q2 q3 q4 q5;rw[zUa zKl rfl];rcases hq0 with⟨rfl,-⟩ |⟨rfl,-⟩<;>rcases hSW with⟨rfl,rfl⟩ |⟨k0,x,rfl,rfl⟩<;>obtain⟨k1,x1,rfl,rfl⟩:=hO<;>simp only[jS,↓reduceIte,jH,Nat.reduceAdd,zVK,zVG,rdG,rdA,rdB,jC,zox,zh,zi,zf,zG,zJY,own,zJZ,jp,jk,jg]at g<;>simp (maxSteps:=1000000) [zHZ,zVK,zVG,rdG,rdA,rdB,jC,zox,zh,zi,zf,zG,zJY,own,g,zg,zH,List.range,List.range.loop]
 |some y =>
  obtain⟨at',why⟩:=y;obtain⟨gv',u',w',NW',SW',kv',kk,X,E,hO,⟨q1,q2,q3,q4,hO⟩,g⟩:=g;refine⟨gv',u',w',NW',SW',kv',kk,hO,⟨by omega,by omega,by omega,fun e=>q4.elim (fun q=>q.2) fun q=>by omega⟩,?_⟩;clear q1 q2 q3 q4;rw[zUa zKl rfl];rcases hq0 with⟨rfl,-⟩ |⟨rfl,-⟩<;>rcases hSW with⟨rfl,rfl⟩ |⟨k0,x,rfl,rfl⟩<;>obtain⟨k1,x1,rfl,rfl⟩:=hO<;>simp only[jS,↓reduceIte,jH,Nat.reduceAdd,zVK,zVG,rdG,rdA,rdB,jC,zox,zh,zi,zf,zG,zJY,own,zJZ,jp,jk,jg]at g<;>simp (maxSteps:=1000000) [zHZ,zVK,zVG,rdG,rdA,rdB,jC,zox,zh,zi,zf,zG,zJY,own,g,zg,zH,List.range,List.range.loop]
theorem zN8{m:zD}{zs:List Zon}{ss:List Sgn}(hF:zKj m zs ss){r:List Int}(hr:zdA m r=0)(len:Int)(ps:List Pss)(vs:List Vis)(signals:Bool):∀(t:List Int) (i:Nat) (k:zci),KJ m k->KJ m (zKr m zs ss r len ps vs signals t i k).2:=by
 have hf:=hF.full;have h:=hf.qe;obtain⟨hon,hne,hl8⟩:=zg1 h hr;have hEb:=zFu h r hl8 hon;intro t;induction t with
 |nil=>intro i k hk;exact hk
 |cons a t ih =>
  intro i k hk;unfold zKr;split
  ·rename_i c;exact ih _ _ (zNm hf hr len signals hk a (by have:=zNe c;omega))
  ·exact hk
def zLH(len:Int)(vs:List Vis)(jL:List Int)(V:Option (Nat×Int)×zci):Bool×Int×Int:=match V.1 with
 |none=>if zLQ len vs V.2 then(true,0,0) else(false,jL.length,7)
 |some (at',why)=>(false,at',why)
def zJ4(x:Bool×Int×Int):List Cl:=zJY x.1 x.2.1 x.2.2
def zMo(WAS:List Cl):Prop:=WAS=zox\/∃k0,WAS=zG k0
theorem zVS{m:zD}{zs:List Zon}{ss:List Sgn}(hF:zKj m zs ss){r:List Int}(hr:zdA m r=0)(len:Int)(hlen:0<=len/\len<=20000)(ps:List Pss)(hp:ps.length<=1000)(vs:List Vis)(qq:Nat)(hq0:qq=0/\vs=[]\/qq=1/\vs≠[])(hvl:vs.length<=100)(hvo:∀v∈vs,zKN zs v)(signals:Bool)(jL:List Int)(hin:∀a∈jL,zk0 a)(hal:jL.length<=500)(u:Nat)(k:zci)(WAS NW:List Cl)(SW:Cl)(hk:KJ m k)(ht:0<=k.tick/\k.tick<=1099511627776)(hW:zMo WAS)(hSW:zKq NW SW)(hne0:jL≠[]) :
  ∃u' NW' SW',zKq NW' SW'/\u'≠u/\R L Cs zKM [J0,.a (zG k),.a [.jc (zu jL)],Bo signals] (jmG qq m r len ps vs u WAS NW SW) =
   some (.w (.a (zJ4 (zLH len vs jL (zKr m zs ss r len ps vs signals jL 0 k)))),jmG qq m r len ps vs u' (zG (zKr m zs ss r len ps vs signals jL 0 k).2) NW' SW'):=by
 obtain⟨gv',u',w',NW',SW',kv',kk,hO,⟨q1,q20,q3,q4⟩,g⟩:=zVT hF hr len hlen ps hp vs qq hq0 hvl hvo signals jL hin hal (u+1) k NW SW hk ht hSW hne0;have hA:=zVV m r len ps vs qq hq0 (u+1) k k NW SW hSW jL signals;have hkf:=zN8 hF hr len ps vs signals jL 0 k hk;have hST:=zNF m r len (by omega) ps vs hvl u' (zKr m zs ss r len ps vs signals jL 0 k).2 NW' SW' (.inr hO) (by have:=hkf.ego.s;omega);have q6:(kv'=0/\kk=k)\/¬kv'=0:=(Classical.em (kv'=0)).imp (fun e=>⟨e,q4 e⟩) id;have hne:¬(zJ0=zJ8):=by decide
 have q2:u'≠u+1:=by omega
 refine⟨u',NW',SW',.inr hO,by omega,?_⟩;clear hkf;generalize zKr m zs ss r len ps vs signals jL 0 k=V at *;obtain⟨V1,kf⟩:=V;rw[zUa zKO rfl];cases V1 with
 |none =>
  rw[zJ3,zVW hq0]at hST;cases hq:zLQ len vs kf with
  |true =>
   rw[hq]at hST;rcases hq0 with⟨rfl,-⟩ |⟨rfl,-⟩<;>rcases hW with rfl |⟨kw,rfl⟩<;>rcases hSW with⟨rfl,rfl⟩ |⟨k0,x,rfl,rfl⟩<;>obtain⟨k1,x1,rfl,rfl⟩:=hO<;>rcases q6 with⟨c4,rfl⟩|c4<;>simp only[jS,↓reduceIte,jH,Nat.reduceAdd,rdG,rdA,rdB,jC,zox,zh,zi,zf,zG,zJY,own,zJZ,jp,jk,jg,jmG,jmA,jmB,zVG,rsh]at g hA hST<;>simp (maxSteps:=1000000) [zH2,jmG,jmA,jmB,zVG,rdG,rdA,rdB,jC,zox,zh,zi,zf,zG,zJY,own,zJ4,zLH,zNb,zeN,ghost,znr,zsR,Eng.jU,hne,zg,zH,List.range,List.range.loop,rsh,g,q1,q2,q3,c4,hA,hq,hST]
  |false =>
   rw[hq]at hST;rcases hq0 with⟨rfl,-⟩ |⟨rfl,-⟩<;>rcases hW with rfl |⟨kw,rfl⟩<;>rcases hSW with⟨rfl,rfl⟩ |⟨k0,x,rfl,rfl⟩<;>obtain⟨k1,x1,rfl,rfl⟩:=hO<;>rcases q6 with⟨c4,rfl⟩|c4<;>simp only[jS,↓reduceIte,jH,Nat.reduceAdd,rdG,rdA,rdB,jC,zox,zh,zi,zf,zG,zJY,own,zJZ,jp,jk,jg,jmG,jmA,jmB,zVG,rsh]at g hA hST<;>simp (maxSteps:=1000000) [zH2,jmG,jmA,jmB,zVG,rdG,rdA,rdB,jC,zox,zh,zi,zf,zG,zJY,own,zJ4,zLH,zNb,zeN,ghost,znr,zsR,Eng.jU,hne,zg,zH,List.range,List.range.loop,rsh,g,q1,q2,q3,c4,hA,hq,hST]
 |some y =>
  obtain⟨at',why⟩:=y;clear hST;rcases hq0 with⟨rfl,-⟩ |⟨rfl,-⟩<;>rcases hW with rfl |⟨kw,rfl⟩<;>rcases hSW with⟨rfl,rfl⟩ |⟨k0,x,rfl,rfl⟩<;>obtain⟨k1,x1,rfl,rfl⟩:=hO<;>rcases q6 with⟨c4,rfl⟩|c4<;>simp only[jS,↓reduceIte,jH,Nat.reduceAdd,rdG,rdA,rdB,jC,zox,zh,zi,zf,zG,zJY,own,zJZ,jp,jk,jg,jmG,jmA,jmB,zVG,rsh]at g hA<;>simp (maxSteps:=1000000) [zH2,jmG,jmA,jmB,zVG,rdG,rdA,rdB,jC,zox,zh,zi,zf,zG,zJY,own,zJ4,zLH,zNb,zeN,ghost,znr,zsR,Eng.jU,hne,zg,zH,List.range,List.range.loop,rsh,g,q1,q2,q3,c4,hA]
abbrev zVM(qq:Nat)(jL:List Int)(i:Nat):Env:=[(13,.w (W i)),(12,.w (W jL.length)),(11,.w (.c (.jc (zu jL)))),(4,.w (Pt (qq+1))),(0,.w J0)]
abbrev zVI(qq:Nat)(m:zD)(r:List Int)(len:Int)(ps:List Pss)(vs:List Vis)(u:Nat)(was NW:List Cl)(SW:Cl)(v:Nat)(k:zci)(jL:List Int):Mem:=jmG qq m r len ps vs u was NW SW++[bxv v 6 (zG k),bx 1 [.jc (zu jL)]]
theorem zVO{m:zD}(h:zcp m){r:List Int}(hr:zdA m r=0)(len:Int)(ps:List Pss)(vs:List Vis)(qq:Nat)(hq0:qq=0/\vs=[]\/qq=1/\vs≠[])(u:Nat)(was:zci)(NW:List Cl)(SW:Cl)(hSW:zKq NW SW)(jL:List Int)(hin:∀a∈jL,zk0 a)(hal:jL.length<=500)(bs:List zk):∀(t:List Int) (i v:Nat) (tk:Int) (e:Ego),jL.drop i=t->i<=jL.length->znd e->0<=tk/\tk<=1099511627776 ->
  (fbF m r t tk e=none->∃v' k' E T,(T=[]\/∃e2,T=[bxv 1 4 (zch e2)])/\Y L Cs zIC (some [13,12,11,4,0]) (qq+3) (zVM qq jL i) (zVI qq m r len ps vs u (zG was) NW SW v ⟨tk,bs,e⟩ jL)=some (.exit 0,E,zVI qq m r len ps vs u (zG was) NW SW v' k' jL++T)) /\
  (fbF m r t tk e≠none->∃v' k' e2,Y L Cs zIC (some [13,12,11,4,0]) (qq+3) (zVM qq jL i) (zVI qq m r len ps vs u (zG was) NW SW v ⟨tk,bs,e⟩ jL)=some (.ret,[(6,.w (Bo false))],zVI qq m r len ps vs u (zG was) NW SW v' k' jL++[bxv 1 4 (zch e2)])):=by
 obtain⟨hon,hne,hl8⟩:=zg1 h hr;have hEb:=zFu h r hl8 hon;intro t;induction t with
 |nil =>
  intro i v tk e hd hi he ht;obtain rfl:=zUb hd hi;refine⟨fun _=>⟨v,⟨tk,bs,e⟩,[(14,.w (Bo false)),(13,.w (W jL.length)),(12,.w (W jL.length)),(11,.w (.c (.jc (zu jL)))),(4,.w (Pt (qq+1))),(0,.w J0)],[],.inl rfl,?_⟩,fun hq=>absurd rfl hq⟩;rw[ZfM zIC.eq_1];simp
 |cons a t ih =>
  intro i v tk e hd hi he ht;obtain⟨hil,ha,hd'⟩:=zL hd;have hw:=zB (i:=i) (by omega);have hD:R L Cs zgW [.a (zh m r len),.a (zch e),W a] []=some (.w (.a (zch (zaN m r e a))),[]):=by
   obtain⟨x0,r',rfl⟩:∃x r',r=x::r':=by cases r with|nil=>exact absurd rfl hne|cons x r'=>exact⟨x,r',rfl⟩
   exact zvQ h x0 r' len (hon x0 (ju ..)) e he a (hin a (by rw[<-ha];exact ja hil))
  have hd2:=zLs h hr he a;unfold fbF;have w2:tk<1099511627776->IntKind.i64.wrap (tk+1)=tk+1:=fun q=>zTd _ (by omega) (by omega)
  by_cases c:zV2 m r tk e a
  ·rw[if_pos c];refine⟨fun q=>(by cases q),fun _=>?_⟩;clear ih;unfold zV2 at c;generalize zaN m r e a=x at *;refine⟨v,⟨tk,bs,e⟩,x,?_⟩;by_cases c1:1099511627776<=tk
   ·rw[ZfM zIC.eq_1];rcases hq0 with⟨rfl,-⟩ |⟨rfl,-⟩<;>rcases hSW with⟨rfl,rfl⟩ |⟨k0,y,rfl,rfl⟩<;>simp only[jS,↓reduceIte,jH,Nat.reduceAdd,zh,zi,zf,zch,jp,jk]at hD<;>simp (maxSteps:=1000000) [zVM,zVI,jmG,jmA,jmB,jC,zox,zh,zi,zf,zG,own,zch,hil,ha,hw,hD,c1,zg,zH]
   ·have c2:1099511627776<x.shi:=c.resolve_left c1;rw[ZfM zIC.eq_1];rcases hq0 with⟨rfl,-⟩ |⟨rfl,-⟩<;>rcases hSW with⟨rfl,rfl⟩ |⟨k0,y,rfl,rfl⟩<;>simp only[jS,↓reduceIte,jH,Nat.reduceAdd,zh,zi,zf,zch,jp,jk]at hD<;>simp (maxSteps:=1000000) [zVM,zVI,jmG,jmA,jmB,jC,zox,zh,zi,zf,zG,own,zch,hil,ha,hw,hD,c1,c2,zg,zH]
  ·rw[if_neg c];unfold zV2 at c;have c1:¬1099511627776<=tk:=fun q=>c (.inl q)
   have c2:¬1099511627776<(zaN m r e a).shi:=fun q=>c (.inr q)
   by_cases d:zmd m 0 r<(zaN m r e a).shi
   ·rw[if_pos d];refine⟨fun _=>?_,fun q=>absurd rfl q⟩;clear ih;generalize zaN m r e a=x at *;refine⟨v,⟨tk,bs,e⟩,[(40,.w (Bo true)),(0,.w J0),(4,.w (Pt (qq+1))),(11,.w (.c (.jc (zu jL)))),(12,.w (W jL.length)),(13,.w (W i)),(9,.w (Pt (qq+3)))],[bxv 1 4 (zch x)],.inr ⟨x,rfl⟩,?_⟩;rw[ZfM zIC.eq_1];rcases hq0 with⟨rfl,-⟩ |⟨rfl,-⟩<;>rcases hSW with⟨rfl,rfl⟩ |⟨k0,y,rfl,rfl⟩<;>simp only[jS,↓reduceIte,jH,Nat.reduceAdd,zh,zi,zf,zch,jp,jk]at hD<;>simp (maxSteps:=1000000) [zVM,zVI,jmG,jmA,jmB,jC,zox,zh,zi,zf,zG,own,zch,hil,ha,hw,hD,c1,c2,d,zg,zH]
   ·rw[if_neg d];obtain⟨i1,i2⟩:=ih (i+1) (v+1+1) (tk+1) (zaN m r e a) hd' hil ⟨⟨hd2.1,hd2.2.1,by omega⟩,⟨hd2.2.2.2.1,hd2.2.2.2.2.1,hd2.2.2.2.2.2⟩⟩ (by omega);have step:Y L Cs zIC (some [13,12,11,4,0]) (qq+3) (zVM qq jL i) (zVI qq m r len ps vs u (zG was) NW SW v ⟨tk,bs,e⟩ jL)=Y L Cs zIC (some [13,12,11,4,0]) (qq+3) (zVM qq jL (i+1)) (zVI qq m r len ps vs u (zG was) NW SW (v+1+1) ⟨tk+1,bs,zaN m r e a⟩ jL):=by
     clear ih i1 i2;have w3:=w2 (by omega);generalize zaN m r e a=x at *;rw[ZfM zIC.eq_1];rcases hq0 with⟨rfl,-⟩ |⟨rfl,-⟩<;>rcases hSW with⟨rfl,rfl⟩ |⟨k0,y,rfl,rfl⟩<;>simp only[jS,↓reduceIte,jH,Nat.reduceAdd,zh,zi,zf,zch,jp,jk]at hD<;>simp (maxSteps:=1000000) [zVM,zVI,jmG,jmA,jmB,jC,zox,zh,zi,zf,zG,own,zch,hil,ha,hw,hD,c1,c2,d,w3,zg,zH]
    rw[step];cases hq:fbF m r t (tk+1) (zaN m r e a)with
    |none=>exact⟨fun _=>i1 hq,fun q=>absurd rfl q⟩
    |some b=>exact⟨fun q=>(by cases q),fun _=>i2 (by rw[hq];simp)⟩
theorem zVL{m:zD}(h:zcp m){r:List Int}(hr:zdA m r=0)(len:Int)(ps:List Pss)(vs:List Vis)(qq:Nat)(hq0:qq=0/\vs=[]\/qq=1/\vs≠[])(u:Nat)(was:zci)(NW:List Cl)(SW:Cl)(hSW:zKq NW SW)(jL:List Int)(hin:∀a∈jL,zk0 a)(hal:jL.length<=500)(k:zci)(he:znd k.ego)(ht:0<=k.tick/\k.tick<=1099511627776) :
  R L Cs zLY [J0,.a (zG k),.a [.jc (zu jL)]] (jmG qq m r len ps vs u (zG was) NW SW)=some (.w (Bo (fbF m r jL k.tick k.ego).isNone),jmG qq m r len ps vs u (zG was) NW SW):=by
 obtain⟨g1,g2⟩:=zVO h hr len ps vs qq hq0 u was NW SW hSW jL hin hal k.jV jL 0 0 k.tick k.ego rfl (jD _) he ht;rw[zUa zL1 rfl];cases hq:fbF m r jL k.tick k.ego with
 |none =>
  obtain⟨v',k',E,T,hT,g⟩:=g1 hq;clear g1 g2;rcases hq0 with⟨rfl,-⟩ |⟨rfl,-⟩<;>rcases hSW with⟨rfl,rfl⟩ |⟨k0,y,rfl,rfl⟩<;>rcases hT with rfl |⟨e2,rfl⟩<;>simp only[jS,↓reduceIte,jH,Nat.reduceAdd,zVM,zVI,jmG,jmA,jmB,jC,zox,zh,zi,zf,zG,own,zch,zJZ,jp,jk,kN,jg]at g<;>simp (maxSteps:=1000000) [zIU,jmG,jmA,jmB,jC,zox,zh,zi,zf,zG,own,zch,g,zg,zH]
 |some b =>
  obtain⟨v',k',e2,g⟩:=g2 (by rw[hq];simp);clear g1 g2;rcases hq0 with⟨rfl,-⟩ |⟨rfl,-⟩<;>rcases hSW with⟨rfl,rfl⟩ |⟨k0,y,rfl,rfl⟩<;>simp only[jS,↓reduceIte,jH,Nat.reduceAdd,zVM,zVI,jmG,jmA,jmB,jC,zox,zh,zi,zf,zG,own,zch,zJZ,jp,jk,kN,jg]at g<;>simp (maxSteps:=1000000) [zIU,jmG,jmA,jmB,jC,zox,zh,zi,zf,zG,own,zch,g,zg,zH]
abbrev zVN(qq:Nat)(jL:List Int)(i:Nat):Env:=[(24,.w (W i)),(23,.w (W jL.length)),(5,.w (Pt (qq+1))),(6,.w (Pt (qq+2))),(0,.w J0),(9,.w (Pt (qq+4))),(8,.w (Pt (qq+3)))]
abbrev zVJ(qq:Nat)(m:zD)(r:List Int)(len:Int)(ps:List Pss)(vs:List Vis)(u:Nat)(was NW:List Cl)(SW:Cl)(k:zci)(jL:List Int)(v:Nat)(y:Bool×Int×Int)(x:Bool×Int×Int):Mem:=jmG qq m r len ps vs u was NW SW++[bx 6 (zG k),bx 1 [.jc (zu jL)],bxv v 3 (zJ4 y),bxv 1 3 (zJ4 x)]
theorem zVP{m:zD}(h:zcp m){r:List Int}(hr:zdA m r=0)(len:Int)(ps:List Pss)(vs:List Vis)(qq:Nat)(hq0:qq=0/\vs=[]\/qq=1/\vs≠[])(u:Nat)(was:zci)(NW:List Cl)(SW:Cl)(hSW:zKq NW SW)(jL:List Int)(hin:∀a∈jL,zk0 a)(hal:jL.length<=500)(k:zci)(he:znd k.ego)(ht:0<=k.tick/\k.tick<=1099511627776)(x:Bool×Int×Int)(b:Nat)(hb:fbF m r jL k.tick k.ego=some b):∀(f i:Nat),i+f=b ->
  Y L Cs zHK (some [24,23,5,6,0,9,8]) (qq+5) (zVN qq jL i) (zVJ qq m r len ps vs u (zG was) NW SW k jL 0 (false,0,0) x)=some (.ret,[(8,.w (Pt (qq+3)))],zVJ qq m r len ps vs u (zG was) NW SW k jL 1 (zKX x (some b)) x):=by
 have hbl:=zO8 m r jL _ _ b hb;obtain⟨x1,x2,x3⟩:=x;intro f;induction f with
 |zero =>
  intro i hi;obtain rfl:i=b:=by omega
  have hw:=zB (i:=i) (by omega);have hil:(i:Int)<jL.length:=by omega
  have e1:(0:Int)<=(i:Int)+1:=by omega
  have e2:(i:Int)+1<=jL.length:=by omega
  have e3:i+1<=jL.length:=by omega
  have hS:=zVL h hr len ps vs qq hq0 u was NW SW hSW (jL.take (i+1)) (fun y hy=>hin y (qD hy)) (by simp;omega) k he ht;rw[zLX,hb]at hS;simp only[jS,↓reduceIte,jH,Nat.reduceAdd,ub,Nat.lt_succ_self,if_true,Option.isNone_some]at hS;rw[show zu (jL.take (i+1))=(zu jL).take (i+1) from by simp[zu,yX]]at hS;unfold zKX;rw[ZfM zHK.eq_1];by_cases c1:0<x2
  ·by_cases c2:x2<=(i:Int)
   ·by_cases c3:x3=7
    ·have cb:(x3 !=7)=false:=by simp[c3]
     have cb2:(x3==7)=true:=by simp[c3]
     rcases hq0 with⟨rfl,-⟩ |⟨rfl,-⟩<;>rcases hSW with⟨rfl,rfl⟩ |⟨k0,z,rfl,rfl⟩<;>simp only[jS,↓reduceIte,jH,Nat.reduceAdd,jmG,jmA,jmB,jC,zox,zh,zi,zf,zG,own,zJY,zJ4,zJZ,jp,jk]at hS<;>simp (maxSteps:=1000000) [zVN,zVJ,jmG,jmA,jmB,jC,zox,zh,zi,zf,zG,own,zJY,zJ4,hil,hbl,hw,e1,e2,e3,hS,c1,c2,c3,cb,cb2,zg,zH]
    ·have cb:(x3 !=7)=true:=by simp[c3]
     have cb2:(x3==7)=false:=by simp[c3]
     rcases hq0 with⟨rfl,-⟩ |⟨rfl,-⟩<;>rcases hSW with⟨rfl,rfl⟩ |⟨k0,z,rfl,rfl⟩<;>simp only[jS,↓reduceIte,jH,Nat.reduceAdd,jmG,jmA,jmB,jC,zox,zh,zi,zf,zG,own,zJY,zJ4,zJZ,jp,jk]at hS<;>simp (maxSteps:=1000000) [zVN,zVJ,jmG,jmA,jmB,jC,zox,zh,zi,zf,zG,own,zJY,zJ4,hil,hbl,hw,e1,e2,e3,hS,c1,c2,c3,cb,cb2,zg,zH]
   ·rcases hq0 with⟨rfl,-⟩ |⟨rfl,-⟩<;>rcases hSW with⟨rfl,rfl⟩ |⟨k0,z,rfl,rfl⟩<;>simp only[jS,↓reduceIte,jH,Nat.reduceAdd,jmG,jmA,jmB,jC,zox,zh,zi,zf,zG,own,zJY,zJ4,zJZ,jp,jk]at hS<;>simp (maxSteps:=1000000) [zVN,zVJ,jmG,jmA,jmB,jC,zox,zh,zi,zf,zG,own,zJY,zJ4,hil,hbl,hw,e1,e2,e3,hS,c1,c2,zg,zH]
  ·rcases hq0 with⟨rfl,-⟩ |⟨rfl,-⟩<;>rcases hSW with⟨rfl,rfl⟩ |⟨k0,z,rfl,rfl⟩<;>simp only[jS,↓reduceIte,jH,Nat.reduceAdd,jmG,jmA,jmB,jC,zox,zh,zi,zf,zG,own,zJY,zJ4,zJZ,jp,jk]at hS<;>simp (maxSteps:=1000000) [zVN,zVJ,jmG,jmA,jmB,jC,zox,zh,zi,zf,zG,own,zJY,zJ4,hil,hbl,hw,e1,e2,e3,hS,c1,zg,zH]
 |succ f ih =>
  intro i hi;have hw:=zB (i:=i) (by omega);have hil:(i:Int)<jL.length:=by omega
  have e1:(0:Int)<=(i:Int)+1:=by omega
  have e2:(i:Int)+1<=jL.length:=by omega
  have e3:i+1<=jL.length:=by omega
  have BD:i<jL.length:=by omega
  have hS:=zVL h hr len ps vs qq hq0 u was NW SW hSW (jL.take (i+1)) (fun y hy=>hin y (qD hy)) (by simp;omega) k he ht;rw[zLX,hb]at hS;simp only[jS,↓reduceIte,jH,Nat.reduceAdd,ub,show ¬b<i+1 by omega,if_false,Option.isNone_none]at hS;rw[show zu (jL.take (i+1))=(zu jL).take (i+1) from by simp[zu,yX]]at hS;have ih':=ih (i+1) (by omega);clear ih;by_cases cc:0<x2/\x2<=i/\x3≠7
  ·obtain⟨c1,c2,c3⟩:=cc;clear ih';rw[show zKX (x1,x2,x3) (some b)=(x1,x2,x3) from by rw[zKX,if_pos ⟨c1,by show x2<=b;omega,c3⟩]];have cb:(x3 !=7)=true:=by simp[c3]
   have cb2:(x3==7)=false:=by simp[c3]
   rw[ZfM zHK.eq_1];rcases hq0 with⟨rfl,-⟩ |⟨rfl,-⟩<;>rcases hSW with⟨rfl,rfl⟩ |⟨k0,z,rfl,rfl⟩<;>simp only[jS,↓reduceIte,jH,Nat.reduceAdd,jmG,jmA,jmB,jC,zox,zh,zi,zf,zG,own,zJY,zJ4,zJZ,jp,jk]at hS<;>simp (maxSteps:=1000000) [zVN,zVJ,jmG,jmA,jmB,jC,zox,zh,zi,zf,zG,own,zJY,zJ4,hil,BD,hw,e1,e2,e3,hS,c1,c2,c3,cb,cb2,zg,zH]
  ·rw[<-ih'];clear ih';rw[ZfM zHK.eq_1];by_cases c1:0<x2
   ·by_cases c2:x2<=(i:Int)
    ·have c3:x3=7:=Classical.not_not.1 fun q=>cc ⟨c1,c2,q⟩
     have cb:(x3 !=7)=false:=by simp[c3]
     have cb2:(x3==7)=true:=by simp[c3]
     rcases hq0 with⟨rfl,-⟩ |⟨rfl,-⟩<;>rcases hSW with⟨rfl,rfl⟩ |⟨k0,z,rfl,rfl⟩<;>simp only[jS,↓reduceIte,jH,Nat.reduceAdd,jmG,jmA,jmB,jC,zox,zh,zi,zf,zG,own,zJY,zJ4,zJZ,jp,jk]at hS<;>simp (maxSteps:=1000000) [zVN,zVJ,jmG,jmA,jmB,jC,zox,zh,zi,zf,zG,own,zJY,zJ4,hil,BD,hw,e1,e2,e3,hS,c1,c2,c3,cb,cb2,zg,zH]
    ·rcases hq0 with⟨rfl,-⟩ |⟨rfl,-⟩<;>rcases hSW with⟨rfl,rfl⟩ |⟨k0,z,rfl,rfl⟩<;>simp only[jS,↓reduceIte,jH,Nat.reduceAdd,jmG,jmA,jmB,jC,zox,zh,zi,zf,zG,own,zJY,zJ4,zJZ,jp,jk]at hS<;>simp (maxSteps:=1000000) [zVN,zVJ,jmG,jmA,jmB,jC,zox,zh,zi,zf,zG,own,zJY,zJ4,hil,BD,hw,e1,e2,e3,hS,c1,c2,zg,zH]
   ·rcases hq0 with⟨rfl,-⟩ |⟨rfl,-⟩<;>rcases hSW with⟨rfl,rfl⟩ |⟨k0,z,rfl,rfl⟩<;>simp only[jS,↓reduceIte,jH,Nat.reduceAdd,jmG,jmA,jmB,jC,zox,zh,zi,zf,zG,own,zJY,zJ4,zJZ,jp,jk]at hS<;>simp (maxSteps:=1000000) [zVN,zVJ,jmG,jmA,jmB,jC,zox,zh,zi,zf,zG,own,zJY,zJ4,hil,BD,hw,e1,e2,e3,hS,c1,zg,zH]
theorem zVQ{m:zD}{zs:List Zon}{ss:List Sgn}(hF:zKj m zs ss){r:List Int}(hr:zdA m r=0)(len:Int)(hlen:0<=len/\len<=20000)(ps:List Pss)(hp:ps.length<=1000)(vs:List Vis)(qq:Nat)(hq0:qq=0/\vs=[]\/qq=1/\vs≠[])(hvl:vs.length<=100)(hvo:∀v∈vs,zKN zs v)(signals:Bool)(jL:List Int)(hin:∀a∈jL,zk0 a)(hal:jL.length<=500)(u:Nat)(k:zci)(WAS NW:List Cl)(SW:Cl)(hk:KJ m k)(ht:0<=k.tick/\k.tick<=1099511627776)(hW:zMo WAS)(hSW:zKq NW SW)(hne0:jL≠[]) :
  ∃u' WAS' NW' SW',zMo WAS'/\zKq NW' SW'/\u'≠u/\R L Cs zKv [J0,.a (zG k),.a [.jc (zu jL)],Bo signals] (jmG qq m r len ps vs u WAS NW SW) =
   some (.w (.a (zJ4 (zKX (zLH len vs jL (zKr m zs ss r len ps vs signals jL 0 k)) (fbF m r jL k.tick k.ego)))),jmG qq m r len ps vs u' WAS' NW' SW'):=by
 obtain⟨u',NW',SW',hO,hu,hV⟩:=zVS hF hr len hlen ps hp vs qq hq0 hvl hvo signals jL hin hal u k WAS NW SW hk ht hW hSW hne0;have hS:=zVL hF.full.qe hr len ps vs qq hq0 u' (zKr m zs ss r len ps vs signals jL 0 k).2 NW' SW' hO jL hin hal k hk.ego ht;have hL:=zVP hF.full.qe hr len ps vs qq hq0 u' (zKr m zs ss r len ps vs signals jL 0 k).2 NW' SW' hO jL hin hal k hk.ego ht (zLH len vs jL (zKr m zs ss r len ps vs signals jL 0 k));refine⟨u',_,NW',SW',.inr ⟨(zKr m zs ss r len ps vs signals jL 0 k).2,rfl⟩,hO,hu,?_⟩;generalize zLH len vs jL (zKr m zs ss r len ps vs signals jL 0 k)=x at *;generalize (zKr m zs ss r len ps vs signals jL 0 k).2=kf at *;rw[zUa zKI rfl];cases hq:fbF m r jL k.tick k.ego with
 |none =>
  rw[hq]at hS;clear hL;rcases hq0 with⟨rfl,-⟩ |⟨rfl,-⟩<;>rcases hW with rfl |⟨kw,rfl⟩<;>rcases hSW with⟨rfl,rfl⟩ |⟨k0,y,rfl,rfl⟩<;>rcases hO with⟨rfl,rfl⟩ |⟨k1,y1,rfl,rfl⟩<;>simp only[jS,↓reduceIte,jH,Nat.reduceAdd,jmG,jmA,jmB,jC,zox,zh,zi,zf,zG,own,zJY,zJ4,zJZ,jp,jk,Option.isNone_none]at hS hV<;>simp (maxSteps:=1000000) [zHW,zKX,jmG,jmA,jmB,jC,zox,zh,zi,zf,zG,own,zJY,zJ4,hS,hV,hu,zg,zH]
 |some b =>
  rw[hq]at hS;have hL':=hL b hq b 0 (by omega);clear hL;generalize zKX x (some b)=y2 at *;rcases hq0 with⟨rfl,-⟩ |⟨rfl,-⟩<;>rcases hW with rfl |⟨kw,rfl⟩<;>rcases hSW with⟨rfl,rfl⟩ |⟨k0,y,rfl,rfl⟩<;>rcases hO with⟨rfl,rfl⟩ |⟨k1,y1,rfl,rfl⟩<;>simp only[jS,↓reduceIte,jH,Nat.reduceAdd,jmG,jmA,jmB,jC,zox,zh,zi,zf,zG,own,zJY,zJ4,zVN,zVJ,zJZ,jp,jk,Option.isNone_some,jg]at hS hV hL'<;>simp (maxSteps:=1000000) [zHW,jmG,jmA,jmB,jC,zox,zh,zi,zf,zG,own,zJY,zJ4,hS,hV,hL',hu,zg,zH]
end Go.TrRun
/- Plain laws of cars, ramps, stops and profiles: no program in sight. -/
namespace Go.PlanLaw
structure Car where
 len:Int
 qO:Int
 qj:Int
 vQ:Int
 As:Int
def Car.ok(c:Car):Prop:=300<=c.len/\c.len<=20000/\1<=c.qO/\c.qO<=30/\20<=c.qj/\c.qj<=90/\5<=c.vQ/\c.vQ<=120/\0<=c.As/\c.As<=5
instance(c:Car):Decidable c.ok:=by unfold Car.ok;infer_instance
def zVH(c:Car)(x:Int):Int:=max (-c.qj) (min x c.qO)
def zFX(c:Car)(last w:Int):Int:=max (zVH c last-c.vQ) (min (zVH c w) (zVH c last+c.vQ))
def doV(v x:Int):Int:=min (max (v+max (-2000) (min x 2000)) 0) 2000
theorem zG1(v x:Int):0<=doV v x/\doV v x<=2000:=by unfold doV;omega
theorem zG2{c:Car}(h:c.ok)(x:Int):-c.qj<=zVH c x/\zVH c x<=c.qO:=by
 obtain⟨h1,h2,h3,h4,h5,h6,h7,h8,h9,h10⟩:=h;unfold zVH;omega
theorem zNt{c:Car}(h:c.ok)(x w:Int):-c.qj<=zFX c x w/\zFX c x w<=c.qO:=by
 have h1:=zG2 h x;have h2:=zG2 h w;obtain⟨h1,h2,h3,h4,h5,h6,h7,h8,h9,h10⟩:=h;unfold zFX;omega
theorem zG3{c:Car}(h:c.ok){x:Int}(h1:-c.qj<=x)(h2:x<=c.qO):zVH c x=x:=by unfold zVH;omega
def zGI(c:Car):Nat->Bool->Int->Int->Option (List Int)
 |0,_,_,_=>none
 |m+1,f,last,v=>if f=true\/0<v\/0<last then(zGI c m false (zFX c last (-c.qj)) (doV v (zFX c last (-c.qj)))).map (zFX c last (-c.qj) :: ·) else some []
theorem zF7(c:Car)(m:Nat)(f:Bool)(last v:Int):zGI c (m+1) f last v=if(f=true\/0<v\/0<last) then(zGI c m false (zFX c last (-c.qj)) (doV v (zFX c last (-c.qj)))).map (zFX c last (-c.qj) :: ·) else some []:=rfl
theorem zG8(v x:Int)(hv:0<=v/\v<=2000)(hx:-100<=x/\x<=100):doV v x=max 0 (min 2000 (v+x)):=by unfold doV;omega
theorem zGx{c:Car}(h:c.ok)(last:Int):zFX c last (-c.qj)=max (zVH c last-c.vQ) (-c.qj):=by
 obtain⟨h1,h2,h3,h4,h5,h6,h7,h8,h9,h10⟩:=h;unfold zFX zVH;omega
theorem zGM{c:Car}{last:Int}(h:c.ok)(h1:-c.qj<=last)(h2:last<=c.qO):zFX c last (-c.qj)=max (last-c.vQ) (-c.qj):=by
 rw[zGx h last,zG3 h h1 h2]
theorem ends2{c:Car}(h:c.ok):∀(m:Nat) (last v:Int),-c.qj<=last->last<=-20->0<=v->v<=2000->v<=20*m->∃l,zGI c (m+1) false last v=some l/\l.length<=m
 |0,last,v,h1,h2,h3,h4,h5=>⟨[],by
   rw[zF7,if_neg (by simp;omega)],by simp⟩
 |m+1,last,v,h1,h2,h3,h4,h5=>by
  have Bu:=h;obtain⟨q1,q2,q3,q4,q5,q6,q7,q8,q9,q10⟩:=Bu;rw[zF7];split
  ·have hr:=zGM h h1 (by omega:last<=c.qO);have hd:=zG8 v (zFX c last (-c.qj)) ⟨h3,h4⟩ (by omega);obtain⟨l,hl,hn⟩:=ends2 h m (zFX c last (-c.qj)) (doV v (zFX c last (-c.qj))) (by omega) (by omega) (by omega) (by omega) (by omega);exact⟨_::l,by rw[hl];rfl,by simp;omega⟩
  ·exact⟨[],rfl,by simp⟩
theorem ends1{c:Car}(h:c.ok):∀(t:Nat) (last v:Int),-c.qj<=last->last<=c.qO->last<=5*t-20->0<=v->v<=2000->∃l,zGI c (101+t) false last v=some l/\l.length<=100+t
 |0,last,v,h1,h2,h3,h4,h5=>ends2 h 100 last v h1 (by omega) h4 h5 (by omega)
 |t+1,last,v,h1,h2,h3,h4,h5=>by
  have Bu:=h;obtain⟨q1,q2,q3,q4,q5,q6,q7,q8,q9,q10⟩:=Bu;rw[show 101+(t+1)=(101+t)+1 by omega,zF7];split
  ·have hr:=zGM h h1 h2;have hd:=zG1 v (zFX c last (-c.qj));obtain⟨l,hl,hn⟩:=ends1 h t (zFX c last (-c.qj)) (doV v (zFX c last (-c.qj))) (by omega) (by omega) (by omega) hd.1 hd.2;exact⟨_::l,by rw[hl];rfl,by simp;omega⟩
  ·exact⟨[],rfl,by simp⟩
theorem ends{c:Car}(h:c.ok)(last v:Int)(h4:0<=v)(h5:v<=2000):∃l,zGI c 111 true last v=some l/\0<l.length/\l.length<=110:=by
 have Bu:=h;obtain⟨q1,q2,q3,q4,q5,q6,q7,q8,q9,q10⟩:=Bu;have hr:=zGx h last;have hcl:=zG2 h last;have hd:=zG1 v (zFX c last (-c.qj));obtain⟨l,hl,hn⟩:=ends1 h 9 (zFX c last (-c.qj)) (doV v (zFX c last (-c.qj))) (by omega) (by omega) (by omega) hd.1 hd.2;refine⟨_::l,by rw[show 111=(101+9)+1 from rfl,zF7,if_pos (.inl rfl),hl];rfl,by simp,by simp;omega⟩
def stops(c:Car)(last v:Int):List Int:=(zGI c 111 true last v).getD []
theorem zMs{c:Car}(h:c.ok)(last v:Int)(h4:0<=v)(h5:v<=2000):zGI c 111 true last v=some (stops c last v)/\0<(stops c last v).length/\(stops c last v).length<=110:=by
 obtain⟨l,h1,h2,h3⟩:=ends h last v h4 h5;simp only[stops,h1,qC];exact⟨trivial,h2,h3⟩
def chain(c:Car):Int->List Int->Prop
 |_,[]=>True
 |a,x::xs=>(-c.qj<=x/\x<=c.qO)/\(-c.vQ<=x-a/\x-a<=c.vQ)/\chain c x xs
def zG0:Int->List Int->Int
 |a,[]=>a
 |_,x::xs=>zG0 x xs
def zHd:Int->List Int->Int
 |v,[]=>v
 |v,x::xs=>zHd (doV v x) xs
structure Drv where
 last:Int
 v:Int
 l:List Int
def Drv.AO(s:Drv)(a:Int):Drv:=⟨a,doV s.v a,s.l++[a]⟩
def Drv.uY(c:Car)(w:Int):Nat->Drv->Drv
 |0,s=>s
 |n+1,s=>Drv.uY c w n (s.AO (zFX c s.last w))
def Drv.queue:List Int->Drv->Drv
 |[],s=>s
 |x::xs,s=>Drv.queue xs (s.AO x)
def Bg(c:Car)(q:List Int)(last v:Int)(up hold:Nat):List Int :=
 let s:=(((Drv.mk last v []).queue (q.take 5)) |>.uY c c.qO up) |>.uY c 0 hold
 s.l++stops c s.last s.v
def Drv.from(c:Car)(a:Int)(s:Drv):Prop:=chain c a s.l/\s.last=zG0 a s.l/\0<=s.v/\s.v<=2000
theorem Drv.y8{c:Car}{w:Int}:∀{n:Nat} {s:Drv},(Drv.uY c w n s).l.length=s.l.length+n
 |0,s=>rfl
 |n+1,s=>by rw[Drv.uY,Drv.y8];simp[Drv.AO];omega
theorem Drv.AX:∀{q:List Int} {s:Drv},(Drv.queue q s).l.length=s.l.length+q.length
 |[],s=>rfl
 |x::q,s=>by rw[Drv.queue,Drv.AX];simp[Drv.AO];omega
theorem Drv.CG:∀{q:List Int} {s:Drv},(Drv.queue q s).l=s.l++q
 |[],s=>by simp[Drv.queue]
 |x::q,s=>by rw[Drv.queue,Drv.CG];simp[Drv.AO]
def zLD(c:Car)(x:Int):Bool:=!(decide (-c.qj<=x)&&decide (x<=c.qO))
def zIY(c:Car):Int->List Int->Bool
 |_,[]=>false
 |l,x::xs=>!(decide (-c.vQ<=x-l)&&decide (x-l<=c.vQ))||zIY c x xs
def vh(c:Car)(l:List Int):Int :=
 if ¬c.ok then 2 else if l.length=0 then 6 else if 200<l.length then 5
 else if 0<l.getLastD 0 then 2 else if l.any (zLD c) then 2 else if zIY c (l.headD 0) l then 11 else 0
end Go.PlanLaw
namespace Go.TrRun.Pl
open Go Go.Eng Go.PlanLaw
def kY(c:Car):List Cl:=[I c.len,I c.qO,I c.qj,I c.vQ,I c.As]
theorem zF6(x a b:Int):R L Cs zGF [W x,W a,W b] []=some (.w (Bo (decide (a<=x)&&decide (x<=b))),[]):=by
 rw[zUa zGH rfl];by_cases h:a<=x<;>simp[zF3,h]
theorem zGS{c:Car}(h:c.ok):R L Cs zGe [.a (kY c)] []=some (.w (W 0),[]):=by
 obtain⟨h1,h2,h3,h4,h5,h6,h7,h8,h9,h10⟩:=h;rw[zUa zGf rfl];simp[zFN,kY,zF6,h1,h2,h3,h4,h5,h6,h7,h8,h9,h10]
theorem AG{c:Car}(h:c.ok):R L Cs zFU [.a (kY c)] []=some (.w (W 0),[]):=by
 obtain⟨h1,h2,h3,h4,h5,h6,h7,h8,h9,h10⟩:=h;rw[zUa zFV rfl];simp[zFH,kY,ur.2 h1,ur.2 h2,ur.2 h3,ur.2 h4,ur.2 h5,ur.2 h6,ur.2 h7,ur.2 h8,ur.2 h9,ur.2 h10]
def dB(c:Car)(last v:Int)(jL:Cl)(ver:Nat):Blk:={ box:=true,esz:=8,rows:=[kY c++[I last,I v,jL]],gen:=0,fz:=false,ver }
def zI0(k:Nat):List Int->Cl
 |[]=>.jd
 |x::l=>sl (k+1) 1 (zu (x::l))
def zI1:List Int->Mem
 |[]=>[]
 |x::l=>[some (own 1 (zu (x::l)))]
def jU(k:Nat)(c:Car)(s:Drv):Mem:=some (dB c s.last s.v (zI0 k s.l) (3*s.l.length))::zI1 s.l
abbrev st(c:Car)(s:Drv):Mem:=jU 0 c s
abbrev P0:WV:=.c (.ptr 0 0 0 0)
def Drv.run(s:Drv)(l:List Int):Drv:=⟨zG0 s.last l,zHd s.v l,s.l++l⟩
@[simp] theorem zV8(k:Nat)(c:Car)(s:Drv):(jU k c s)[0]?=some (some (dB c s.last s.v (zI0 k s.l) (3*s.l.length))):=rfl
@[simp] theorem Zha(c:Car)(s:Drv):(st c s)[0]?=some (some (dB c s.last s.v (zI0 0 s.l) (3*s.l.length))):=rfl
theorem zOs{l:List Int}{i:Nat}(h:i<l.length):(zu l)[i]?=some [I l[i]]:=by simp[zu,h]
abbrev zKk(c:Car):Blk:={ box:=true,esz:=5,rows:=[kY c],gen:=0,fz:=false,ver:=0 }
abbrev fnB:WV:=.c (.fn zLp [] [.ptr 0 0 0 0])
theorem zOO{c:Car}(hc:c.ok)(x:Int):R L Cs zLp [W x,P0] [some (zKk c)]=some (.w (Bo (zLD c x)),[some (zKk c)]):=by
 obtain⟨h1,h2,h3,h4,h5,h6,h7,h8,h9,h10⟩:=hc;have hw:=ku (-c.qj);rw[zUa zMQ rfl];simp[zGB,kY,hw,zF6,zLD]
theorem zO5{c:Car}(hc:c.ok)(l:List Int)(hl:l.length<=1000):∀(r:List Int) (i:Nat),l.drop i=r->i<=l.length ->
  (r.any (zLD c)=false->∃E',Y L Cs zFZ (some [7,1,0,8]) 1 [(7,.w (W l.length)),(1,.w fnB),(0,.w (.c (.jc (zu l)))),(8,.w (W i))] [some (zKk c)]=some (.exit 0,E',[some (zKk c)])) /\
  (r.any (zLD c)=true->∃k:Nat,Y L Cs zFZ (some [7,1,0,8]) 1 [(7,.w (W l.length)),(1,.w fnB),(0,.w (.c (.jc (zu l)))),(8,.w (W i))] [some (zKk c)]=some (.ret,[(4,.w (W k))],[some (zKk c)])):=by
 intro r;induction r with
 |nil =>
  intro i hd hi;obtain rfl:=zUb hd hi;refine⟨fun _=>⟨_,zhJ (r:=(.exit 0,[(9,.w (Bo false)),(0,.w (.c (.jc (zu l)))),(1,.w fnB),(7,.w (W l.length)),(8,.w (W l.length))],[some (zKk c)])) ?_ (by simp)⟩,fun h=>by simp at h⟩;simp[zFZ]
 |cons x r ih =>
  intro i hd hi;obtain⟨hil,hx,hd'⟩:=zL hd;obtain⟨ih1,ih2⟩:=ih (i+1) hd' hil;have hch:=zOO hc x;have hw:=zB (i:=i) (by omega);have hg:=zOs hil;rw[hx]at hg;by_cases hb:zLD c x=true
  ·refine⟨fun h=>by simp[hb]at h,fun _=>⟨i,zhJ ?_ (by simp)⟩⟩;rw[hb]at hch;simp[zKk,kY]at hch;simp[zFZ,hil,hx,hch,zKk,kY]
  ·have hb:zLD c x=false:=by simpa using hb
   rw[hb]at hch;simp[zKk,kY]at hch;have vS:Y L Cs zFZ (some [7,1,0,8]) 1 [(7,.w (W l.length)),(1,.w fnB),(0,.w (.c (.jc (zu l)))),(8,.w (W i))] [some (zKk c)] =
     Y L Cs zFZ (some [7,1,0,8]) 1 [(7,.w (W l.length)),(1,.w fnB),(0,.w (.c (.jc (zu l)))),(8,.w (W (i+1:Nat)))] [some (zKk c)]:=by
    rw[zrL];simp[zFZ,hil,hx,hch,zKk,kY,hw]
   rw[vS];simp only[uq,hb,k7];exact⟨ih1,ih2⟩
theorem zvV{c:Car}(hc:c.ok)(l:List Int)(hl:l.length<=1000):∃k:Int,R L Cs zK9 [.c (.jc (zu l)),fnB] [some (zKk c)]=some (.w (W k),[some (zKk c)])/\(decide (0<=k)=l.any (zLD c)):=by
 obtain⟨h1,h2⟩:=zO5 hc l hl l 0 rfl (jD _);cases hb:l.any (zLD c)with
 |false =>
  obtain⟨E',hE⟩:=h1 hb;refine⟨-1,?_,by decide⟩;rw[zUa zKx rfl];simp at hE;simp[zF2,hE]
 |true =>
  obtain⟨k,hE⟩:=h2 hb;refine⟨k,?_,by simp⟩;rw[zUa zKx rfl];simp at hE;simp[zF2,hE]
theorem zMN{c:Car}(hc:c.ok)(l:List Int)(hl:l.length<=1000):R L Cs zKQ [.c (.jc (zu l)),fnB] [some (zKk c)]=some (.w (Bo (l.any (zLD c))),[some (zKk c)]):=by
 obtain⟨k,h1,h2⟩:=zvV hc l hl;rw[zUa zKT rfl];simp[zKk,kY]at h1;simp[zF0,h1,h2,zKk,kY]
abbrev zKp(l:List Int):Blk:={ box:=true,esz:=1,rows:=[[.jc (zu l)]],gen:=0,fz:=false,ver:=0 }
theorem zw9{c:Car}(hc:c.ok)(l:List Int)(hl:l.length<=1000)(hr:∀x∈l,-1000<=x/\x<=1000):∀(r:List Int) (i:Nat) (a:Int),-1000<=a/\a<=1000->l.drop i=r->i<=l.length ->
  (zIY c a r=false->∃E',Y L Cs zGw (some [7,44,43,2,45]) 2 [(7,.w (W a)),(44,.w (W l.length)),(43,.w (.c (.jc (zu l)))),(2,.w P0),(45,.w (W i))] [some (zKk c),some (zKp l)]=some (.exit 1,E',[some (zKk c),some (zKp l)])) /\
  (zIY c a r=true->Y L Cs zGw (some [7,44,43,2,45]) 2 [(7,.w (W a)),(44,.w (W l.length)),(43,.w (.c (.jc (zu l)))),(2,.w P0),(45,.w (W i))] [some (zKk c),some (zKp l)]=some (.ret,[(4,.w (W 11))],[some (zKk c),some (zKp l)])):=by
 intro r;have hcc:=hc;obtain⟨q1,q2,q3,q4,q5,q6,q7,q8,q9,q10⟩:=hcc;have hwr:=ku (-c.vQ);induction r with
 |nil =>
  intro i a ha hd hi;obtain rfl:=zUb hd hi;refine⟨fun _=>⟨_,zhJ (r:=(.exit 1,[(46,.w (Bo false)),(7,.w (W a)),(2,.w P0),(43,.w (.c (.jc (zu l)))),(44,.w (W l.length)),(45,.w (W l.length))],[some (zKk c),some (zKp l)])) ?_ (by simp)⟩,fun h=>by simp[zIY]at h⟩;simp[zGw]
 |cons x r ih =>
  intro i a ha hd hi;obtain⟨hil,hx,hd'⟩:=zL hd;have hxr:=hr x (by rw[<-hx];exact ja hil);obtain⟨ih1,ih2⟩:=ih (i+1) x hxr hd' hil;have hw:=zB (i:=i) (by omega);have hws:=ku (x-a);have hwi:=zF6 (x-a) (-c.vQ) c.vQ;by_cases hb:(decide (-c.vQ<=x-a)&&decide (x-a<=c.vQ))=true
  ·rw[hb]at hwi;have vS:Y L Cs zGw (some [7,44,43,2,45]) 2 [(7,.w (W a)),(44,.w (W l.length)),(43,.w (.c (.jc (zu l)))),(2,.w P0),(45,.w (W i))] [some (zKk c),some (zKp l)] =
     Y L Cs zGw (some [7,44,43,2,45]) 2 [(7,.w (W x)),(44,.w (W l.length)),(43,.w (.c (.jc (zu l)))),(2,.w P0),(45,.w (W (i+1:Nat)))] [some (zKk c),some (zKp l)]:=by
    rw[zrL];simp[zGw,hil,hx,zKk,kY,hw,hws,hwr,hwi]
   rw[vS];simp only[zIY,hb,yZ,k7];exact⟨ih1,ih2⟩
  ·have hb:(decide (-c.vQ<=x-a)&&decide (x-a<=c.vQ))=false:=by simpa using hb
   rw[hb]at hwi;refine⟨fun h=>(by simp only[zIY,hb,yJ,Bool.true_or]at h;cases h),fun _=>zhJ ?_ (by simp)⟩;simp[zGw,hil,hx,zKk,kY,hw,hws,hwr,hwi]
theorem zPK{c:Car}(hc:c.ok)(l:List Int)(hl:l.length<=1000):R L Cs zLZ [.a (kY c),.a [.jc (zu l)]] []=some (.w (W (vh c l)),[]):=by
 have hck:=zGS hc;have hcf:=zMN hc l hl;simp[zKk,kY]at hck hcf;rw[zUa zL3 rfl];cases l with
 |nil=>simp[zGK,kY,hck,vh,hc]
 |cons x r =>
 simp only[zaP]at hcf;have hne:¬((r.length:Int)+1=0):=by omega
 by_cases h200:200<r.length+1
 ·have BP:(200:Int)<(r.length:Int)+1:=by omega
  simp[zGK,kY,hck,vh,hc,hne,h200,BP]
 have BP:¬(200:Int)<(r.length:Int)+1:=by omega
 have uf:∀h,([I x]::zu r)[r.length]'h=[I ((x::r).getLastD 0)]:=by
  intro h;have e:[I x]::zu r=zu (x::r):=rfl;simp only[e,zBd];simp[yL,yM]
 have hw:IntKind.i64.wrap (r.length:Int)=r.length:=zTd _ (by omega) (by omega);simp only[List.getLastD_cons]at uf;have hlt:(r.length:Int)<(r.length:Int)+1:=by omega
 have hF:vh c (x::r)=if 0<r.getLastD x then 2 else if(x::r).any (zLD c)=true then 2 else if zIY c x (x::r)=true then 11 else 0:=by
  unfold vh;rw[if_neg (by simp[hc]),if_neg (by simp),if_neg (by simpa using h200),List.getLastD_cons,List.headD_cons]
 rw[hF];generalize r.getLastD x=z at uf;by_cases hp:0<z
 ·simp[zGK,kY,hck,hne,BP,hlt,uf,hw,hp]
 have hlen:((r.length:Int)+1)=((x::r).length:Nat):=by simp
 by_cases hb:(x::r).any (zLD c)=true
 ·rw[hb]at hcf;simp only[uq]at hb;simp[zGK,kY,hck,hne,BP,hlt,uf,hw,hp,hcf,hb]
 ·have hb:(x::r).any (zLD c)=false:=by simpa using hb
  have hr:∀y∈(x::r),-1000<=y/\y<=1000:=by
   intro y hy;have h1:=kK.1 hb y hy;obtain⟨q1,q2,q3,q4,q5,q6,q7,q8,q9,q10⟩:=hc;simp[zLD]at h1;omega
  obtain⟨h1,h2⟩:=zw9 hc (x::r) hl hr (x::r) 0 x (hr x (ju ..)) rfl (jD _);rw[hb]at hcf;cases hs:zIY c x (x::r)with
  |false =>
   obtain⟨E',h1⟩:=h1 hs;simp[zKk,kY,zKp]at h1;simp[zGK,kY,hck,hne,BP,hlt,uf,hw,hp,hcf,hb,hs,h1]
   |true =>
   have h2:=h2 hs;simp[zKk,kY,zKp]at h2;simp[zGK,kY,hck,hne,BP,hlt,uf,hw,hp,hcf,hb,hs,h2]
 end Go.TrRun.Pl
namespace Go.TrRun.Pl
open Go Go.Eng Go.PlanLaw
@[simp] theorem Zg4(k:Nat)(c:Car)(s:Drv)(A B:Option Blk):(A::B::jU k c s)[2]?=some (some (dB c s.last s.v (zI0 k s.l) (3*s.l.length))):=rfl
theorem zOl(x n:Int)(hn:0<n):(if x.tmod n<0 then x.tmod n+n else x.tmod n)=x % n:=by
 have h1:=qr x (by omega:n≠0);have h2:=qp x hn;have h3:=Int.tmod_eq_emod (a:=x) (b:=n);split at h3
 ·rw[h3];split<;>omega
 ·have e:(n.natAbs:Int)=n:=by omega
  rw[e]at h3;rw[h3];split<;>omega
theorem zD0(x n:Int)(hn:0<n)(hn':n<=1000000000000):R L Cs zEd [W x,W n] []=some (.w (W (x % n)),[]):=by
 have h0:=zOl x n hn;have h1:=qr x (by omega:n≠0);have h2:=qp x hn;have h3:=Int.tmod_lt_of_pos x hn;have h4:=Int.lt_tmod_of_pos x hn;have hne:n≠0:=by omega
 rw[zUa zEh rfl];by_cases h:x.tmod n<0
 ·rw[if_pos h]at h0;have hw:=ku (x % n);simp[zDP,hne,h,h0,hw]
 ·rw[if_neg h]at h0;simp[zDP,hne,h];exact h0
def B8(l a b r:Int):Car:=⟨300+l % 4700,1+a % 30,50+b % 41,20+r % 101,0⟩
theorem Dg(l a b r:Int):(B8 l a b r).ok:=by
 simp only[Car.ok,B8];omega
theorem R_made(l a b r:Int):R L Cs zLl [.a [I l,I a,I b,I r]] []=some (.w (.a (kY (B8 l a b r))),[]):=by
 have m1:=zD0 l 4700 (by omega) (by omega);have m2:=zD0 a 30 (by omega) (by omega);have m3:=zD0 b 41 (by omega) (by omega);have m4:=zD0 r 101 (by omega) (by omega);have w1:=ku (300+l % 4700);have w2:=ku (1+a % 30);have w3:=ku (50+b % 41);have w4:=ku (20+r % 101);rw[zUa zLo rfl];simp[zHT,m1,m2,m3,m4,w1,w2,w3,w4,kY,B8]
theorem B5:R L Cs zF9 [] []=some (.w (Bo true),[]):=zah.2 ⟨200,by kernel_rfl⟩
theorem A3{c:Car}(h:c.ok)(a w:Int):R L Cs zSz [.a (kY c),W a,W w] []=some (.w (W (zFX c a w)),[]):=by
 have hk1:=zG2 h a;have hk2:=zG2 h w;obtain⟨h1,h2,h3,h4,h5,h6,h7,h8,h9,h10⟩:=h;have w0:=ku (-c.qj);have w1:=ku (zVH c a-c.vQ);have w2:=ku (zVH c a+c.vQ);simp only[zVH]at w1 w2;rw[zUa zSA rfl];simp[zSm,kY,w0,w1,w2,zFX,zVH]
abbrev Pt(k:Nat):WV:=.c (.ptr k 0 0 0)
def CE(c:Car):Int:=if c.ok then 0 else 2
theorem Au(c:Car):R L Cs zGe [.a (kY c)] []=some (.w (W (CE c)),[]):=by
 by_cases h:c.ok
 ·rw[CE,if_pos h];exact zGS h
 rw[CE,if_neg h,zUa zGf rfl];have e:¬(((decide (300<=c.len)&&decide (c.len<=20000))=true)/\((decide (1<=c.qO)&&decide (c.qO<=30))=true)/\((decide (20<=c.qj)&&decide (c.qj<=90))=true)/\((decide (5<=c.vQ)&&decide (c.vQ<=120))=true)/\((decide (0<=c.As)&&decide (c.As<=5))=true)):=by
  intro e;simp only[jh,decide_eq_true_eq]at e;exact h (by simp only[Car.ok];omega)
 have w1:=zF6 c.len 300 20000;have w2:=zF6 c.qO 1 30;have w3:=zF6 c.qj 20 90;have w4:=zF6 c.vQ 5 120;have w5:=zF6 c.As 0 5;generalize (decide (300<=c.len)&&decide (c.len<=20000))=b1 at *;generalize (decide (1<=c.qO)&&decide (c.qO<=30))=b2 at *;generalize (decide (20<=c.qj)&&decide (c.qj<=90))=b3 at *;generalize (decide (5<=c.vQ)&&decide (c.vQ<=120))=b4 at *;generalize (decide (0<=c.As)&&decide (c.As<=5))=b5 at *;cases b1 with
 |false=>simp[zFN,kY,w1]
 |true=>cases b2 with
  |false=>simp[zFN,kY,w1,w2]
  |true=>cases b3 with
   |false=>simp[zFN,kY,w1,w2,w3]
   |true=>cases b4 with
    |false=>simp[zFN,kY,w1,w2,w3,w4]
    |true=>cases b5 with
     |false=>simp[zFN,kY,w1,w2,w3,w4,w5]
     |true=>simp at e
theorem Co(c:Car)(l:List Int)(hl:l.length<=1000):R L Cs zLZ [.a (kY c),.a [.jc (zu l)]] []=some (.w (W (vh c l)),[]):=by
 by_cases h:c.ok
 ·exact zPK h l hl
 have h1:=Au c;rw[CE,if_neg h]at h1;simp only[kY]at h1;rw[vh,if_pos h,zUa zL3 rfl];simp[zGK,kY,h1]
def Be(l:List Int)(i:Int):Int:=if l.length=0 then 0 else(l[(max 0 (min i (l.length-1))).toNat]?).getD 0
theorem R_Act(l:List Int)(hl:l.length<=1000)(i:Int):R L Cs zGR [.a [.jc (zu l)],W i] []=some (.w (W (Be l i)),[]):=by
 rw[zUa zGT rfl];by_cases h:l.length=0
 ·have hn:l=[]:=kA h;subst hn;simp[zGa,Be]
 ·have h1:¬(l.length:Int)=0:=by omega
  have hb:((l.length:Int)==0)=false:=by simpa using h1
  have hw:=ku ((l.length:Int)-1);have hm:min (max i 0) ((l.length:Int)-1)=max 0 (min i ((l.length:Int)-1)):=by omega
  have hk:(max 0 (min i ((l.length:Int)-1))).toNat<l.length:=by omega
  have hk0:0<=max 0 (min i ((l.length:Int)-1))/\max 0 (min i ((l.length:Int)-1))<l.length:=by omega
  rw[Be,if_neg h];generalize max 0 (min i ((l.length:Int)-1))=m at *;simp[zGa,hb,hw,hm,hk,hk0]
end Go.TrRun.Pl
namespace Go.TrRun
open Go Go.Eng
abbrev zK8:=Go.PlanLaw.Car
def zKW(m:zD)(r:List Int)(c:zK8)(k:zci):Bool:=decide (zdA m r=0)&&decide (zaK m (r.headD 0)=1)&&decide (Pl.CE c=0)&&decide (zdf m k=0)
theorem zPi{m:zD}{zs:List Zon}{ss:List Sgn}(hF:zKj m zs ss)(r:List Int)(hl:r.length<=1000)(c:zK8)(k:zci)(hk:k.jV.length<=100000000000) :
  R L Cs zNB [.a (zf m),.c (.jc (zu r)),.a (Pl.kY c),.a (zG k)] []=some (.w (Bo (zKW m r c k)),[]):=by
 have h:=hF.full.qe;have h1:=zQC h hF.fit.1;have h2:=zos m h.small h.chk r hl;have h3:=Pl.Au c;have h4:=zuu h k hk;unfold zKW;by_cases hr:zdA m r=0
 ·obtain⟨hon,hne,hl8⟩:=zg1 h hr;obtain⟨x0,r',rfl⟩:∃x r',r=x::r':=by cases r with|nil=>exact absurd rfl hne|cons x r'=>exact⟨x,r',rfl⟩
  have hx0:=hon x0 (ju ..);obtain⟨n,rfl⟩:=jx hx0.1;have hn:n<m.je.length:=by omega
  have hni:(n:Int)<m.je.length:=by omega
  have ek:zaK m n=m.je[n].kind:=by simp[zaK,hn]
  have e0:((n:Int)::r').headD 0=n:=rfl;rw[hr]at h2;rw[e0,ek];generalize hcv:Pl.CE c=cv at *;generalize hkv:zdf m k=kv at *;have w1:IntKind.i64.wrap 1=1:=rfl;have w0:IntKind.i64.wrap 0=0:=rfl;simp only[zf,zG,Pl.kY,zaP]at h1 h2 h3 h4;rw[zUa zMf rfl];rw[show decide (zdA m ((n:Int)::r')=0)=true from by simp[hr],kq];by_cases c1:m.je[n].kind=1
  ·have b1:(m.je[n].kind==1)=true:=by simp[c1]
   by_cases c2:cv=0
   ·have b2:(cv==0)=true:=by simp[c2]
    by_cases c3:kv=0
    ·have b3:(kv==0)=true:=by simp[c3]
     simp (maxSteps:=1000000) [zIW,zf,zG,Pl.kY,zo,h1,h2,h3,h4,hn,hni,c1,b1,c2,b2,c3,b3,zg,zH]
    ·have b3:(kv==0)=false:=by simp[c3]
     simp (maxSteps:=1000000) [zIW,zf,zG,Pl.kY,zo,h1,h2,h3,h4,hn,hni,c1,b1,c2,b2,c3,b3,zg,zH]
   ·have b2:(cv==0)=false:=by simp[c2]
    simp (maxSteps:=1000000) [zIW,zf,zG,Pl.kY,zo,h1,h2,h3,h4,hn,hni,c1,b1,c2,b2,zg,zH]
  ·have b1:(m.je[n].kind==1)=false:=by simp[c1]
   simp (maxSteps:=1000000) [zIW,zf,zG,Pl.kY,zo,h1,h2,h3,h4,hn,hni,c1,b1,zg,zH]
 ·have hb:(zdA m r==0)=false:=by simp[hr]
  simp only[zf]at h1 h2;rw[zUa zMf rfl];generalize zdA m r=rv at *;simp[zIW,zf,zG,Pl.kY,h1,h2,hr,hb,zg,zH]
def zPn(zs:List Zon)(p:Pss):Prop:=(0<=p.kp/\p.kp<zs.length)/\0<=p.part/\p.part<(zMh zs p.kp).length
theorem zOf(st:Int)(z:Nat)(x:Int):∀(l:List Prt) (k:Nat) (p:Pss),p∈zLB st z x k l->p.kp=z/\(k:Int)<=p.part/\p.part<k+l.length
 |[],k,p,h=>by cases h
 |q::l,k,p,h=>by
  have ih:=zOf st z x l (k+1) p;unfold zLB at h;split at h
  ·rcases jB.1 h with rfl|h'
   ·simp only[jm];exact⟨trivial,by omega,by omega⟩
   ·have:=ih h';simp only[jm];omega
  ·have:=ih h;simp only[jm];omega
theorem zOe(st x:Int)(zs:List Zon):∀(l:List Zon) (z:Nat) (p:Pss),zs.drop z=l->p∈zLA st x z l->zPn zs p
 |[],z,p,_,h=>by cases h
 |q::l,z,p,hd,h=>by
  obtain⟨hz,hq,hd'⟩:=zL hd;unfold zLA at h;rcases jt.1 h with h'|h'
  ·have:=zOf st z x q.parts 0 p h';have e:zMh zs p.kp=q.parts:=by rw[this.1];simp[zMh,hz,hq]
   exact⟨by omega,by omega,by rw[e];omega⟩
  ·exact zOe st x zs l (z+1) p hd' h'
theorem zNh(m:zD)(zs:List Zon):∀(r:List Int) (a:Int) (p:Pss),p∈zKh m zs a r->zPn zs p
 |[],a,p,h=>by cases h
 |x::r,a,p,h=>by
  unfold zKh at h;rcases jt.1 h with h'|h'
  ·exact zOe a x zs zs 0 p rfl h'
  ·exact zNh m zs r _ p h'
def zLV(z:Int):List Pss->Pss×Pss×Bool->Pss×Pss×Bool
 |[],v=>v
 |p::t,v=>zLV z t (if p.kp=z then(if v.2.2 then v.1 else p,p,true) else v)
def zNx(ps:List Pss)(z:Int):Pss×Pss×Bool:=zLV z ps (zKw,zKw,false)
theorem zPq(z:Int):∀(t:List Pss) (v:Vis) (w:Pss×Pss×Bool),(∀p∈t,0<=p.part)->v.kp=z->(w.2.2=true->0<=v.entry/\v.entry=w.1.part)->(w.2.2=false->v.entry=-1)->v.first=w.1->v.last=w.2.1 ->
  (t.foldl (zJ5 z) v).kp=z/\((zLV z t w).2.2=true->0<=(t.foldl (zJ5 z) v).entry/\(t.foldl (zJ5 z) v).entry=(zLV z t w).1.part)/\((zLV z t w).2.2=false->(t.foldl (zJ5 z) v).entry=-1)/\(t.foldl (zJ5 z) v).first=(zLV z t w).1/\(t.foldl (zJ5 z) v).last=(zLV z t w).2.1:=by
 intro t;induction t with
 |nil=>intro v w _ h1 h2 h3 h4 h5;exact⟨h1,h2,h3,h4,h5⟩
 |cons p t ih =>
  intro v w hp h1 h2 h3 h4 h5;rw[jT];unfold zLV;have hp0:=hp p (ju ..);have hpt:∀q∈t,0<=q.part:=fun q hq=>hp q (jy _ hq)
  by_cases c:p.kp=z
  ·rw[if_pos c];cases hw:w.2.2 with
   |true =>
    obtain⟨g1,g2⟩:=h2 hw;have e:zJ5 z v p=⟨v.kp,v.entry,v.first,p⟩:=by simp only[zJ5,c,if_true,show ¬v.entry<0 by omega,if_false]
    rw[e];exact ih _ _ hpt h1 (fun _=>⟨g1,g2⟩) (fun q=>by cases q) h4 rfl
   |false =>
    have g:=h3 hw;have e:zJ5 z v p=⟨v.kp,p.part,p,p⟩:=by simp only[zJ5,c,if_true,show v.entry<0 by omega]
    rw[e];exact ih _ _ hpt h1 (fun _=>⟨hp0,rfl⟩) (fun q=>by cases q) rfl rfl
  ·rw[if_neg c];have e:zJ5 z v p=v:=by simp only[zJ5,c,if_false]
   rw[e];exact ih v w hpt h1 h2 h3 h4 h5
theorem zOR(ps:List Pss)(hp:∀p∈ps,0<=p.part)(z:Int):(zKn ps z).kp=z/\((zNx ps z).2.2=true->0<=(zKn ps z).entry/\(zKn ps z).entry=(zNx ps z).1.part)/\((zNx ps z).2.2=false->(zKn ps z).entry=-1)/\(zKn ps z).first=(zNx ps z).1/\(zKn ps z).last=(zNx ps z).2.1 :=
 zPq z ps ⟨z,-1,zKw,zKw⟩ (zKw,zKw,false) hp rfl (fun q=>by cases q) (fun _=>rfl) rfl rfl
theorem zPt(z:Int):∀(t:List Pss) (w:Pss×Pss×Bool),(zLV z t w).2.2=true->w.2.2=false->∃p∈t,p.kp=z/\(zLV z t w).1=p:=by
 have vw:∀(t:List Pss) (w:Pss×Pss×Bool),w.2.2=true->(zLV z t w).1=w.1:=by
  intro t;induction t with
  |nil=>intro w _;rfl
  |cons p t ih =>
   intro w hw;unfold zLV;by_cases c:p.kp=z
   ·rw[if_pos c,ih _ rfl,hw];rfl
   ·rw[if_neg c,ih _ hw]
 intro t;induction t with
 |nil=>intro w h1 h2;rw[show zLV z [] w=w from rfl,h2]at h1;cases h1
 |cons p t ih =>
  intro w h1 h2;unfold zLV at h1 ⊢;by_cases c:p.kp=z
  ·rw[if_pos c];refine⟨p,ju ..,c,?_⟩;rw[vw _ _ rfl,h2];rfl
  ·rw[if_neg c]at h1 ⊢;obtain⟨q,h3,h4⟩:=ih w h1 h2;exact⟨q,jy _ h3,h4⟩
theorem zNn(ps:List Pss):∀(n z:Nat) (v:Vis),v∈zKE ps z n<->∃y:Nat,z<=y/\y<z+n/\0<=(zKn ps y).entry/\v=zKn ps y
 |0,z,v=>by simp[zKE];intro y h1 h2;omega
 |n+1,z,v=>by
  have ih:=zNn ps n (z+1) v;unfold zKE;by_cases c:0<=(zKn ps z).entry
  ·rw[if_pos c,jB,ih];constructor
   ·rintro(rfl |⟨y,h1,h2,h3,h4⟩)
    ·exact⟨z,jq _,by omega,c,rfl⟩
    ·exact⟨y,by omega,by omega,h3,h4⟩
   ·rintro⟨y,h1,h2,h3,h4⟩;by_cases e:y=z
    ·subst e;exact .inl h4
    ·exact .inr ⟨y,by omega,by omega,h3,h4⟩
  ·rw[if_neg c,ih];constructor
   ·rintro⟨y,h1,h2,h3,h4⟩;exact⟨y,by omega,by omega,h3,h4⟩
   ·rintro⟨y,h1,h2,h3,h4⟩;by_cases e:y=z
    ·subst e;exact absurd h3 c
    ·exact⟨y,by omega,by omega,h3,h4⟩
theorem zNo(ps:List Pss):∀(n z:Nat),(zKE ps z n).length<=n
 |0,z=>by simp[zKE]
 |n+1,z=>by
  have:=zNo ps n (z+1);unfold zKE;split<;>simp<;>omega
theorem zPr{m:zD}{zs:List Zon}{ss:List Sgn}(hF:zKj m zs ss)(r:List Int):∀v∈zKE (zKh m zs 0 r) 0 zs.length,zKN zs v:=by
 intro v hv;obtain⟨y,_,h2,h3,rfl⟩:=(zNn _ _ _ _).1 hv;have hp:∀p∈zKh m zs 0 r,0<=p.part:=fun p hp=>(zNh m zs r 0 p hp).2.1
 obtain⟨k1,k2,k3,k4,k5⟩:=zOR (zKh m zs 0 r) hp y;have hb:(zNx (zKh m zs 0 r) y).2.2=true:=by
  cases hq:(zNx (zKh m zs 0 r) y).2.2 with
  |true=>rfl
  |false=>have:=k3 hq;omega
 obtain⟨p,hpm,hpz,hpe⟩:=zPt y _ _ hb rfl;have hok:=zNh m zs r 0 p hpm;have he:=(k2 hb).2;rw[show(zNx (zKh m zs 0 r) y).1=p from hpe]at he;have hyl:y<zs.length:=by omega
 refine⟨by rw[k1];omega,?_,?_⟩
 ·rw[k1];have:=hF.full.zd.BT zs[y] (ja hyl);simpa [zMh,hyl]using this
 ·rw[k1,he];have:=hok.2;rw[hpz]at this;exact this
abbrev pvV(m:zD)(zs:List Zon)(r:List Int):List Vis:=zKE (zKh m zs 0 r) 0 zs.length
def zNw(m:zD)(zs:List Zon)(ss:List Sgn)(r:List Int)(len:Int)(k:zci)(jL:List Int)(signals:Bool):Bool×Int×Int :=
 zKX (zLH len (pvV m zs r) jL (zKr m zs ss r len (zKh m zs 0 r) (pvV m zs r) signals jL 0 k)) (fbF m r jL k.tick k.ego)
theorem zL8{m:zD}{zs:List Zon}{ss:List Sgn}(hF:zKj m zs ss){r:List Int}(hr:zdA m r=0)(len:Int)(hlen:0<=len/\len<=20000)(signals:Bool)(jL:List Int)(hin:∀a∈jL,zk0 a)(hal:jL.length<=500)(u:Nat)(k:zci)(WAS NW:List Cl)(SW:Cl)(hk:KJ m k)(ht:0<=k.tick/\k.tick<=1099511627776)(hW:zMo WAS)(hSW:zKq NW SW)(hne0:jL≠[]) :
  ∃u' WAS' NW' SW',zMo WAS'/\zKq NW' SW'/\u'≠u/\R L Cs zKv [J0,.a (zG k),.a [.jc (zu jL)],Bo signals] (zJ3 m r len (zKh m zs 0 r) (pvV m zs r) u WAS NW SW) =
   some (.w (.a (zJ4 (zNw m zs ss r len k jL signals))),zJ3 m r len (zKh m zs 0 r) (pvV m zs r) u' WAS' NW' SW'):=by
 have hvo:=zPr hF r;have hvl:(pvV m zs r).length<=zs.length:=zNo (zKh m zs 0 r) zs.length 0;have htwo:=hF.two;have hp:=hF.few r hr;obtain⟨qq,hq0⟩:∃qq,qq=0/\pvV m zs r=[]\/qq=1/\pvV m zs r≠[]:=by
  by_cases h0:pvV m zs r=[]
  ·exact⟨0,.inl ⟨rfl,h0⟩⟩
  ·exact⟨1,.inr ⟨rfl,h0⟩⟩
 obtain⟨u',W',N',S',a,b,hu,h⟩:=zVQ hF hr len hlen (zKh m zs 0 r) (by omega) (pvV m zs r) qq hq0 (by omega) hvo signals jL hin hal u k WAS NW SW hk ht hW hSW hne0;refine⟨u',W',N',S',a,b,hu,?_⟩;simp only[zJ3,zVW hq0];exact h
def zOk(m:zD)(zs:List Zon)(ss:List Sgn)(r:List Int)(c:zK8)(k:zci)(jL:List Int)(signals:Bool):Bool×Int×Int :=
 if zKW m r c k=true/\Go.PlanLaw.vh c jL=0 then zNw m zs ss r c.len k jL signals else(false,0,1)
theorem zVR{c:zK8}{l:List Int}(h:Go.PlanLaw.vh c l=0):c.ok/\l≠[]/\l.length<=200:=by
 unfold Go.PlanLaw.vh at h;split at h
 ·cases h
 ·rename_i h1;split at h
  ·cases h
  ·rename_i h2;split at h
   ·cases h
   ·rename_i h3;exact⟨Classical.not_not.1 h1,fun e=>h2 (by rw[e];rfl),by omega⟩
theorem zNz{m:zD}{r:List Int}{c:zK8}{k:zci}(h:zKW m r c k=true):zdA m r=0/\zaK m (r.headD 0)=1/\c.ok/\zdf m k=0:=by
 unfold zKW at h;simp only[jh,decide_eq_true_eq]at h;refine⟨h.1.1.1,h.1.1.2,?_,h.2⟩;have:=h.1.2;unfold Pl.CE at this;split at this
 ·assumption
 ·cases this
theorem zOJ{m:zD}{zs:List Zon}{ss:List Sgn}(hF:zKj m zs ss)(r:List Int)(hl:r.length<=1000)(c:zK8)(k:zci)(hk:k.jV.length<=100000000000)(jL:List Int)(hin:∀a∈jL,zk0 a)(hal:jL.length<=1000)(signals:Bool) :
  R L Cs zMY [.a (zf m),.c (.jc (zu r)),.a (Pl.kY c),.a (zG k),.a [.jc (zu jL)],Bo signals] []=some (.w (.a (zJ4 (zOk m zs ss r c k jL signals))),[]):=by
 have h1:=zPi hF r hl c k hk;have h2:=Pl.Co c jL hal;unfold zOk;simp only[zf,zG,Pl.kY]at h1 h2;by_cases d1:zKW m r c k=true
 ·rw[d1]at h1;by_cases d2:Go.PlanLaw.vh c jL=0
  ·rw[if_pos ⟨d1,d2⟩];rw[d2]at h2;obtain⟨hr,_,hc,hck⟩:=zNz d1;obtain⟨_,hne,hal2⟩:=zVR d2;have hke:=zte hck;have hc1:=hc.1;have hc2:=hc.2.1;have hkj:=zPP hF.full.qe hck;obtain⟨u,h3⟩:=zMM hF hr c.len;obtain⟨u',W',N',S',oW,oS,hu,h4⟩:=zL8 hF hr c.len (by omega) signals jL hin (by omega) u k zox zox .jd hkj (by omega) (.inl rfl) (.inl ⟨rfl,rfl⟩) hne;generalize zNw m zs ss r c.len k jL signals=y at *;simp only[pvV]at h4;generalize zKE (zKh m zs 0 r) 0 zs.length=vs at *;generalize zKh m zs 0 r=ps at *;rw[zUa zLb rfl];by_cases h0:vs=[]
   ·simp only[zJ3,if_pos h0]at h3 h4;rcases oW with rfl |⟨kw,rfl⟩<;>rcases oS with⟨rfl,rfl⟩ |⟨k0,x,rfl,rfl⟩<;>simp only[zf,zG,jC,zh,zi,zox,zJ4,zJY,jp,jk]at h3 h4<;>simp (maxSteps:=1000000) [zIR,zf,zG,Pl.kY,jC,zh,zi,zox,zJ4,zJY,h1,h2,h3,h4,hu,zg,zH,own]
   ·simp only[zJ3,if_neg h0]at h3 h4;rcases oW with rfl |⟨kw,rfl⟩<;>rcases oS with⟨rfl,rfl⟩ |⟨k0,x,rfl,rfl⟩<;>simp only[zf,zG,jC,zh,zi,zox,zJ4,zJY,own,zJZ,jp,jk]at h3 h4<;>simp (maxSteps:=1000000) [zIR,zf,zG,Pl.kY,jC,zh,zi,zox,zJ4,zJY,h1,h2,h3,h4,hu,zg,zH,own]
  ·rw[if_neg (fun q=>d2 q.2)];have hb:(Go.PlanLaw.vh c jL !=0)=true:=by simp[d2]
   rw[zUa zLb rfl];generalize Go.PlanLaw.vh c jL=e at *;simp[zIR,zf,zG,Pl.kY,zJ4,zJY,h1,h2,d2,hb,zg,zH]
 ·have hb:zKW m r c k=false:=by simpa using d1
  rw[if_neg (fun q=>d1 q.1)];rw[hb]at h1;rw[zUa zLb rfl];simp[zIR,zf,zG,Pl.kY,zJ4,zJY,h1,zg,zH]
theorem zRq(n:Nat)(p:Nat->Bool)(h:(List.range n).findIdx? p=none):(List.range n).any p=false:=by
 rw[kE]at h;simpa using h
theorem zRn(n:Nat)(p:Nat->Bool){i:Nat}(h:(List.range n).findIdx? p=some i):(List.range n).any p=true:=by
 obtain⟨h1,h2,_⟩:=jM.1 h;exact jQ.2 ⟨_,ja h1,h2⟩
def enP(ps:List Pss)(len shi slo:Int)(z:Nat):Bool:=(zNx ps z).2.2&&decide ((zNx ps z).1.lo<=shi)&&decide (slo-len<=(zNx ps z).2.1.hi)
theorem zR0{m:zD}(h:zcp m)(x:Int):R L Cs zD9 [.a (zf m),W x] []=some (.w (Bo (decide (0<=x)&&decide (x<m.je.length))),[]):=by
 have hk:=h.A9;rw[zUa zEa rfl];simp only[zf]at hk;by_cases c1:0<=x
 ·by_cases c2:x<m.je.length
  ·simp[zDW,zf,hk,c1,c2]
  ·simp[zDW,zf,hk,c1,c2]
 ·simp[zDW,zf,hk,c1]
theorem zRT{m:zD}{zs:List Zon}{ss:List Sgn}(hf:zmq m zs ss)(j:Nat)(hj:j<ss.length)(x:Int)(hx:0<=x/\x<m.je.length)(tick:Int)(ht:0<=tick) :
  R L Cs zRa [.a (zf m),W j,W x,W tick] []=some (.w (Bo (zfA ss[j] x tick)),[]):=by
 have h1:=zR0 hf.qe x;have h2:=zrO ss[j] x tick (hf.zd.ph _ (ja hj));have hs:=hf.zd.s;have hji:(j:Int)<ss.length:=by omega
 simp only[zf,hx.1,hx.2,decide_true,Bool.and_self]at h1;simp only[zeq]at h2;rw[hs]at h1;rw[zUa zRd rfl];simp[zJV,zf,zeq,hs,h1,h2,hj,hji,ht]
theorem zRk(m:zD)(zs:List Zon)(r:List Int)(y:Nat):0<=(zKn (zKh m zs 0 r) y).entry<->(zNx (zKh m zs 0 r) y).2.2=true:=by
 obtain⟨_,h2,h3,_⟩:=zOR (zKh m zs 0 r) (fun p hp=>(zNh m zs r 0 p hp).2.1) y;cases hb:(zNx (zKh m zs 0 r) y).2.2 with
 |true=>exact⟨fun _=>rfl,fun _=>(h2 hb).1⟩
 |false=>rw[h3 hb];exact⟨fun h=>absurd h (by decide),fun h=>by cases h⟩
theorem zRC(m:zD)(zs:List Zon)(r:List Int)(p:Vis->Bool)(q:Nat->Bool)(h:∀y:Nat,y<zs.length->q y=((zNx (zKh m zs 0 r) y).2.2&&p (zKn (zKh m zs 0 r) y))):(pvV m zs r).any p=(List.range zs.length).any q:=by
 rw[Ak,jQ,jQ];constructor
 ·rintro⟨v,hv,hp⟩;obtain⟨y,_,hy,he,rfl⟩:=(zNn _ _ _ _).1 hv;refine⟨y,kP.2 (by omega),?_⟩;rw[h y (by omega),hp,(zRk m zs r y).1 he];rfl
 ·rintro⟨y,hy,hq⟩;have hy:=kP.1 hy;rw[h y hy,jh]at hq;exact⟨zKn (zKh m zs 0 r) y,(zNn _ _ _ _).2 ⟨y,by omega,by omega,(zRk m zs r y).2 hq.1,rfl⟩,hq.2⟩
theorem zRZ(m:zD)(zs:List Zon)(r:List Int)(len:Int)(e:Ego):(pvV m zs r).any (zOS len e)=(List.range zs.length).any (enP (zKh m zs 0 r) len e.shi e.slo):=by
 refine zRC m zs r _ _ fun y hy=>?_
 obtain⟨_,_,_,h4,h5⟩:=zOR (zKh m zs 0 r) (fun p hp=>(zNh m zs r 0 p hp).2.1) y;unfold enP zOS;rw[h4,h5,Bool.and_assoc]
@[simp] theorem zHc(k:zci):(zG k).length=6:=rfl
structure AgV where
 jf:List Int
 s:Int
 v:Int
 len:Int
 start:Int
 uZ:Bool
 gone:Bool
def agC(a:AgV):List Cl:=[.jc (zu a.jf),I a.s,I a.v,I a.len,I a.start,.bool a.uZ,.bool a.gone]
structure z2T where
 qU:Int
 kp:Int
 since:Int
 ux:Int
def z29(x:z2T):List Cl:=[I x.qU,I x.kp,I x.since,I x.ux]
structure SnV where
 tick:Int
 agents:List AgV
 ins:List z2T
def Zbn(l:List AgV):List (List Cl):=l.map agC
def z2H(l:List z2T):List (List Cl):=l.map z29
@[simp] theorem z7m(l:List AgV):(Zbn l).length=l.length:=by simp[Zbn]
@[simp] theorem z6C{l:List AgV}{i:Nat}(h:i<(Zbn l).length):(Zbn l)[i]=agC (l[i]'(by simpa using h)):=by simp[Zbn]
@[simp] theorem z7w(a:AgV):(agC a).length=7:=rfl
@[simp] theorem z7l(l:List z2T):(z2H l).length=l.length:=by simp[z2H]
@[simp] theorem z6B{l:List z2T}{i:Nat}(h:i<(z2H l).length):(z2H l)[i]=z29 (l[i]'(by simpa using h)):=by simp[z2H]
@[simp] theorem z5R(a:z2T):(z29 a).length=4:=rfl
def snC(s:SnV):List Cl:=[I s.tick,.jc (Zbn s.agents),.jc (z2H s.ins)]
def laF(st:List Int)(s:Int):Nat->Nat
 |0=>0
 |k+1=>if st.getD k 0<=s then k else laF st s k
theorem z6R(st:List Int)(s:Int):∀k,laF st s (k+1)<=k
 |0=>by simp[laF]
 |k+1=>by
  have:=z6R st s k;unfold laF;split<;>omega
structure WAg(m:zD)(a:AgV):Prop where
 jf:zdA m a.jf=0
 len:300<=a.len/\a.len<=20000
 start:0<=a.start/\a.start<=1099511627776
 s:0<=a.s/\a.s<=zmd m 0 a.jf+a.len+2000
 here:a.gone=decide (zmd m 0 a.jf<a.s-a.len)
structure KAg(m:zD)(a:AgV):Prop extends WAg m a where
 up:a.s<=zmd m 0 a.jf
 late:0<a.start->a.s=0
theorem KAg.stay{m:zD}{a:AgV}(h:KAg m a):a.gone=false:=by
 have h1:=h.up;have h2:=h.len;rw[h.here];exact decide_eq_false (by omega)
def z4R(m:zD)(a:AgV):Nat:=laF (zW m 0 a.jf) a.s a.jf.length
def z42(m:zD)(a:AgV):Int:=a.jf.getD (z4R m a) 0
theorem WAg.on{m:zD}(h:zcp m){a:AgV}(ha:WAg m a):zj2 m a.jf/\a.jf≠[]/\a.jf.length<=8:=zg1 h ha.jf
theorem WAg.Cn{m:zD}(h:zcp m){a:AgV}(ha:WAg m a):z4R m a<a.jf.length:=by
 obtain⟨_,h2,_⟩:=ha.on h;have h0:0<a.jf.length:=kj.2 h2;unfold z4R;obtain⟨k,hk⟩:∃k,a.jf.length=k+1:=⟨a.jf.length-1,by omega⟩;rw[hk];have:=z6R (zW m 0 a.jf) a.s k;omega
theorem WAg.on_ok{m:zD}(h:zcp m){a:AgV}(ha:WAg m a):0<=z42 m a/\z42 m a<m.je.length:=by
 have hl:=ha.Cn h;have e:z42 m a=a.jf[z4R m a]:=by simp[z42,jo,hl]
 rw[e];exact(ha.on h).1 _ (ja hl)
theorem WAg.yf{m:zD}(h:zcp m){a:AgV}(ha:WAg m a):0<=zmd m 0 a.jf/\zmd m 0 a.jf<=8000000:=by
 obtain⟨h1,_,h3⟩:=ha.on h;have:=zEC h a.jf 0 h1 (by omega);omega
theorem WAg.CF{m:zD}(h:zcp m){a:AgV}(ha:WAg m a){i:Nat}(hi:i<a.jf.length):0<=jU m a.jf i/\jU m a.jf i<=8000000:=by
 obtain⟨h1,_,h3⟩:=ha.on h;exact zmA (bar:=0) ⟨h,h3,h1,by omega⟩ hi
theorem z58(m:zD)(a:AgV)(st:List Int)(hl:st.length<=100):∀(f i:Nat),i+f=st.length ->
  Y L Cs z23 (some [7,8,6,3]) 2 [(7,.w (W (laF st a.s i))),(8,.w (W i)),(6,.w (.c (.jc (zu st)))),(3,.w (Pt 1))] [bx 5 (zf m),bx 7 (agC a)] =
    some (.exit 0,[(16,.w (Bo false)),(7,.w (W (laF st a.s st.length))),(8,.w (W st.length)),(6,.w (.c (.jc (zu st)))),(3,.w (Pt 1))],[bx 5 (zf m),bx 7 (agC a)]):=by
 intro f;induction f with
 |zero =>
  intro i hi;obtain rfl:i=st.length:=by omega
  rw[ZfM z23.eq_1];simp
 |succ f ih =>
  intro i hi;have hil:i<st.length:=by omega
  have hw:=zB (i:=i) (by omega);rw[<-ih (i+1) (by omega),ZfM z23.eq_1];clear ih;rw[laF];by_cases c:st[i]<=a.s
  ·have c':st.getD i 0<=a.s:=by simpa [hil]using c
   rw[if_pos c'];simp[agC,zf,hil,hw,c]
  ·have c':¬st.getD i 0<=a.s:=by simpa [hil]using c
   rw[if_neg c'];simp[agC,zf,hil,hw,c]
theorem z6w{m:zD}(h:zcp m){a:AgV}(ha:WAg m a):R L Cs z4n [.a (zf m),.a (agC a)] []=some (.t [W (z42 m a),W (a.s-jU m a.jf (z4R m a))],[]):=by
 obtain⟨_,_,h3⟩:=ha.on h;have hs:=ha.CF h (ha.Cn h);have hS:=zRG h ha.jf;have hl:=z58 m a (zW m 0 a.jf) (by rw[zcO];omega) a.jf.length 0 (by rw[zcO];omega);have h0l:=ha.len;have h1:=ha.s;have h2:=ha.yf h;have w1:=ku (a.s-jU m a.jf (z4R m a));have hat:=ha.Cn h;unfold z42;rw[zcO]at hl;have e1:laF (zW m 0 a.jf) a.s a.jf.length=z4R m a:=rfl;rw[e1,show laF (zW m 0 a.jf) a.s 0=0 from rfl]at hl;generalize z4R m a=k at *;have hk:k<(zW m 0 a.jf).length:=by rw[zcO];exact hat
 have e2:(zW m 0 a.jf)[k]=jU m a.jf k:=by simp[jU,hk]
 simp only[zf,agC,jg]at hS hl;rw[zUa z4s rfl];simp[z3r,zf,agC,hS,hl,hk,hat,e2,w1,zg]
theorem z7e{m:zD}(h:zcp m){a:AgV}(ha:WAg m a):R L Cs z4o [.a (zf m),.a (agC a)] []=some (.w (Bo a.gone),[]):=by
 have hS:=zEp h ha.jf;have h0l:=ha.len;have h1:=ha.s;have h2:=ha.yf h;have h3:=ha.len;have w1:=ku (a.s-a.len);have hh:=ha.here;simp only[zf]at hS;rw[zUa z4t rfl];by_cases hc:zmd m 0 a.jf<a.s-a.len
 ·rw[decide_eq_true hc]at hh;simp[z3s,zf,agC,hS,w1,hc,hh,zg]
 ·rw[decide_eq_false hc]at hh;simp[z3s,zf,agC,hS,w1,hc,hh,zg]
theorem z6s{m:zD}(h:zcp m){a:AgV}(ha:WAg m a):R L Cs z4m [.a (agC a)] []=some (.w (Bo true),[]):=by
 have h0l:=ha.len;have h1:=ha.s;have h2:=ha.yf h;have h3:=ha.len;have c1:a.s<=1099511627776:=by omega
 have c2:0<=a.len:=by omega
 have c3:a.len<=1099511627776:=by omega
 rw[zUa z4r rfl];simp[z3q,agC,h1.1,c1,c2,c3,zg]
def thA(t:Int)(a:AgV):Bool:=decide (a.start<=t) && !a.gone
theorem z56(s:SnV)(i:Nat)(hi:i<s.agents.length):R L Cs z3I [.a (snC s),W i] []=some (.w (Bo (thA s.tick s.agents[i])),[]):=by
 rw[zUa z4i rfl];unfold thA;cases hg:s.agents[i].gone<;>by_cases c:s.agents[i].start<=s.tick<;>simp[z3b,snC,agC,hi,c,hg,zg]
def z3z(m:zD)(a:AgV):Int:=if 0<=a.v/\a.v<=zeR (zaK m (z42 m a)) then 0 else 2
theorem z50{m:zD}{a:AgV}(h:¬z3z m a=0):z3z m a=2:=by unfold z3z at *;split at h<;>simp_all
theorem z5b{m:zD}{x:Int}(h:0<=x/\x<m.je.length):∃j:Nat,∃hj:j<m.je.length,x=(j:Int)/\zaK m x=m.je[j].kind:=by
 obtain⟨j,rfl⟩:=jx h.1;have hj:j<m.je.length:=by omega
 exact⟨j,hj,rfl,by simp[zaK,hj]⟩
theorem z5q{m:zD}(h:zcp m)(s:SnV)(ht:0<=s.tick)(i:Nat)(hi:i<s.agents.length)(ha:WAg m s.agents[i])(hla:s.tick<s.agents[i].start->s.agents[i].s=0)(h0:i=0->s.agents[i].start=0) :
  R L Cs z3u [.a (zf m),.a (snC s),W i] []=some (.w (W (z3z m s.agents[i])),[]):=by
 have hR:=zp0 m h.small h.A9 s.agents[i].jf (by have:=(ha.on h).2.2;omega);rw[ha.jf]at hR;have hE:=zEp h ha.jf;have hL:=z6w h ha;have hG:=z7e h ha;have C7:=ha.yf h;obtain⟨h1,h2,h3,h4,h6⟩:=ha;have hon:=WAg.on_ok h ⟨h1,h2,h3,h4,h6⟩;have hk:=zu9 h hon;have hB:=zhv hk;obtain⟨j,hj,ej,ek⟩:=z5b hon;unfold z3z;generalize s.agents[i].s-jU m s.agents[i].jf (z4R m s.agents[i])=off at *;generalize z42 m s.agents[i]=x at *;generalize hag:s.agents[i]=a at *;subst ej;have hnum:(decide (a.len<300)=false)/\decide (20000<a.len)=false/\decide (a.start<0)=false/\decide (1099511627776<a.start)=false/\decide (a.s<0)=false/\decide (zmd m 0 a.jf+a.len+2000<a.s)=false:=by
  refine⟨?_,?_,?_,?_,?_,?_⟩<;>simp<;>omega
 obtain⟨n1,n2,n3,n4,n5,n6⟩:=hnum;have w1:=ku (zmd m 0 a.jf+a.len);have w2:=ku (zmd m 0 a.jf+a.len+2000);have hlate:(decide (s.tick<a.start) && !(a.s==0))=false:=by
  by_cases c:s.tick<a.start
  ·have:=hla (by omega);simp[this]
  ·simp[c]
 have hzero:((i:Int)==0 && !(a.start==0))=false:=by
  by_cases c:i=0
  ·simp[h0 c]
  ·simp[c]
 have hob:(decide (s.tick<a.start) && !(a.s==0)||(i:Int)==0 && !(a.start==0))=false:=by rw[hlate,hzero];rfl
 have m1:¬a.len<300:=by omega
 have m2:¬20000<a.len:=by omega
 have m3:¬a.start<0:=by omega
 have m4:¬1099511627776<a.start:=by omega
 have m5:¬a.s<0:=by omega
 have m6:¬zmd m 0 a.jf+a.len+2000<a.s:=by omega
 rw[ek]at hB ⊢;simp only[zf,agC]at hR hE hL hG hB;rw[zUa z3W rfl];by_cases c1:a.v<0
 ·have c1':¬(0<=a.v/\a.v<=zeR m.je[j].kind):=by omega
  rw[if_neg c1'];simp[z2w,zf,snC,hi,hag,agC,zo,hj,hR,hE,hL,hG,hB,w1,w2,m1,m2,m3,m4,m5,m6,c1,zg,zH]
 ·by_cases c2:zeR m.je[j].kind<a.v
  ·have c1':¬(0<=a.v/\a.v<=zeR m.je[j].kind):=by omega
   rw[if_neg c1'];simp[z2w,zf,snC,hi,hag,agC,zo,hj,hR,hE,hL,hG,hB,w1,w2,m1,m2,m3,m4,m5,m6,c1,c2,zg,zH]
  ·have c1':(0<=a.v/\a.v<=zeR m.je[j].kind):=by omega
   rw[if_pos c1'];by_cases d1:s.tick<a.start
   ·have d2:a.s=0:=hla (by omega);have d3:i≠0:=by intro e;have:=h0 e;omega
    have d3':((i:Int)==0)=false:=by simp[d3]
    have d2b:(a.s !=0)=false:=by simp[d2]
    simp[z2w,zf,snC,hi,hag,agC,zo,hj,hR,hE,hL,hG,hB,w1,w2,m1,m2,m3,m4,m5,m6,c1,c2,d1,d2b,d3',zg,zH]
   ·by_cases d3:i=0
    ·have d4:=h0 d3;have d3b:((i:Int)==0)=true:=by simp[d3]
     have d4b:(a.start !=0)=false:=by simp[d4]
     simp[z2w,zf,snC,hi,hag,agC,zo,hj,hR,hE,hL,hG,hB,w1,w2,m1,m2,m3,m4,m5,m6,c1,c2,d1,d3b,d4b,zg,zH]
    ·have d3':((i:Int)==0)=false:=by simp[d3]
     simp[z2w,zf,snC,hi,hag,agC,zo,hj,hR,hE,hL,hG,hB,w1,w2,m1,m2,m3,m4,m5,m6,c1,c2,d1,d3,d3',zg,zH]
abbrev z3A:z2T:=⟨0,0,0,0⟩
def z7a(x y:z2T):Bool:=decide (x.qU<y.qU)||decide (x.qU=y.qU)&&decide (x.kp<=y.kp)
def z5F(nA nZ:Nat)(l:List z2T)(i:Nat):Bool :=
 decide ((l.getD i z3A).qU<0)||decide ((nA:Int)<=(l.getD i z3A).qU)||decide ((l.getD i z3A).kp<0)||decide ((nZ:Int)<=(l.getD i z3A).kp)||(match i with |0=>false |k+1=>z7a (l.getD (k+1) z3A) (l.getD k z3A))
def zIY(tick:Int)(x:z2T):Bool:=decide (x.since<0)||decide (tick<x.since)||decide (x.ux<0)||decide (100<x.ux)
structure KSn(m:zD)(s:SnV):Prop where
 tick:0<=s.tick/\s.tick<=1099511627776
 ags:∀a∈s.agents,WAg m a
 lat:∀a∈s.agents,s.tick<a.start->a.s=0
 few:s.agents.length<=8
 some:0<s.agents.length
 first:(s.agents[0]'some).start=0
 ins:s.ins.length<=1000
def z31(m:zD)(s:SnV):Int :=
 if s.agents.any (fun a=>decide (z3z m a≠0)) then 2 else
 if(List.range s.ins.length).any (z5F s.agents.length m.kr.length s.ins) then 11 else
 if s.ins.any (zIY s.tick) then 2 else 0
theorem z5V(m:zD)(s:SnV)(hn:s.ins.length<=1000)(i:Nat)(hi:i<s.ins.length) :
  Y L Cs z2F (some [7,2,3]) 2 [(7,.w (W i)),(2,.w (Pt 0)),(3,.w (Pt 1))] [bx 5 (zf m),bx 3 (snC s)] =
    if z5F s.agents.length m.kr.length s.ins i then some (.ret,[(4,.w (W 11))],[bx 5 (zf m),bx 3 (snC s),bxv 1 4 (z29 s.ins[i])])
    else Y L Cs z2F (some [7,2,3]) 2 [(7,.w (W (i+1:Nat))),(2,.w (Pt 0)),(3,.w (Pt 1))] [bx 5 (zf m),bx 3 (snC s)]:=by
 have hw:=zB (i:=i) (by omega);rw[ZfM z2F.eq_1];unfold z5F;rw[show s.ins.getD i z3A=s.ins[i] by simp[hi]];by_cases c1:s.ins[i].qU<0
 ·simp[snC,z29,zf,hi,c1,zg,zH]
 by_cases c2:(s.agents.length:Int)<=s.ins[i].qU
 ·simp[snC,z29,zf,hi,c1,c2,zg,zH]
 by_cases c3:s.ins[i].kp<0
 ·simp[snC,z29,zf,hi,c1,c2,c3,zg,zH]
 by_cases c4:(m.kr.length:Int)<=s.ins[i].kp
 ·simp[snC,z29,zf,hi,c1,c2,c3,c4,zg,zH]
 cases i with
 |zero =>
  have w1:IntKind.i64.wrap 1=1:=rfl;simp[snC,z29,zf,hi,w1,c1,c2,c3,c4,zg,zH]
 |succ k =>
  have hk:k<s.ins.length:=by omega
  have wk:=ku (k:Int);simp only[show s.ins.getD (k+1) z3A=s.ins[k+1] by simp[hi],show s.ins.getD k z3A=s.ins[k] by simp[hk]];unfold z7a;have qI:(0:Int)<(k:Int)+1:=by omega
  have a0:IntKind.i64.wrap ((k:Int)+1-1)=(k:Int):=by rw[zTd _ (by omega) (by omega)];omega
  have a1:(0:Int)<=(k:Int)+1:=by omega
  have a2:(k:Int)+1<(s.ins.length:Int):=by omega
  have a3:((k:Int)+1).toNat=k+1:=by omega
  have a4:(k:Int)<(s.ins.length:Int):=by omega
  have hw2:=ku ((k:Int)+1+1);generalize hy:s.ins[k]=y at *;generalize hx:s.ins[k+1]=x at *;by_cases c5:x.qU<y.qU
  ·simp[snC,z29,zf,hi,hx,hy,a0,a1,a2,a3,a4,hk,wk,qI,c1,c2,c3,c4,c5,zg,zH]
  by_cases c6:x.qU=y.qU
  ·have c6':(x.qU==y.qU)=true:=by simp[c6]
   have c6d:decide (x.qU=y.qU)=true:=by simp[c6]
   by_cases c7:x.kp<=y.kp
   ·simp[snC,z29,zf,hi,hx,hy,a0,a1,a2,a3,a4,hk,wk,qI,c1,c2,c3,c4,c5,c6',c6d,c7,zg,zH]
   ·simp[snC,z29,zf,hi,hx,hy,a0,a1,a2,a3,a4,hk,hw2,wk,qI,c1,c2,c3,c4,c5,c6',c6d,c7,zg,zH]
  ·have c6':(x.qU==y.qU)=false:=by simp[c6]
   simp[snC,z29,zf,hi,hx,hy,a0,a1,a2,a3,a4,hk,hw2,wk,qI,c1,c2,c3,c4,c5,c6',c6,zg,zH]
theorem z6G{m:zD}(h:zcp m)(s:SnV)(hs:KSn m s):Y L Cs z2G (some [2,3,6]) 2 [(2,.w (Pt 0)),(3,.w (Pt 1)),(6,.w (W 0))] [bx 5 (zf m),bx 3 (snC s)] =
  some (if s.agents.any (fun a=>decide (z3z m a≠0)) then(.ret,[(4,.w (W 2))],[bx 5 (zf m),bx 3 (snC s)]) else(.exit 0,[(36,.w (Bo false)),(3,.w (Pt 1)),(2,.w (Pt 0)),(6,.w (W s.agents.length))],[bx 5 (zf m),bx 3 (snC s)])):=by
 have yz:=hs.few;have hC:∀(i:Nat) (hi:i<s.agents.length),R L Cs z3u [.a (zf m),.a (snC s),W i] []=some (.w (W (z3z m s.agents[i])),[]):=fun i hi=>z5q h s hs.tick.1 i hi (hs.ags _ (ja hi)) (hs.lat _ (ja hi)) (by rintro rfl;exact hs.first)
 have:=zpE (L:=L) (Cs:=Cs) (b:=z2G) (live:=some [2,3,6]) (n0:=2) s.agents (fun i=>[(2,.w (Pt 0)),(3,.w (Pt 1)),(6,.w (W i))]) [bx 5 (zf m),bx 3 (snC s)] (fun a=>decide (z3z m a≠0)) (.ret,[(4,.w (W 2))],[bx 5 (zf m),bx 3 (snC s)]) (.exit 0,[(36,.w (Bo false)),(3,.w (Pt 1)),(2,.w (Pt 0)),(6,.w (W s.agents.length))],[bx 5 (zf m),bx 3 (snC s)])
  (fun i hi hb=>by
   have hw:=zB (i:=i) (by omega);have hc:=hC i hi;have e0:z3z m s.agents[i]=0:=by simpa using hb
   rw[e0]at hc;simp only[zf,snC]at hc;rw[ZfM z2G.eq_1];simp[zf,snC,hi,hw,hc])
  (fun i hi hb=>by
   have hc:=hC i hi;have e0:z3z m s.agents[i]=2:=z50 (by simpa using hb);rw[e0]at hc;simp only[zf,snC]at hc;rw[ZfM z2G.eq_1];simp[zf,snC,hi,hc])
  (by rw[ZfM z2G.eq_1];simp[snC,zf])
 simpa using this
theorem z5f{m:zD}(h:zcp m)(s:SnV)(hs:KSn m s):R L Cs z3m [.a (zf m),.a (snC s)] []=some (.w (W (z31 m s)),[]):=by
 have hk:=h.A9;have ht:=hs.tick;have yz:=hs.few;have qs:=hs.some;have BC:=hs.ins;have h1:=z6G h s hs;have h2:=zxf (L:=L) (Cs:=Cs) (b:=z2F) (live:=some [7,2,3]) (n0:=2) (List.range s.ins.length) (fun i=>[(7,.w (W i)),(2,.w (Pt 0)),(3,.w (Pt 1))]) [bx 5 (zf m),bx 3 (snC s)] (z5F s.agents.length m.kr.length s.ins) (fun i=>(.ret,[(4,.w (W 11))],[bx 5 (zf m),bx 3 (snC s),bxv 1 4 (z29 (s.ins.getD i z3A))])) (.exit 2,[(50,.w (Bo false)),(7,.w (W s.ins.length)),(2,.w (Pt 0)),(3,.w (Pt 1))],[bx 5 (zf m),bx 3 (snC s)])
  (fun i hi hb=>by
   rw[List.length_range]at hi;rw[List.getElem_range]at hb;rw[z5V m s BC i hi,hb];simp)
  (fun i hi hb=>by
   rw[List.length_range]at hi;rw[List.getElem_range]at hb;rw[z5V m s BC i hi,hb];simp[hi])
  (by rw[ZfM z2F.eq_1];simp[snC,zf])
 have h3:=zxf (L:=L) (Cs:=Cs) (b:=z2R) (live:=some [3,9]) (n0:=2) s.ins (fun i=>[(3,.w (Pt 1)),(9,.w (W i))]) [bx 5 (zf m),bx 3 (snC s)] (zIY s.tick) (fun i=>(.ret,[(4,.w (W 2))],[bx 5 (zf m),bx 3 (snC s),bxv 1 4 (z29 (s.ins.getD i z3A))])) (.exit 4,[(124,.w (Bo false)),(3,.w (Pt 1)),(9,.w (W s.ins.length))],[bx 5 (zf m),bx 3 (snC s)])
  (fun i hi hb=>by
   have hw:=zB (i:=i) (by omega);unfold zIY at hb;simp only[yb,decide_eq_false_iff_not]at hb;rw[ZfM z2R.eq_1];simp[zf,snC,z29,hi,hw,hb,zg,zH])
  (fun i hi hb=>by
   rw[ZfM z2R.eq_1];rw[show s.ins.getD i z3A=s.ins[i] by simp[hi]];unfold zIY at hb;by_cases c1:s.ins[i].since<0
   ·simp[zf,snC,z29,hi,c1,zg,zH]
   by_cases c2:s.tick<s.ins[i].since
   ·simp[zf,snC,z29,hi,c1,c2,zg,zH]
   by_cases c3:s.ins[i].ux<0
   ·simp[zf,snC,z29,hi,c1,c2,c3,zg,zH]
   by_cases c4:100<s.ins[i].ux
   ·simp[zf,snC,z29,hi,c1,c2,c3,c4,zg,zH]
   ·simp[c1,c2,c3,c4]at hb)
  (by rw[ZfM z2R.eq_1];simp[snC,zf])
 have t1:¬s.tick<0:=by omega
 have t2:¬1099511627776<s.tick:=by omega
 have t3:((s.agents.length:Int)==0)=false:=beq_false_of_ne (by omega);have t3':s.agents≠[]:=by intro e;simp[e]at qs
 have t4:¬8<s.agents.length:=by omega
 have t4':¬(8:Int)<s.agents.length:=by omega
 unfold z31;simp only[zf,snC,jg]at hk h1 h2 h3;rw[zUa z3L rfl];by_cases c1:s.agents.any (fun a=>decide (z3z m a≠0))
 ·rw[if_pos c1]at h1 ⊢;simp[z2I,zf,snC,hk,t1,t2,t3,t3',t4,t4',h1,zg]
 ·rw[if_neg c1]at h1 ⊢;cases e2:(List.range s.ins.length).findIdx? (z5F s.agents.length m.kr.length s.ins)with
  |some i =>
   rw[zRn _ _ e2];rw[e2]at h2;simp[z2I,zf,snC,hk,t1,t2,t3,t3',t4,t4',h1,h2,zg]
  |none =>
   rw[zRq _ _ e2];rw[e2]at h2;cases e3:s.ins.findIdx? (zIY s.tick)with
   |some i =>
    rw[e3]at h3;obtain⟨g1,g2,_⟩:=jM.1 e3;have:s.ins.any (zIY s.tick)=true:=jQ.2 ⟨_,ja g1,g2⟩;rw[this];simp[z2I,zf,snC,hk,t1,t2,t3,t3',t4,t4',h1,h2,h3,zg]
   |none =>
    rw[e3]at h3;rw[kE]at e3;have:s.ins.any (zIY s.tick)=false:=by simpa using e3
    rw[this];simp[z2I,zf,snC,hk,t1,t2,t3,t3',t4,t4',h1,h2,h3,zg]
def z4Q(m:zD)(a:AgV)(i:Nat)(x:Int):Spn:=⟨x,max 0 (a.s-a.len-jU m a.jf i),min (a.s-jU m a.jf i) (z8 m x)⟩
def z4F(m:zD)(a:AgV):Nat->List Int->List Spn
 |_,[]=>[]
 |i,x::r=>(if(z4Q m a i x).lo<=(z4Q m a i x).hi then [z4Q m a i x] else [])++z4F m a (i+1) r
theorem z51(m:zD)(a:AgV):∀(r:List Int) (i:Nat),(z4F m a i r).length<=r.length
 |[],_=>by simp[z4F]
 |x::r,i=>by
  have:=z51 m a r (i+1);unfold z4F;split<;>simp<;>omega
def z2B(m:zD)(a:AgV):List Spn:=z4F m a 0 a.jf
theorem z38{m:zD}(h:zcp m){a:AgV}(ha:WAg m a):(z2B m a).length<=8:=by
 have:=z51 m a a.jf 0;have:=(ha.on h).2.2;unfold z2B;omega
theorem z59{m:zD}(h:zcp m){a:AgV}(ha:WAg m a):∀(r:List Int) (i:Nat) (out:List Spn),a.jf.drop i=r->i<=a.jf.length->out.length<=i ->
  Y L Cs z2V (some [5,7,6,2,3]) 4 [(5,.w (.c (sl 3 3 (zWx out)))),(7,.w (W i)),(6,.w (.c (.jc (zu (zW m 0 a.jf))))),(2,.w (Pt 0)),(3,.w (Pt 1))] [bx 5 (zf m),bx 7 (agC a),gb 3,some (own 3 (zWx out))] =
    some (.exit 0,[(20,.w (Bo false)),(5,.w (.c (sl 3 3 (zWx (out++z4F m a i r))))),(7,.w (W a.jf.length)),(6,.w (.c (.jc (zu (zW m 0 a.jf))))),(2,.w (Pt 0)),(3,.w (Pt 1))],[bx 5 (zf m),bx 7 (agC a),gb 3,some (own 3 (zWx (out++z4F m a i r)))]):=by
 obtain⟨hon,hne,hl8⟩:=ha.on h;have hsl:(zW m 0 a.jf).length=a.jf.length:=zcO _ _ _;intro r;induction r with
 |nil =>
  intro i out hd hi ho;obtain rfl:=zUb hd hi;rw[ZfM z2V.eq_1];simp[z4F,hsl]
 |cons x r ih =>
  intro i out hd hi ho;obtain⟨hil,hx,hd'⟩:=zL hd;have hw:=zB (i:=i) (by omega);have hxm:=hon x (by rw[<-hx];exact ja _);have hL:=zEV h hxm;have hst:=ha.CF h hil;have h1:=ha.s;have h2:=ha.yf h;have h3:=ha.len;have hsi:i<(zW m 0 a.jf).length:=by omega
  have e2:(zW m 0 a.jf)[i]=jU m a.jf i:=by simp[jU,hsi]
  have w1:=ku (a.s-a.len);have w2:=ku (a.s-a.len-jU m a.jf i);have w3:=ku (a.s-jU m a.jf i);have jZ:(out.length+1)*24<=140737488355328:=by omega
  have hci:(i:Int)<a.jf.length:=by omega
  unfold z4F;simp only[zf]at hL;by_cases c:(z4Q m a i x).lo<=(z4Q m a i x).hi
  ·rw[if_pos c,<-jF,<-ih (i+1) (out++[z4Q m a i x]) hd' hil (by simp;omega),ZfM z2V.eq_1];clear ih;simp only[z4Q]at c;simp[z4Q,zWX,agC,hil,hci,hx,hsl,hsi,e2,hL,zf,hw,w1,w2,w3,c,jZ,zg,zH]
  ·rw[if_neg c,jk,<-ih (i+1) out hd' hil (by omega),ZfM z2V.eq_1];clear ih;simp only[z4Q]at c;simp[agC,hil,hci,hx,hsl,hsi,e2,hL,zf,hw,w1,w2,w3,c,zg,zH]
theorem z5H{m:zD}(h:zcp m){a:AgV}(ha:WAg m a):R L Cs z4p [.a (zf m),.a (agC a)] []=some (.w (.c (.jc (zWx (z2B m a)))),[]):=by
 have hl:=z59 h ha a.jf 0 [] rfl (jD _) (jq _);have hS:=zRG h ha.jf;have BJ:=z6s h ha;rw[jk]at hl;have e:z4F m a 0 a.jf=z2B m a:=rfl;rw[e]at hl;simp only[zf,agC,jg,sl,own,zZb,js,zXJ]at hl hS BJ;rw[zUa z4v rfl];simp[z3t,zf,agC,BJ,hS,hl,zg,zX]
theorem Zel{y:Int}:∀(l:List zfn) (i j:Nat) (h:j<l.length),y∈l[j].next->zes y i l≠[]
 |[],_,j,h,_=>absurd h (by simp)
 |a::l,i,j,h,hy=>by
  unfold zes;split
  ·simp
  ·cases j with
   |zero=>rename_i hn;exact absurd hy hn
   |succ j=>exact Zel l (i+1) j (by simpa using h) (by simpa using hy)
theorem Zea{m:zD}{x y:Int}(h:y∈zS m x):zes y 0 m.je≠[]:=by
 unfold zS at h;cases hq:m.je[x.toNat]? with
 |none=>rw[hq]at h;simp at h
 |some l =>
  rw[hq]at h;obtain⟨hl,e⟩:=kh.1 hq;refine Zel m.je 0 x.toNat hl ?_;rw[e];simpa using h
theorem Zb8{m:zD}{zs:List Zon}{ss:List Sgn}(hf:zmq m zs ss){r:List Int}(hr:zdA m r=0) :
  ∃x t,r=x::t/\(0<=x/\x<m.je.length)/\zes x 0 m.je=[]/\(t=[]\/∃y,t=[y]/\y∈zS m x/\(0<=y/\y<m.je.length)/\zes y 0 m.je≠[]/\zaK m y=zaK m x):=by
 obtain⟨hon,hne,_⟩:=zg1 hf.qe hr;have h2:=zlP hf.yV hr;cases r with
 |nil=>exact absurd rfl hne
 |cons x t =>
  have hbg:zes x 0 m.je=[]/\goF m x t=true:=by
   simp only[zdA]at hr
   (repeat' split at hr)<;>first |(exact absurd hr (by decide)) |(rename_i h g;exact⟨kO fun hc=>h hc,g⟩)
  obtain⟨hb,hg⟩:=hbg;refine⟨x,t,rfl,hon x (by simp),hb,?_⟩;cases t with
  |nil=>exact .inl rfl
  |cons y t =>
   cases t with
   |cons z t=>simp at h2
   |nil =>
    have hy:y∈zS m x:=by simpa [goF,zS]using hg
    exact .inr ⟨y,rfl,hy,hon y (by simp),Zea hy,hf.yV.kn x y hy⟩
theorem ZdA{m:zD}{x:Int}(hx:0<=x/\x<m.je.length)(h:zes x 0 m.je=[]):x∈zbK m 0 m.je:=by
 rw[zqS];exact⟨x.toNat,by omega,by omega,h⟩
theorem Zdp(m:zD)(a:AgV)(p:Spn):∀(r:List Int) (i:Nat),p∈z4F m a i r<->∃(j:Nat) (h:j<r.length),p=z4Q m a (i+j) r[j]/\p.lo<=p.hi
 |[],i=>by simp[z4F]
 |x::r,i=>by
  have ih:=Zdp m a p r (i+1);unfold z4F;rw[jt,ih];constructor
  ·rintro(h |⟨j,hj,e,hp⟩)
   ·split at h
    ·simp at h;subst h;exact⟨0,by simp,rfl,by assumption⟩
    ·cases h
   ·exact⟨j+1,by simpa using hj,by rw[e];simp[kU,yq 1 j],hp⟩
  ·rintro⟨j,hj,e,hp⟩;cases j with
   |zero =>
    left;simp only[kH,List.getElem_cons_zero]at e;rw[<-e,if_pos hp];simp
   |succ j=>exact .inr ⟨j,by simpa using hj,by rw[e];simp[kU,yq 1 j],hp⟩
theorem Zb9{m:zD}{a:AgV}{p:Spn}:p∈z2B m a<->∃(j:Nat) (h:j<a.jf.length),p=z4Q m a j a.jf[j]/\p.lo<=p.hi:=by
 unfold z2B;rw[Zdp];simp
theorem ZeA{x fr to:Int}{b:zk}{o:Int}(h1:b.lo<=o)(h2:o<=b.hi)(h:b.lane=x->fr<=to->o<fr\/to<o):∃c∈zoX x fr to b,c.lane=b.lane/\c.lo<=o/\o<=c.hi/\c.vlo=b.vlo/\c.vhi=b.vhi/\c.hold=b.hold/\(∀p q,p<=o->o<=q->b.lo<=p->q<=b.hi->(b.lane=x->fr<=to->q<fr\/to<p)->c.lo<=p/\q<=c.hi):=by
 unfold zoX;split
 ·exact⟨b,by simp,rfl,h1,h2,rfl,rfl,rfl,fun p q _ _ hp hq _=>⟨hp,hq⟩⟩
 ·rename_i hc;have c1:b.lane=x:=by omega
  have c2:fr<=to:=by omega
  rcases h c1 c2 with h|h
  ·refine⟨{ b with hi:=fr-1 },?_,rfl,h1,by show o<=fr-1;omega,rfl,rfl,rfl,fun p q hp hq a1 a2 a3=>?_⟩
   ·rw[jt,if_pos (by omega)];simp
   ·have:=a3 c1 c2;exact⟨a1,by show q<=fr-1;omega⟩
  ·refine⟨{ b with lo:=to+1 },?_,rfl,by show to+1<=o;omega,h2,rfl,rfl,rfl,fun p q hp hq a1 a2 a3=>?_⟩
   ·rw[jt,if_pos (show to<b.hi by omega)];simp
   ·have:=a3 c1 c2;exact⟨by show to+1<=p;omega,a2⟩
theorem Zc3(m:zD)(e:Ego)(len:Int)(x p q:Int)(hpq:p<=q):∀(r:List Int) (a:Int) (l:List zk) (b:zk),b∈l->b.lane=x->b.lo<=p->q<=b.hi->(∀(i:Nat) (h:i<r.length),r[i]=x->q<e.shi-len-(zW m a r).getD i 0\/e.slo-(zW m a r).getD i 0<p) ->
  ∃c∈zpO m e len a r l,c.lane=x/\c.lo<=p/\q<=c.hi/\c.vlo=b.vlo/\c.vhi=b.vhi/\c.hold=b.hold
 |[],a,l,b,hb,hx,h1,h2,_=>⟨b,hb,hx,h1,h2,rfl,rfl,rfl⟩
 |y::r,a,l,b,hb,hx,h1,h2,hg=>by
  unfold zpO;have h0:b.lane=y->e.shi-len-a<=e.slo-a->q<e.shi-len-a\/e.slo-a<p:=fun hy _=>by
   have:=hg 0 (by simp) (by simp;omega);simpa [zW]using this
  obtain⟨c,hc,e1,e2,e3,e4,e5,e6,e7⟩:=ZeA (x:=y) (fr:=e.shi-len-a) (to:=e.slo-a) (b:=b) (o:=p) h1 (by omega) (fun hy hf=>by have:=h0 hy hf;omega);obtain⟨g1,g2⟩:=e7 p q (by omega) (by omega) h1 h2 h0;obtain⟨d,hd,f1,f2,f3,f4,f5,f6⟩:=Zc3 m e len x p q hpq r (a+z8 m y) (zhn y (e.shi-len-a) (e.slo-a) l) c (zUl.2 ⟨b,hb,hc⟩) (by omega) g1 g2 (fun i hi hr=>by
   have:=hg (i+1) (by simpa using hi) (by simpa using hr);simpa [zW]using this)
  exact⟨d,hd,f1,f2,f3,by omega,by omega,by omega⟩
theorem Zc5(m:zD)(e:Ego)(len:Int){x p q:Int}(hpq:p<=q)(r:List Int)(l:List zk)(b:zk)(hb:b∈l)(hx:b.lane=x)(h1:b.lo<=p)(h2:q<=b.hi)(hg:∀(i:Nat) (h:i<r.length),r[i]=x->q<e.shi-len-jU m r i\/e.slo-jU m r i<p) :
  ∃c∈zkr m e len r l,c.lane=x/\c.lo<=p/\q<=c.hi/\c.vlo=b.vlo/\c.vhi=b.vhi/\c.hold=b.hold:=by
 unfold zkr;split
 ·exact Zc3 m e len x p q hpq r 0 l b hb hx h1 h2 hg
 ·exact⟨b,hb,hx,h1,h2,rfl,rfl,rfl⟩
theorem Zdq{K:List zk}(hK:K.Pairwise Apt){b c:zk}(hb:b∈K)(hc:c∈K){x o u:Int}(h1:b.lane=x)(h2:c.lane=x)(hou:o<=u+1/\u<=o+1)(a1:b.lo<=o)(a2:o<=b.hi)(a3:c.lo<=u)(a4:u<=c.hi):b=c:=by
 rcases zUM hK hb hc with h|h|h
 ·exact h
 ·unfold Apt at h;omega
 ·unfold Apt at h;omega
theorem Zdc{K:List zk}(hK:K.Pairwise Apt)(x v p:Int):∀(n:Nat),(∀o,p<=o->o<=p+n->∃b∈K,b.lane=x/\b.lo<=o/\o<=b.hi/\b.vlo<=v/\v<=b.vhi)->∃b∈K,b.lane=x/\b.lo<=p/\p+n<=b.hi/\b.vlo<=v/\v<=b.vhi
 |0,h=>by
  obtain⟨b,hb,e⟩:=h p (by omega) (by omega);exact⟨b,hb,e.1,e.2.1,by simpa using e.2.2.1,e.2.2.2⟩
 |n+1,h=>by
  obtain⟨b,hb,e1,e2,e3,e4⟩:=Zdc hK x v p n (fun o h1 h2=>h o h1 (by omega));obtain⟨c,hc,f1,f2,f3,f4⟩:=h (p+(n+1:Nat)) (by omega) (by omega);have:=Zdq hK hb hc e1 f1 (o:=p+n) (u:=p+(n+1:Nat)) (by omega) (by omega) e3 f2 f3;subst this;exact⟨b,hb,e1,e2,f3,e4⟩
def ZdE(f v next b r:Int):Prop:=f<r->f+zet v b<r->f+next+zet next b<r
def frF(m:zD)(a:AgV):Int:=a.s-jU m a.jf (z4R m a)
structure Mvd(m:zD)(red:List Int)(a b:AgV):Prop where
 jf:b.jf=a.jf
 len:b.len=a.len
 start:b.start=a.start
 uZ:b.uZ=a.uZ
 s:b.s=a.s+b.v
 pos:0<=b.v
 lo:a.v-zd4 (zaK m (z42 m a))<=b.v
 hi:b.v<=a.v+zif (zaK m (z42 m a))/\b.v<=zeR (zaK m (z42 m a))
 gone:b.gone=decide (zmd m 0 a.jf<b.s-a.len)
 red:a.uZ=true->frF m a<=z8 m (z42 m a)->∀l∈red,ZdE (frF m a) a.v b.v (zd4 (zaK m (z42 m a))) l
theorem Zdh{m:zD}{a:AgV}{x:Int}(h:a.jf=[x]):z4R m a=0/\z42 m a=x/\jU m a.jf 0=0:=by
 unfold z42 z4R jU;rw[h];have:laF [0] a.s 1=0:=by unfold laF;split<;>rfl
 simp[this,zW]
theorem ZcN{m:zD}{a:AgV}{x y:Int}(h:a.jf=[x,y]):jU m a.jf 0=0/\jU m a.jf 1=z8 m x/\(z8 m x<=a.s->z4R m a=1/\z42 m a=y)/\(a.s<z8 m x->z4R m a=0/\z42 m a=x):=by
 have e:zW m 0 [x,y]=[0,z8 m x]:=by simp[zW]
 have h1:z8 m x<=a.s->laF [0,z8 m x] a.s 2=1:=fun h=>by
  unfold laF;rw[if_pos (by simpa using h)]
 have h2:a.s<z8 m x->laF [0,z8 m x] a.s 2=0:=fun h=>by
  unfold laF;rw[if_neg (by simpa using h)];unfold laF;split<;>rfl
 unfold z42 z4R jU;rw[h,e];refine⟨by simp,by simp,fun hs=>?_,fun hs=>?_⟩
 ·simp[h1 hs]
 ·simp[h2 hs]
theorem ZdF{m:zD}{zs:List Zon}{ss:List Sgn}(hf:zmq m zs ss){a:AgV}(ha:WAg m a):∃hj:z4R m a<a.jf.length,a.jf[z4R m a]=z42 m a/\0<=frF m a:=by
 obtain⟨x,t,er,hx,hxs,ht⟩:=Zb8 hf ha.jf;have hs0:=ha.s.1;refine⟨ha.Cn hf.qe,?_,?_⟩
 ·have h:=ha.Cn hf.qe;simp[z42,jo,h]
 ·unfold frF;rcases ht with rfl |⟨y,rfl,hy,hyo,hys,hky⟩
  ·obtain⟨a1,a2,a3⟩:=Zdh (m:=m) er;rw[a1,a3];omega
  ·obtain⟨a0s,a1s,a2,a3⟩:=ZcN (m:=m) er;by_cases hc:z8 m x<=a.s
   ·rw[(a2 hc).1,a1s];omega
   ·rw[(a3 (by omega)).1,a0s];omega
theorem ZdB{m:zD}{r:List Int}{bar:Int}{b:zk}{lo hi:Int}{cap:Bool}{o:Int}(h0:0<=o)(h1:lo<=o)(h2:o<=hi)(h3:o<=z8 m b.lane)(hc:cap=true->∀i,zgo r b.lane=some i->o<=bar-jU m r i) :
  ∃z∈zbA m r bar b lo hi cap,z.1.lane=b.lane/\z.1.lo<=o/\o<=z.1.hi/\z.1.vlo=b.vlo/\z.1.vhi=b.vhi/\z.1.hold=b.hold:=by
 have ht:o<=zcj m r bar b.lane hi cap:=by
  unfold zcj;cases hq:zgo r b.lane with
  |none=>show o<=min hi _;omega
  |some i =>
   show o<=if cap=true then _ else _
   split
   ·rename_i hcc;have:=hc hcc i hq;omega
   ·omega
 refine⟨(zhO m r bar b lo hi cap,zcV r b.lane cap),?_,rfl,?_,ht,rfl,rfl,rfl⟩
 ·unfold zbA;rw[if_pos ?_]
  ·simp
  ·unfold stays;have e1:lo<=z8 m b.lane:=by omega
   have e2:max 0 lo<=zcj m r bar b.lane hi cap:=by omega
   rw[decide_eq_true e1,decide_eq_true e2];rfl
 ·show max 0 lo<=o;omega
theorem ZdD{m:zD}{zs:List Zon}{ss:List Sgn}(hf:zmq m zs ss){a a':AgV}{tick:Int}(hm:Mvd m (zeA zs ss (z42 m a) tick) a a')(hob:a.uZ=true){x st:Int}(hx:0<=x/\x<m.je.length)
  (hfr:st<=a.s->a.s<st+z8 m x->z42 m a=x/\jU m a.jf (z4R m a)=st) {b:zk} (hb:VB m b) (hl:b.lane=x) (hp:max 0 (a.s-a.len-st)<=min (a.s-st) (z8 m x)) (h1:b.lo<=max 0 (a.s-a.len-st)) (h2:min (a.s-st) (z8 m x)<=b.hi) (hv:a.v<=b.vhi)
  (hh:b.lane=z42 m a->b.lo<=frF m a->frF m a<=b.hi->b.hold=0\/frF m a+zet a.v (zd4 (zaK m (z42 m a)))<b.hold) {line:Int} (hln:line∈zeA zs ss b.lane tick) (hq:zcY m b line=true):line<z8 m x/\a'.s-st+zet a'.v (zd4 (zaK m x))<line:=by
 have hn:=(zuT hf hln).2;rw[hl]at hn;refine⟨hn,?_⟩;unfold zcY at hq;simp only[jh,qd,decide_eq_true_eq]at hq;obtain⟨q1,q2⟩:=hq;have e1:a.s-st<=b.hi:=by omega
 obtain⟨f1,f2⟩:=hfr (by omega) (by omega);have hs:=hm.s;have ht:=(BQ (zu9 hf.qe hx)).1;have hfe:frF m a=a.s-st:=by unfold frF;rw[f2]
 have key:frF m a+zet a.v (zd4 (zaK m x))<line:=by
  rcases q2 with q2 |⟨q2,q3⟩
  ·rw[hl]at q2;have:=zUE ht b.vhi.toNat a.v b.vhi hv (by omega);omega
  ·rcases hh (by rw[hl,f1]) (by omega) (by omega)with h|h
   ·exact absurd h q2
   ·rw[f1]at h;omega
 have hr:=hm.red hob (by rw[hfe,f1];omega) line (by rw[f1,<-hl];exact hln);unfold ZdE at hr;rw[f1]at hr;have:=hr (by omega) key;omega
theorem Zc6(m:zD)(zs:List Zon)(ss:List Sgn)(k:zci)(sg:Bool)(b:zk):(mvF m zs ss k sg b).lane=b.lane/\(mvF m zs ss k sg b).lo=(if decide (b.lane∈zbK m 0 m.je)=true/\b.lo=0 then 0 else b.lo+zcW m b)/\(mvF m zs ss k sg b).vlo=zcW m b/\(mvF m zs ss k sg b).vhi=zde m b /\
  ((mvF m zs ss k sg b).hi=b.hi+zde m b/\(mvF m zs ss k sg b).hold=0\/sg=true/\∃line∈zeA zs ss b.lane k.tick,zcY m b line=true/\(mvF m zs ss k sg b).hi=min (b.hi+zde m b) (line-1)/\(mvF m zs ss k sg b).hold=line):=by
 refine⟨rfl,rfl,rfl,rfl,?_⟩;unfold mvF zdC;cases sg with
 |false=>exact .inl ⟨rfl,rfl⟩
 |true =>
  cases hq:(zeA zs ss b.lane k.tick).find? (zcY m b)with
  |none=>left;simp[hq]
  |some line=>exact .inr ⟨rfl,line,qx hq,uO hq,by simp[hq],by simp[hq]⟩
theorem Zdm{m:zD}{red:List Int}{a a':AgV}(hm:Mvd m red a a'){b:zk}(hk:zaK m b.lane=zaK m (z42 m a))(h1:b.vlo<=a.v)(h2:a.v<=b.vhi):zcW m b<=a'.v/\a'.v<=zde m b:=by
 have e1:=hm.pos;have e2:=hm.lo;have e3:=hm.hi;unfold zcW zde;rw[hk];omega
theorem Zdf{m:zD}{zs:List Zon}{ss:List Sgn}(hf:zmq m zs ss){a a':AgV}{k:zci}(hm:Mvd m (zeA zs ss (z42 m a) k.tick) a a')(sg:Bool)(hob:sg=true->a.uZ=true){x st:Int}(hx:0<=x/\x<m.je.length)(hkx:zaK m x=zaK m (z42 m a))
  (hfr:st<=a.s->a.s<st+z8 m x->z42 m a=x/\jU m a.jf (z4R m a)=st) {b:zk} (hb:VB m b) (hl:b.lane=x) (hp:max 0 (a.s-a.len-st)<=min (a.s-st) (z8 m x)) (h1:b.lo<=max 0 (a.s-a.len-st)) (h2:min (a.s-st) (z8 m x)<=b.hi) (hv1:b.vlo<=a.v) (hv:a.v<=b.vhi)
  (hh:sg=true->b.lane=z42 m a->b.lo<=frF m a->frF m a<=b.hi->b.hold=0\/frF m a+zet a.v (zd4 (zaK m (z42 m a)))<b.hold)
  {o:Int} (ho:0<=o) (hon:o<=z8 m x) (ho1:a'.s-a.len-st<=o) (ho2:o<=a'.s-st) (htail:o-a'.v<0->st=0/\x∈zbK m 0 m.je)
  {r:List Int} {bar slo len:Int} (qV:zfP m r len k b=true->∀i,zgo r x=some i->o<=bar-jU m r i) :
  ∃z∈zm8 m zs ss r bar slo len k sg b,z.1.lane=x/\z.1.lo<=o/\o<=z.1.hi/\z.1.vlo<=a'.v/\a'.v<=z.1.vhi/\(z.1.hold=0\/sg=true/\o+zet a'.v (zd4 (zaK m x))<z.1.hold):=by
 obtain⟨e1,e2,e3,e4,e5⟩:=Zc6 m zs ss k sg b;obtain⟨s1,s2⟩:=Zdm hm (by rw[hl];exact hkx) hv1 hv;have hs:=hm.s;have hlo:=hb.lo;have qI:=hm.pos;have hst:=zVc (BQ (zu9 hf.qe hx)).1 a'.v.toNat a'.v (by omega);have c1:(mvF m zs ss k sg b).lo<=o:=by
  rw[e2];split
  ·exact ho
  ·rename_i hn;by_cases hy:o-a'.v<0
   ·obtain⟨t1,t2⟩:=htail hy;subst t1;exact absurd ⟨decide_eq_true (by rw[hl];exact t2),by omega⟩ hn
   ·omega
 have C7:∃hd,(mvF m zs ss k sg b).hold=hd/\o<=(mvF m zs ss k sg b).hi/\(hd=0\/sg=true/\o+zet a'.v (zd4 (zaK m x))<hd):=by
  rcases e5 with⟨f1,f2⟩ |⟨hsg,line,f1,f2,f3,f4⟩
  ·refine⟨_,rfl,?_,.inl f2⟩;rw[f1];omega
  ·obtain⟨l1,l2⟩:=ZdD hf hm (hob hsg) hx hfr hb hl hp h1 h2 hv (hh hsg) f1 f2;refine⟨_,rfl,?_,.inr ⟨hsg,?_⟩⟩
   ·rw[f3];omega
   ·rw[f4];omega
 obtain⟨hd,q1,q2,q3⟩:=C7;obtain⟨z,hz,z1,z2,z3,z4,z5,z6⟩:=ZdB (m:=m) (r:=r) (bar:=bar) (b:=mvF m zs ss k sg b) (lo:=(mvF m zs ss k sg b).lo) (hi:=(mvF m zs ss k sg b).hi) (cap:=zfP m r len k b) ho c1 q2 (by rw[e1,hl];exact hon) (by rw[e1,hl];exact qV);refine⟨z,?_,by omega,z2,z3,by omega,by omega,by rw[z6,q1];exact q3⟩;unfold zm8;rw[if_pos (by omega)];unfold zlZ;exact j6 _ hz
theorem Zes{m:zD}{zs:List Zon}{ss:List Sgn}(hf:zmq m zs ss){a a':AgV}{k:zci}(hm:Mvd m (zeA zs ss (z42 m a) k.tick) a a')(sg:Bool)(hob:sg=true->a.uZ=true){x y:Int}(hx:0<=x/\x<m.je.length)(hsx:x∈zbK m 0 m.je)(hy:y∈zS m x)(hkx:zaK m x=zaK m (z42 m a))
  (hfr:0<=a.s->a.s<0+z8 m x->z42 m a=x/\jU m a.jf (z4R m a)=0) {b:zk} (hb:VB m b) (hl:b.lane=x) (hs0:0<=a.s) (hp:max 0 (a.s-a.len)<=min a.s (z8 m x)) (h1:b.lo<=max 0 (a.s-a.len)) (h2:min a.s (z8 m x)<=b.hi) (hv1:b.vlo<=a.v) (hv:a.v<=b.vhi)
  (hh:sg=true->b.lane=z42 m a->b.lo<=frF m a->frF m a<=b.hi->b.hold=0\/frF m a+zet a.v (zd4 (zaK m (z42 m a)))<b.hold)
  {o:Int} (ho:0<=o) (hon:o<=z8 m y) (ho1:a'.s-a.len-z8 m x<=o) (ho2:o<=a'.s-z8 m x) (Cw:o-a'.v<0)
  {r:List Int} {bar slo len:Int} (qV:zhq m r slo x y (zfP m r len k b)=true->∀i,zgo r y=some i->o<=bar-jU m r i) :
  ∃z∈zm8 m zs ss r bar slo len k sg b,z.1.lane=y/\z.1.lo<=o/\o<=z.1.hi/\z.1.vlo<=a'.v/\a'.v<=z.1.vhi/\z.1.hold=0:=by
 obtain⟨e1,e2,e3,e4,e5⟩:=Zc6 m zs ss k sg b;obtain⟨s1,s2⟩:=Zdm hm (by rw[hl];exact hkx) hv1 hv;have hs:=hm.s;have hlo:=hb.lo;have qI:=hm.pos;have hst:=zVc (BQ (zu9 hf.qe hx)).1 a'.v.toNat a'.v (by omega);have c1:(mvF m zs ss k sg b).lo<=o+z8 m x:=by
  rw[e2];split
  ·omega
  ·rename_i hn;by_cases hy:b.lo=0
   ·exact absurd ⟨decide_eq_true (by rw[hl];exact hsx),hy⟩ hn
   ·omega
 have c2:o+z8 m x<=(mvF m zs ss k sg b).hi:=by
  rcases e5 with⟨f1,f2⟩ |⟨hsg,line,f1,f2,f3,f4⟩
  ·rw[f1];omega
  ·obtain⟨l1,l2⟩:=ZdD (st:=0) hf hm (hob hsg) hx hfr hb hl (by simpa using hp) (by simpa using h1) (by simpa using h2) hv (hh hsg) f1 f2;omega
 obtain⟨z,hz,z1,z2,z3,z4,z5,z6⟩:=ZdB (m:=m) (r:=r) (bar:=bar) (b:=za6 (mvF m zs ss k sg b) y) (lo:=(mvF m zs ss k sg b).lo-z8 m x) (hi:=(mvF m zs ss k sg b).hi-z8 m x) (cap:=zhq m r slo x y (zfP m r len k b)) ho (by omega) (by omega) hon qV;refine⟨z,?_,z1,z2,z3,?_,?_,z6⟩
 ·unfold zm8;rw[if_pos (by omega)];unfold zlZ;refine kL _ ?_;rw[e1,hl,if_neg (by omega),kQ];refine⟨y,hy,?_⟩;unfold zg3;rw[e1,hl];exact hz
 ·rw[z4];exact e3 ▸ s1
 ·rw[z5];exact e4 ▸ s2
structure z7y(m:zD)(zs:List Zon)(ss:List Sgn):Prop where
 full:zmq m zs ss
 pos:0<m.je.length
 zn2:zs.length<=2
 srt:∀l,zdA m l=0->zN1 (zKh m zs 0 l)
 few:∀l,zdA m l=0->(zKh m zs 0 l).length<=19
theorem z7A(k:Nat)(hk:k<7){lim r o1 o2 o3 v:Int}{ws:List zCP}(nu:zp2 k lim r o1 o2 o3 v ws):z7y (zq k lim r o1 o2 o3 v ws) (zsP k r) (ssP k r o1 o2 o3):=by
 have hf:=zCE k hk nu;obtain⟨z1,z2⟩:=zOQ k hk r;refine⟨hf,zE9 k hk _ _ _ _ _ _ _,z1,fun l hr=>zMq (zTp hf.yV (zQa k hk lim r o1 o2 o3 v ws) hr),fun l hr=>?_⟩;have:=zOu hf z1 z2 hr;omega
def z5u(m:zD)(zs:List Zon)(a b:AgV)(z:Int)(p:Pss):Bool:=decide (p.kp=z)&&decide (a.s-a.len<=p.hi)&&decide (p.lo<=b.s)
def Zb7(m:zD)(zs:List Zon)(a b:AgV)(z:Int):Bool:=(zKh m zs 0 a.jf).any (z5u m zs a b z)
theorem z4G{m:zD}{zs:List Zon}{ss:List Sgn}(hF:z7y m zs ss){a b:AgV}(ha:WAg m a)(hb:WAg m b)(z:Int):R L Cs z3B [.a (zf m),.a (agC a),.a (agC b),W z] []=some (.w (Bo (Zb7 m zs a b z)),[]):=by
 have h:=hF.full.qe;have hP:=zRH hF.full ha.jf (hF.srt _ ha.jf) (hF.few _ ha.jf);have hpl:=hF.few _ ha.jf;have BJ:=z6s h ha;have Dm:=z6s h hb;have h1:=ha.s;have h2:=ha.yf h;have h3:=ha.len;have w1:=ku (a.s-a.len);unfold Zb7;generalize zKh m zs 0 a.jf=ps at *;have hL:=zpE (L:=L) (Cs:=Cs) (b:=z2L) (live:=some [3,5,6,9,10]) (n0:=3) ps (fun i=>[(3,.w (W z)),(5,.w (Pt 1)),(6,.w (Pt 2)),(9,.w (.c (.jc (zKd ps)))),(10,.w (W i))]) [bx 5 (zf m),bx 7 (agC a),bx 7 (agC b)] (z5u m zs a b z) (.ret,[(8,.w (Bo true))],[bx 5 (zf m),bx 7 (agC a),bx 7 (agC b)]) (.exit 0,[(26,.w (Bo false)),(9,.w (.c (.jc (zKd ps)))),(6,.w (Pt 2)),(5,.w (Pt 1)),(3,.w (W z)),(10,.w (W ps.length))],[bx 5 (zf m),bx 7 (agC a),bx 7 (agC b)])
  (fun i hi hc=>by
   have hw:=zB (i:=i) (by omega);generalize hp:ps[i]=p at *;unfold z5u at hc;rw[ZfM z2L.eq_1];by_cases c1:p.kp=z
   ·have b1:(p.kp==z)=true:=by simp[c1]
    by_cases c2:a.s-a.len<=p.hi
    ·have c3:¬p.lo<=b.s:=by simpa [c1,c2]using hc
     simp[zf,agC,zKF,hi,hp,hw,w1,b1,c2,c3]
    ·simp[zf,agC,zKF,hi,hp,hw,w1,b1,c2]
   ·have b1:(p.kp==z)=false:=by simp[c1]
    simp[zf,agC,zKF,hi,hp,hw,w1,b1])
  (fun i hi hc=>by
   generalize hp:ps[i]=p at *;unfold z5u at hc;simp only[jh,decide_eq_true_eq]at hc;obtain⟨⟨c1,c2⟩,c3⟩:=hc;have b1:(p.kp==z)=true:=by simp[c1]
   rw[ZfM z2L.eq_1];simp[zf,agC,zKF,hi,hp,w1,b1,c2,c3])
  (by rw[ZfM z2L.eq_1];simp[zf,agC])
 simp only[zf,agC,jg]at hP BJ Dm hL;rw[zUa z34 rfl];cases hq:ps.any (z5u m zs a b z)with
 |true =>
  rw[hq]at hL;simp[z24,zf,agC,hP,BJ,Dm,hL,zg]
 |false =>
  rw[hq]at hL;simp[z24,zf,agC,hP,BJ,Dm,hL,zg]
theorem z5x(st:Int)(z:Nat)(x:Int):∀(l:List Prt) (k:Nat) (p:Pss),p∈zLB st z x k l->p.kp=z/\∃q∈l,q.lane=x
 |[],_,_,h=>by simp[zLB]at h
 |q::l,k,p,h=>by
  unfold zLB at h;split at h
  ·rename_i c;rcases jB.1 h with rfl|h
   ·exact⟨rfl,q,by simp,c⟩
   ·obtain⟨h1,q',h2,h3⟩:=z5x st z x l _ p h;exact⟨h1,q',by simp[h2],h3⟩
  ·obtain⟨h1,q',h2,h3⟩:=z5x st z x l _ p h;exact⟨h1,q',by simp[h2],h3⟩
theorem z6m(st x:Int):∀(l:List Zon) (z:Nat) (p:Pss),p∈zLA st x z l->∃j:Nat,∃hj:j<l.length,p.kp=((z+j:Nat):Int)/\∃q∈l[j].parts,q.lane=x
 |[],_,_,h=>by simp[zLA]at h
 |q::l,z,p,h=>by
  unfold zLA at h;rcases jt.1 h with h|h
  ·obtain⟨h1,h2⟩:=z5x st z x _ _ p h;exact⟨0,by simp,by simpa using h1,by simpa using h2⟩
  ·obtain⟨j,hj,h1,h2⟩:=z6m st x l (z+1) p h;exact⟨j+1,by simp;omega,by rw[h1];congr 1;omega,by simpa using h2⟩
theorem z6n(m:zD)(zs:List Zon):∀(r:List Int) (a:Int) (p:Pss),p∈zKh m zs a r->∃x∈r,∃j:Nat,∃hj:j<zs.length,p.kp=(j:Int)/\∃q∈zs[j].parts,q.lane=x
 |[],_,_,h=>by simp[zKh]at h
 |x::r,a,p,h=>by
  unfold zKh at h;rcases jt.1 h with h|h
  ·obtain⟨j,hj,h1,h2⟩:=z6m a x zs 0 p h;exact⟨x,by simp,j,hj,by simpa using h1,h2⟩
  ·obtain⟨y,hy,h'⟩:=z6n m zs r _ p h;exact⟨y,by simp[hy],h'⟩
def z6b(q:Zon)(l:List Int):Option Nat:=l.findIdx? fun x=>(zjF q x).isSome
theorem z5g{m:zD}{zs:List Zon}{ss:List Sgn}(hf:zmq m zs ss){l:List Int}(hr:zdA m l=0)(z:Nat)(hz:z<zs.length) :
  R L Cs z4b [.a (zf m),.c (.jc (zu l)),W z] []=some (.w (W (match z6b zs[z] l with |some i=>(i:Int) |none=>-1)),[]):=by
 obtain⟨_,_,hl8⟩:=zg1 hf.qe hr;have h1:=zp0 m hf.qe.small hf.qe.A9 l (by omega);rw[hr]at h1;have hzz:=hf.zd.z;have hcz:(z:Int)<zs.length:=by omega
 have hpf:=hf.zd.BT _ (ja hz);have hL:=zxf (L:=L) (Cs:=Cs) (b:=z2S) (live:=some [3,2,1,7]) (n0:=1) l (fun i=>[(3,.w (Pt 0)),(2,.w (W z)),(1,.w (.c (.jc (zu l)))),(7,.w (W i))]) [bx 5 (zf m)] (fun x=>(zjF zs[z] x).isSome) (fun i=>(.ret,[(6,.w (W i))],[bx 5 (zf m),bxv 1 4 (zeB ((zjF zs[z] (l.getD i 0)).getD zto))])) (.exit 0,[(28,.w (Bo false)),(1,.w (.c (.jc (zu l)))),(2,.w (W z)),(3,.w (Pt 0)),(7,.w (W l.length))],[bx 5 (zf m)])
  (fun i hi hb=>by
   have hw:=zB (i:=i) (by omega);have hp:=zxM zs[z] l[i] (by omega);rw[hb]at hp;generalize hx:l[i]=x at *;generalize (zjF zs[z] x).getD zto=y at *;simp only[zeB,zdP]at hp;rw[ZfM z2S.eq_1];simp[zf,hzz,zdP,zeB,hi,hz,hcz,hx,hw,hp,zg,zH])
  (fun i hi hb=>by
   have hp:=zxM zs[z] l[i] (by omega);rw[hb]at hp;rw[show l.getD i 0=l[i] by simp[hi]];generalize hx:l[i]=x at *;generalize (zjF zs[z] x).getD zto=y at *;simp only[zeB,zdP]at hp;rw[ZfM z2S.eq_1];simp[zf,hzz,zdP,zeB,hi,hz,hcz,hx,hp,zg,zH])
  (by rw[ZfM z2S.eq_1];simp[zf])
 have z0:¬(z:Int)<0:=by omega
 have z1:¬zs.length<=z:=by omega
 simp only[zf,hzz,jg]at h1 hL;rw[zUa z4j rfl];unfold z6b;cases hq:l.findIdx? (fun x=>(zjF zs[z] x).isSome)with
 |none =>
  rw[hq]at hL;simp[z3c,zf,hzz,h1,hL,hz,hcz,z0,z1,zg]
 |some i =>
  rw[hq]at hL;simp[z3c,zf,hzz,h1,hL,hz,hcz,z0,z1,zg]
theorem z5Z{m:zD}{zs:List Zon}{a b:AgV}{z:Nat}(hz:z<zs.length)(hp:Zb7 m zs a b z=true):∃i,z6b zs[z] a.jf=some i/\i<a.jf.length:=by
 unfold Zb7 at hp;obtain⟨p,hp1,hp2⟩:=jQ.1 hp;obtain⟨x,hx,j,hj,h1,q,h2,h3⟩:=z6n m zs a.jf 0 p hp1;unfold z5u at hp2;simp only[jh,decide_eq_true_eq]at hp2;have e:j=z:=by have:=hp2.1.1;omega
 subst e;unfold z6b;cases hq:a.jf.findIdx? (fun x=>(zjF zs[j] x).isSome)with
 |some i =>
  obtain⟨g1,_⟩:=jM.1 hq;exact⟨i,rfl,g1⟩
 |none =>
  rw[kE]at hq;have:=hq x hx;unfold zjF at this;simp at this;exact absurd h3 (this q h2)
def z5a(x y:Spn):Bool:=decide (x.lane=y.lane)&&decide (x.lo<=y.hi)&&decide (y.lo<=x.hi)
abbrev toM(m:zD)(a b:AgV):Mem:=[bx 5 (zf m),bx 7 (agC a),bx 7 (agC b)]
def ZbU(m:zD)(a b:AgV):Bool:=(z2B m a).any fun x=>(z2B m b).any (z5a x)
theorem z5Q(m:zD)(a b:AgV)(k l:List Spn)(hk:k.length<=8)(hl:l.length<=8)(i:Nat)(hi:i<k.length):Y L Cs z2A (some [8,7,9,10]) 3 [(8,.w (.c (.jc (zWx l)))),(7,.w (.c (.jc (zWx k)))),(9,.w (W i)),(10,.w (W (0:Nat)))] (toM m a b) =
  some (if l.any (z5a k[i]) then(.ret,[(6,.w (Bo true))],toM m a b) else(.exit 2,[(26,.w (Bo false)),(9,.w (W i)),(7,.w (.c (.jc (zWx k)))),(8,.w (.c (.jc (zWx l)))),(10,.w (W l.length))],toM m a b)):=by
 have hci:(i:Int)<k.length:=by omega
 generalize hx:k[i]=x at *;refine zpE (L:=L) (Cs:=Cs) (b:=z2A) (live:=some [8,7,9,10]) (n0:=3) l (fun j=>[(8,.w (.c (.jc (zWx l)))),(7,.w (.c (.jc (zWx k)))),(9,.w (W i)),(10,.w (W j))]) (toM m a b) (z5a x) _ _ ?_ ?_ ?_
 ·intro j hj hb;have hw:=zB (i:=j) (by omega);generalize hy:l[j]=y at *;unfold z5a at hb;rw[ZfM z2A.eq_1];by_cases c1:x.lane=y.lane
  ·have b1:(x.lane==y.lane)=true:=by simp[c1]
   by_cases c2:x.lo<=y.hi
   ·have c3:¬y.lo<=x.hi:=by simpa [c1,c2]using hb
    simp[toM,zf,agC,zWX,hi,hci,hj,hx,hy,hw,b1,c2,c3]
   ·simp[toM,zf,agC,zWX,hi,hci,hj,hx,hy,hw,b1,c2]
  ·have b1:(x.lane==y.lane)=false:=by simp[c1]
   simp[toM,zf,agC,zWX,hi,hci,hj,hx,hy,hw,b1]
 ·intro j hj hb;generalize hy:l[j]=y at *;unfold z5a at hb;simp only[jh,decide_eq_true_eq]at hb;obtain⟨⟨c1,c2⟩,c3⟩:=hb;have b1:(x.lane==y.lane)=true:=by simp[c1]
  rw[ZfM z2A.eq_1];simp[toM,zf,agC,zWX,hi,hci,hj,hx,hy,b1,c2,c3]
 ·rw[ZfM z2A.eq_1];simp[toM,zf,agC]
theorem z55{m:zD}(h:zcp m){a b:AgV}(ha:WAg m a)(hb:WAg m b):R L Cs z3y [.a (zf m),.a (agC a),.a (agC b)] []=some (.w (Bo ((z2B m a).any fun x=>(z2B m b).any (z5a x))),[]):=by
 have h1:=z5H h ha;have h2:=z5H h hb;have hk:=z38 h ha;have hl:=z38 h hb;generalize z2B m a=k at *;generalize z2B m b=l at *;have hL:=zpE (L:=L) (Cs:=Cs) (b:=z2J) (live:=some [8,7,9]) (n0:=3) k (fun i=>[(8,.w (.c (.jc (zWx l)))),(7,.w (.c (.jc (zWx k)))),(9,.w (W i))]) (toM m a b) (fun x=>l.any (z5a x)) (.ret,[(6,.w (Bo true))],toM m a b) (.exit 0,[(20,.w (Bo false)),(8,.w (.c (.jc (zWx l)))),(7,.w (.c (.jc (zWx k)))),(9,.w (W k.length))],toM m a b)
  (fun i hi hb=>by
   have hw:=zB (i:=i) (by omega);have hI:=z5Q m a b k l hk hl i hi;rw[hb]at hI;simp only[toM,zf,agC,jg]at hI;rw[ZfM z2J.eq_1];simp[toM,zf,agC,hi,hw,hI])
  (fun i hi hb=>by
   have hI:=z5Q m a b k l hk hl i hi;rw[hb]at hI;simp only[toM,zf,agC,jg]at hI;rw[ZfM z2J.eq_1];simp[toM,zf,agC,hi,hI])
  (by rw[ZfM z2J.eq_1];simp[toM,zf,agC])
 simp only[toM,zf,agC,jg]at h1 h2 hL;rw[zUa z30 rfl];cases hq:k.any (fun x=>l.any (z5a x))with
 |true =>
  rw[hq]at hL;simp[z21,zf,agC,h1,h2,hL,zg]
 |false =>
  rw[hq]at hL;simp[z21,zf,agC,h1,h2,hL,zg]
theorem z7f{m:zD}{zs:List Zon}{ss:List Sgn}(hF:z7y m zs ss){a:AgV}(ha:WAg m a)(z:Nat)(hz:z<zs.length)(tk:Int)(htk:0<=tk):∃r,(0<=r/\r<=100)/\R L Cs z3M [.a (zf m),.a (agC a),W z,W tk] []=some (.w (W r),[]):=by
 have hf:=hF.full;have hE:=z5g hf ha.jf z hz;obtain⟨hon,_,hl8⟩:=ha.on hf.qe;have hzz:=hf.zd.z;have hcz:(z:Int)<zs.length:=by omega
 have hpf:=hf.zd.BT _ (ja hz);have hpv:=hf.pv _ (ja hz);have hsg:=hf.zd.sig _ (ja hz);rw[zUa z4u rfl];cases he:z6b zs[z] a.jf with
 |none =>
  rw[he]at hE;refine⟨0,by omega,?_⟩;simp only[zf,hzz,agC]at hE;simp[z2K,zf,hzz,agC,hE,zg]
 |some i =>
  rw[he]at hE;have hi:i<a.jf.length:=(jM.1 he).1;have hci:(i:Int)<a.jf.length:=by omega
  have hx:=hon _ (ja hi);generalize hxx:a.jf[i]=x at *;generalize hq:zs[z]=q at *;have hn0:¬(i:Int)<0:=by omega
  by_cases c:0<q.qR
  ·obtain⟨j,hj⟩:∃j:Nat,q.qR-1=(j:Int):=⟨(q.qR-1).toNat,by omega⟩;have hjl:j<ss.length:=by omega
   have hsf:=hf.zd.CU;have hG:=zRT hf j hjl x hx tk htk;have hw:IntKind.i64.wrap (q.qR-1)=(j:Int):=by rw[zTd _ (by omega) (by omega)];exact hj
   generalize zfA ss[j] x tk=g at *;simp only[zf,hzz,agC]at hE hG;cases g with
   |true =>
    refine⟨2,by omega,?_⟩;simp[z2K,zf,hzz,zdP,agC,hE,hG,hz,hcz,hq,hi,hci,hn0,hxx,c,hw,zg,zH]
   |false =>
    refine⟨0,by omega,?_⟩;simp[z2K,zf,hzz,zdP,agC,hE,hG,hz,hcz,hq,hi,hci,hn0,hxx,c,hw,zg,zH]
  ·have hL:=zxf (L:=L) (Cs:=Cs) (b:=z2U) (live:=some [5,9,10,11]) (n0:=3) q.parts (fun i'=>[(5,.w (Pt 1)),(9,.w (W i)),(10,.w (Pt 2)),(11,.w (W i'))]) [bx 5 (zf m),bx 7 (agC a),bxv 1 2 (zdP q)] (fun p=>decide (p.lane=x)) (fun j=>(.ret,[(8,.w (W (q.parts.getD j zto).ux))],[bx 5 (zf m),bx 7 (agC a),bxv 1 2 (zdP q)])) (.exit 0,[(42,.w (Bo false)),(9,.w (W i)),(5,.w (Pt 1)),(10,.w (Pt 2)),(11,.w (W q.parts.length))],[bx 5 (zf m),bx 7 (agC a),bxv 1 2 (zdP q)])
    (fun j hj hb=>by
     have hw:=zB (i:=j) (by omega);generalize hp:q.parts[j]=p at *;have hb:¬p.lane=x:=by simpa using hb
     have b1:(p.lane==x)=false:=by simp[hb]
     rw[ZfM z2U.eq_1];simp[zf,zdP,agC,zeB,hi,hci,hxx,hj,hp,hw,b1])
    (fun j hj hb=>by
     rw[show q.parts.getD j zto=q.parts[j] by simp[hj]];generalize hp:q.parts[j]=p at *;have b1:(p.lane==x)=true:=by simpa using hb
     rw[ZfM z2U.eq_1];simp[zf,zdP,agC,zeB,hi,hci,hxx,hj,hp,b1])
    (by rw[ZfM z2U.eq_1];simp[zf,zdP,agC])
   simp only[zf,hzz,agC,zdP,jg]at hE hL;cases hy:q.parts.findIdx? (fun p=>decide (p.lane=x))with
   |none =>
    rw[hy]at hL;refine⟨0,by omega,?_⟩;simp[z2K,zf,hzz,zdP,agC,hE,hL,hz,hcz,hq,hn0,c,zg,zH]
   |some j =>
    rw[hy]at hL;have hjq:j<q.parts.length:=(jM.1 hy).1;have hrk:=hpv _ (ja hjq);rw[show q.parts[j]=q.parts.getD j zto by simp[hjq]]at hrk;refine⟨(q.parts.getD j zto).ux,hrk.2.2.2.2,?_⟩;simp only at hL;simp[z2K,zf,hzz,zdP,agC,hE,hL,hz,hcz,hq,hn0,c,zg,zH]
def Zde:Zon:=⟨[],0⟩
theorem Zdd{P:Nat->Prop}{z n:Nat}{out:List Int}(h0:¬P z)(h:out≠[]\/∃w,z<=w/\w<n/\P w):out≠[]\/∃w,z+1<=w/\w<n/\P w:=by
 rcases h with h |⟨w,h1,h2,h3⟩
 ·exact .inl h
 ·refine .inr ⟨w,?_,h2,h3⟩;rcases kD z w with h|h
  ·exact h
  ·have:w=z:=by omega
   subst this;exact absurd h3 h0
theorem Zgc{P:Nat->Prop}{z n:Nat}{out:List Int}(h:out≠[]\/∃w,z+1<=w/\w<n/\P w):out≠[]\/∃w,z<=w/\w<n/\P w:=by
 rcases h with h |⟨w,h1,h2,h3⟩
 ·exact .inl h
 ·exact .inr ⟨w,by omega,h2,h3⟩
def ZcH(m:zD)(zs:List Zon)(a b a' b':AgV)(z:Nat):Bool:=Zb7 m zs a a' z&&(Zb7 m zs b b' z&&decide (a.jf.getD ((z6b (zs.getD z Zde) a.jf).getD 0) 0≠b.jf.getD ((z6b (zs.getD z Zde) b.jf).getD 0) 0))
abbrev znM(m:zD)(s t:SnV)(out:List Int):Mem:=[bx 5 (zf m),bx 3 (snC s),bx 3 (snC t),gb 1,some (own 1 (zu out))]
abbrev znE(i j z:Nat)(out:List Int):Env:=[(12,.w (W z)),(6,.w (Pt 1)),(3,.w (W i)),(7,.w (Pt 2)),(4,.w (W j)),(11,.w (.c (sl 4 1 (zu out)))),(5,.w (Pt 0))]
theorem z61{m:zD}{zs:List Zon}{ss:List Sgn}(hF:z7y m zs ss)(s t:SnV)(ht:t.agents.length=s.agents.length)(i j:Nat)(hi:i<s.agents.length)(hj:j<s.agents.length)(ha:WAg m s.agents[i])(hb:WAg m s.agents[j])(hc:WAg m (t.agents[i]'(by omega)))(hd:WAg m (t.agents[j]'(by omega))):∀(f z:Nat) (out:List Int),z+f=zs.length->out.length<=z->∃um:List Int,(um.length<=zs.length/\((out≠[]\/∃w,z<=w/\w<zs.length/\ZcH m zs s.agents[i] s.agents[j] (t.agents[i]'(by omega)) (t.agents[j]'(by omega)) w=true)->um≠[])/\(um≠[]->out≠[]\/∃w,z<=w/\w<zs.length/\ZcH m zs s.agents[i] s.agents[j] (t.agents[i]'(by omega)) (t.agents[j]'(by omega)) w=true)) /\
  Y L Cs z20 (some [12,6,3,7,4,11,5]) 5 (znE i j z out) (znM m s t out)=some (.exit 0,[(19,.w (Bo false)),(12,.w (W zs.length)),(6,.w (Pt 1)),(3,.w (W i)),(7,.w (Pt 2)),(4,.w (W j)),(11,.w (.c (sl 4 1 (zu um)))),(5,.w (Pt 0))],znM m s t um):=by
 have hf:=hF.full;have hzz:=hf.zd.z;have yz:=hf.zd.few;intro f;induction f with
 |zero =>
  intro z out hz _;obtain rfl:z=zs.length:=by omega
  refine⟨out,⟨by omega,fun hx=>?_,.inl⟩,?_⟩
  ·rcases hx with hx |⟨w,h1,h2,_⟩
   ·exact hx
   ·omega
  rw[ZfM z20.eq_1];simp[znE,znM,zf,hzz]
 |succ f ih =>
  intro z out hz ho;have hzl:z<zs.length:=by omega
  have hcz:(z:Int)<zs.length:=by omega
  have hw:=zB (i:=z) (by omega);have hP1:=z4G hF ha hc z;have hP2:=z4G hF hb hd z;have hE1:=z5g hf ha.jf z hzl;have hE2:=z5g hf hb.jf z hzl;have hS1:Zb7 m zs s.agents[i] (t.agents[i]'(by omega)) z=true->∃u,z6b zs[z] s.agents[i].jf=some u/\u<s.agents[i].jf.length:=z5Z hzl;have hS2:Zb7 m zs s.agents[j] (t.agents[j]'(by omega)) z=true->∃u,z6b zs[z] s.agents[j].jf=some u/\u<s.agents[j].jf.length:=z5Z hzl;have hti:i<t.agents.length:=by omega
  have htj:j<t.agents.length:=by omega
  have hgz:zs.getD z Zde=zs[z]:=by simp[hzl]
  have hzb:ZcH m zs s.agents[i] s.agents[j] (t.agents[i]'(by omega)) (t.agents[j]'(by omega)) z=(Zb7 m zs s.agents[i] (t.agents[i]'(by omega)) z&&(Zb7 m zs s.agents[j] (t.agents[j]'(by omega)) z&&decide (s.agents[i].jf.getD ((z6b zs[z] s.agents[i].jf).getD 0) 0≠s.agents[j].jf.getD ((z6b zs[z] s.agents[j].jf).getD 0) 0))):=by unfold ZcH;rw[hgz]
  have hci:(i:Int)<s.agents.length:=by omega
  have hdi:(i:Int)<t.agents.length:=by omega
  have hdj:(j:Int)<t.agents.length:=by omega
  have hcj:(j:Int)<s.agents.length:=by omega
  have jZ:(out.length+1)*8<=140737488355328:=by omega
  generalize hag:s.agents[i]=a at *;generalize hbg:s.agents[j]=b at *;generalize hcg:t.agents[i]=a' at *;generalize hdg:t.agents[j]=b' at *;generalize Zb7 m zs a a' z=p1 at *;generalize Zb7 m zs b b' z=p2 at *;rw[ZfM z20.eq_1];simp only[zf,hzz,agC]at hP1 hP2 hE1 hE2;cases p1 with
  |false =>
   obtain⟨um,hol,h⟩:=ih (z+1) out (by omega) (by omega);refine⟨um,⟨hol.1,fun hx=>hol.2.1 (Zdd (by rw[hzb];simp) hx),fun hx=>Zgc (hol.2.2 hx)⟩,?_⟩;rw[<-h];clear ih h hS1 hS2 hzb;simp[znE,znM,zf,hzz,snC,agC,hi,hci,hj,hcj,hag,hbg,hti,htj,hdi,hdj,hcg,hdg,hzl,hcz,hw,hP1,hP2,zg,zH]
  |true =>
   cases p2 with
   |false =>
    obtain⟨um,hol,h⟩:=ih (z+1) out (by omega) (by omega);refine⟨um,⟨hol.1,fun hx=>hol.2.1 (Zdd (by rw[hzb];simp) hx),fun hx=>Zgc (hol.2.2 hx)⟩,?_⟩;rw[<-h];clear ih h hS1 hS2 hzb;simp[znE,znM,zf,hzz,snC,agC,hi,hci,hj,hcj,hag,hbg,hti,htj,hdi,hdj,hcg,hdg,hzl,hcz,hw,hP1,hP2,zg,zH]
   |true =>
    obtain⟨u,e1,hu⟩:=hS1 rfl;obtain⟨v,e2,hv⟩:=hS2 rfl;clear hS1 hS2;rw[e1]at hE1;rw[e2]at hE2;have hcu:(u:Int)<a.jf.length:=by omega
    have hcv:(v:Int)<b.jf.length:=by omega
    by_cases c:a.jf[u]=b.jf[v]
    ·have cb:(a.jf[u]==b.jf[v])=true:=by simp[c]
     have cb2:(a.jf[u] !=b.jf[v])=false:=by simp[c]
     rw[e1,e2]at hzb;obtain⟨um,hol,h⟩:=ih (z+1) out (by omega) (by omega);refine⟨um,⟨hol.1,fun hx=>hol.2.1 (Zdd (by rw[hzb];simp[hu,hv,c]) hx),fun hx=>Zgc (hol.2.2 hx)⟩,?_⟩;rw[<-h];clear ih h hzb;simp[znE,znM,zf,hzz,snC,agC,hi,hci,hj,hcj,hag,hbg,hti,htj,hdi,hdj,hcg,hdg,hzl,hcz,hw,hP1,hP2,hE1,hE2,hu,hv,hcu,hcv,cb,cb2,zg,zH]
    ·have cb:(a.jf[u]==b.jf[v])=false:=by simp[c]
     have cb2:(a.jf[u] !=b.jf[v])=true:=by simp[c]
     obtain⟨um,hol,h⟩:=ih (z+1) (out++[(z:Int)]) (by omega) (by simp;omega);refine⟨um,⟨hol.1,fun _=>hol.2.1 (.inl (by simp)),fun _=>.inr ⟨z,jq _,hzl,by rw[hzb,e1,e2];simp[hu,hv,c]⟩⟩,?_⟩;rw[<-h];clear ih h hzb;simp[znE,znM,zf,hzz,snC,agC,hi,hci,hj,hcj,hag,hbg,hti,htj,hdi,hdj,hcg,hdg,hzl,hcz,hw,hP1,hP2,hE1,hE2,hu,hv,hcu,hcv,cb,cb2,jZ,zg,zH]
theorem z6X{m:zD}{zs:List Zon}{ss:List Sgn}(hF:z7y m zs ss)(s t:SnV)(ht:t.agents.length=s.agents.length)(i j:Nat)(hi:i<s.agents.length)(hj:j<s.agents.length)(ha:WAg m s.agents[i])(hb:WAg m s.agents[j])(hc:WAg m (t.agents[i]'(by omega)))(hd:WAg m (t.agents[j]'(by omega))):∃out:List Int,(out.length<=zs.length/\((∃w,w<zs.length/\ZcH m zs s.agents[i] s.agents[j] (t.agents[i]'(by omega)) (t.agents[j]'(by omega)) w=true)->out≠[])/\(out≠[]->∃w,w<zs.length/\ZcH m zs s.agents[i] s.agents[j] (t.agents[i]'(by omega)) (t.agents[j]'(by omega)) w=true))/\R L Cs z3H [.a (zf m),.a (snC s),.a (snC t),W i,W j] []=some (.w (.c (.jc (zu out))),[]):=by
 obtain⟨out,hol,h⟩:=z61 hF s t ht i j hi hj ha hb hc hd zs.length 0 [] (by omega) (by simp);refine⟨out,⟨hol.1,fun⟨w,h1,h2⟩=>hol.2.1 (.inr ⟨w,by omega,h1,h2⟩),fun hx=>(hol.2.2 hx).elim (fun e=>absurd rfl e) fun⟨w,_,h1,h2⟩=>⟨w,h1,h2⟩⟩,?_⟩;simp only[znE,znM,zf,snC,sl,own,zay,js,zfq,jg]at h;rw[zUa z4h rfl];simp[z3n,zf,snC,h,zg,zX]
structure z45 where
 r:Int
 s:Int
 v:Int
 len:Int
 start:Int
 dis:Bool
def z3N(x:z45):List Cl:=[I x.r,I x.s,I x.v,I x.len,I x.start,.bool x.dis]
theorem KAg.of{m:zD}{a:AgV}(h1:zdA m a.jf=0)(h2:300<=a.len/\a.len<=20000)(h3:0<=a.start/\a.start<=1099511627776)(h4:0<=a.s/\a.s<=zmd m 0 a.jf)(h5:0<a.start->a.s=0)(h6:a.gone=false):KAg m a :=
 ⟨⟨h1,h2,h3,⟨h4.1,by omega⟩,by rw[h6];exact(decide_eq_false (by omega)).symm⟩,h4.2,h5⟩
theorem z5w(k:Int):300<=zeR k/\zeR k<=2000:=by unfold zeR;split<;>(try split)<;>omega
theorem z5h{m:zD}{zs:List Zon}{ss:List Sgn}(hF:z7y m zs ss)(x:z45)(first:Bool):∃a,KAg m a/\(first=true->a.start=0)/\((x.len % 4700=0->a.len=300)/\a.uZ=(!first && !x.dis))/\R L Cs z4y [.a (zf m),.a (z3N x),Bo first] []=some (.w (.a (agC a)),[]):=by
 have h:=hF.full.qe;have hR0:=zE3 h x.r;have hl0:=zD0 x.len 4700 (by omega) (by omega);have hl1:=zDJ x.len 4700 (by omega);have wl:=ku (300+x.len % 4700);have hb4:=zEW x.start 4 (by omega) (by omega);have hb40:=zEW x.start 40 (by omega) (by omega);have hbr:=zDJ x.start 40 (by omega);have hr0:=zE5 hF.full hF.pos x.r;obtain⟨k,hk⟩:=zES h x.r;have hrk:=zE5 hF.full hF.pos k;generalize zDT m x.r=r0 at *;generalize zDT m k=rk at *;generalize x.len % 4700=ln at *;generalize x.start % 40=b40 at *;generalize hb:x.start % 4=b4 at *;have fin:∀(r:List Int) (hr:zdA m r=0),∃(x0:Int) (t:List Int) (j:Nat) (hj:j<m.je.length),r=x0::t/\x0=(j:Int)/\(m.je[j].kind=1\/m.je[j].kind=2\/m.je[j].kind=3):=by
  intro r hr;obtain⟨hon,hne,_⟩:=zg1 h hr;cases r with
  |nil=>exact absurd rfl hne
  |cons y t =>
   obtain⟨j,hj,ej,ek⟩:=z5b (hon y (by simp));exact⟨y,t,j,hj,rfl,ej,h.kind _ (ja hj)⟩
 have gen:∀(r:List Int) (hr:zdA m r=0) (x0:Int) (t:List Int) (j:Nat) (hj:j<m.je.length),r=x0::t->0<=x.s % (zmd m 0 r+1)/\x.s % (zmd m 0 r+1)<=zmd m 0 r/\0<=zmd m 0 r/\zmd m 0 r<=8000000:=by
  intro r hr x0 t j hj e;obtain⟨hon,hne,hl8⟩:=zg1 h hr;have:=zEC h r 0 hon (by omega);have:=zDJ x.s (zmd m 0 r+1) (by omega);omega
 rw[zUa z4A rfl];cases first with
 |true =>
  obtain⟨x0,t,j,hj,er,rfl,hkd⟩:=fin rk hrk;obtain⟨g1,g2,g3,g4⟩:=gen rk hrk _ _ j hj er;have hE:=zEp h hrk;have hS:=zD0 x.s (zmd m 0 rk+1) (by omega) (by omega);have wE:=ku (zmd m 0 rk+1);generalize x.s % (zmd m 0 rk+1)=sv at *;have hB:=zhv hkd;have htb:=z5w m.je[j].kind;have wT:=ku (zeR m.je[j].kind+1);have hV:=zD0 x.v (zeR m.je[j].kind+1) (by omega) (by omega);generalize x.v % (zeR m.je[j].kind+1)=vv at *;generalize zeR m.je[j].kind=tv at *;by_cases c:tv<1000
  ·refine⟨⟨rk,sv,vv,300,0,false,false⟩,KAg.of hrk (by simp only[];omega) (by simp only[];omega) ⟨g1,g2⟩ (fun h=>absurd h (by simp)) rfl,fun _=>rfl,⟨(fun _=>rfl),by simp⟩,?_⟩;subst er;simp only[zf,zaP]at hR0 hk hE;simp[z2E,zf,z3N,agC,zo,hR0,hk,hE,hS,hV,hB,hl0,wl,wE,wT,hj,c,hb4,zg,zH,zX]
  ·refine⟨⟨rk,sv,vv,300+ln,0,false,false⟩,KAg.of hrk (by simp only[];omega) (by simp only[];omega) ⟨g1,g2⟩ (fun h=>absurd h (by simp)) rfl,fun _=>rfl,⟨(fun h0=>by show 300+ln=300;omega),by simp⟩,?_⟩;subst er;simp only[zf,zaP]at hR0 hk hE;simp[z2E,zf,z3N,agC,zo,hR0,hk,hE,hS,hV,hB,hl0,wl,wE,wT,hj,c,hb4,zg,zH,zX]
 |false =>
  obtain⟨x0,t,j,hj,er,rfl,hkd⟩:=fin r0 hr0;obtain⟨g1,g2,g3,g4⟩:=gen r0 hr0 _ _ j hj er;have hE:=zEp h hr0;have hS:=zD0 x.s (zmd m 0 r0+1) (by omega) (by omega);have wE:=ku (zmd m 0 r0+1);generalize x.s % (zmd m 0 r0+1)=sv at *;have hB:=zhv hkd;have htb:=z5w m.je[j].kind;have wT:=ku (zeR m.je[j].kind+1);have hV:=zD0 x.v (zeR m.je[j].kind+1) (by omega) (by omega);generalize x.v % (zeR m.je[j].kind+1)=vv at *;generalize zeR m.je[j].kind=tv at *;have wb:=ku b40;by_cases c:tv<1000
  ·by_cases d:b4=3
   ·have db:(b4==3)=true:=by simp[d]
    refine⟨⟨r0,0,vv,300,b40,!x.dis,false⟩,KAg.of hr0 (by simp only[];omega) (by simp only[];omega) ⟨by simp,g3⟩ (fun _=>rfl) rfl,(fun h=>Bool.noConfusion h),⟨(fun _=>rfl),by simp⟩,?_⟩;subst er;simp only[zf,zaP]at hR0 hE;simp[z2E,zf,z3N,agC,zo,hR0,hE,hS,hV,hB,hl0,wl,wE,wT,wb,hj,c,db,hb4,hb40,zg,zH,zX]
   ·have db:(b4==3)=false:=by simp[d]
    refine⟨⟨r0,sv,vv,300,0,!x.dis,false⟩,KAg.of hr0 (by simp only[];omega) (by simp only[];omega) ⟨g1,g2⟩ (fun h=>absurd h (by simp)) rfl,fun _=>rfl,⟨(fun _=>rfl),by simp⟩,?_⟩;subst er;simp only[zf,zaP]at hR0 hE;simp[z2E,zf,z3N,agC,zo,hR0,hE,hS,hV,hB,hl0,wl,wE,wT,hj,c,db,hb4,zg,zH,zX]
  ·by_cases d:b4=3
   ·have db:(b4==3)=true:=by simp[d]
    refine⟨⟨r0,0,vv,300+ln,b40,!x.dis,false⟩,KAg.of hr0 (by simp only[];omega) (by simp only[];omega) ⟨by simp,g3⟩ (fun _=>rfl) rfl,(fun h=>Bool.noConfusion h),⟨(fun h0=>by show 300+ln=300;omega),by simp⟩,?_⟩;subst er;simp only[zf,zaP]at hR0 hE;simp[z2E,zf,z3N,agC,zo,hR0,hE,hS,hV,hB,hl0,wl,wE,wT,wb,hj,c,db,hb4,hb40,zg,zH,zX]
   ·have db:(b4==3)=false:=by simp[d]
    refine⟨⟨r0,sv,vv,300+ln,0,!x.dis,false⟩,KAg.of hr0 (by simp only[];omega) (by simp only[];omega) ⟨g1,g2⟩ (fun h=>absurd h (by simp)) rfl,fun _=>rfl,⟨(fun h0=>by show 300+ln=300;omega),by simp⟩,?_⟩;subst er;simp only[zf,zaP]at hR0 hE;simp[z2E,zf,z3N,agC,zo,hR0,hE,hS,hV,hB,hl0,wl,wE,wT,hj,c,db,hb4,zg,zH,zX]
end Go.TrRun
