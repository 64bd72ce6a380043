/- This text proves parts of an evaluator's soundness: what the evaluator answers, the model's run does; no condition. -/
import Derived.Test.YtdndkdliiojpiaaGreatEg2
import Derived.Sort.Grow
import Derived.Sort.AssemblyPlain
import Derived.RowKit3
import Derived.ChangeShapes
import Derived.ChangeSame
import Derived.ReadAgain
import Derived.OpenShut
set_option linter.unusedVariables false
set_option linter.unusedSimpArgs false
set_option linter.unusedSectionVars false
namespace Go.Eng
open Go
variable[zb0]
def zlh(cf:za4)(n0:Nat):List zaG->zhy->Mem->Option (zhy×Mem×List FP)
 |[],E,M=>some (E,M,[])
 |o::os,E,M=>match zbm cf n0 o E M with
  |some (v,M',fp)=>match zlh cf n0 os (zjC E o.dst v) M' with
   |some (E2,M2,fs)=>some (E2,M2,fp::fs)
   |none=>none
  |none=>none
theorem zxv{cf:za4}{n0:Nat}:∀{os:List zaG} {E:Env} {M:Mem} {E2:Env} {M2:Mem} {fs:List FP},zks cf n0 os E M=some (E2,M2,fs)->zlh cf n0 os E.get M=some (E2.get,M2,fs)
 |[],E,M,E2,M2,fs,h=>by simp only[zks,jg,jv]at h;obtain⟨rfl,rfl,rfl⟩:=h;rfl
 |o::os,E,M,E2,M2,fs,h=>by
  simp only[zks]at h;split at h
  ·rename_i v M' fp h1;split at h
   ·rename_i E3 M3 fs3 h2;cases h;have:=zxv h2;rw[ztG]at this;simp only[zlh,h1,this]
   ·cases h
  ·cases h
theorem zgh{cf:za4}{n0:Nat}{o:zaG}{os:List zaG}{E:zhy}{M:Mem}{E2:zhy}{M2:Mem}{fp:FP}{fs:List FP} :
  zlh cf n0 (o::os) E M=some (E2,M2,fp::fs)<->∃v M',zbm cf n0 o E M=some (v,M',fp)/\zlh cf n0 os (zjC E o.dst v) M'=some (E2,M2,fs):=by
 simp only[zlh];constructor
 ·intro h;split at h
  ·rename_i v M' fp' h1;split at h
   ·rename_i E3 M3 fs3 h2;cases h;exact⟨v,M',h1,h2⟩
   ·cases h
  ·cases h
 ·rintro⟨v,M',h1,h2⟩;rw[h1];simp only;rw[h2]
def zA7(base:Nat)(a:zaG)(fa:FP)(b:zaG)(fb:FP):Prop :=
 znW a b=true/\(a.cls=.pure\/b.cls=.pure\/(a.cls=.load/\b.cls=.load)\/(fa.apart fb=true/\fb.old base=true))
theorem zr9{a b:zaG}(h:znW a b=true):(∀d,a.dst=some d->d∉b.slots/\b.dst≠some d)/\(∀d,b.dst=some d->d∉a.slots) /\
  (a.cls=.pure\/b.cls=.pure\/(a.cls=.load/\b.cls=.load)\/(a.cls=.load/\b.cls=.alloc)\/(a.cls=.Ag/\b.cls=.alloc)\/(a.cls=.alloc/\b.cls=.alloc)\/(a.cls=.load/\b.cls=.Ag)\/(a.cls=.Ag/\b.cls=.load)):=by
 simp only[znW,jk]at h;obtain⟨⟨h1,h2⟩,h3⟩:=h;refine⟨fun d hd=>?_,fun d hd=>?_,?_⟩
 ·rw[hd]at h1;simpa using h1
 ·rw[hd]at h2;simpa using h2
 ·cases ha:a.cls<;>cases hb:b.cls<;>rw[ha,hb]at h3<;>simp at h3 ⊢
theorem zyh{E:zhy}{d e:Option Nat}{x v:AV}(h:∀x,d=some x->e≠some x):zjC (zjC E d x) e v=zjC (zjC E e v) d x:=by
 funext n;simp only[zjC];by_cases h1:d=some n
 ·have:=h n h1;simp[h1,this]
 ·simp[h1]
theorem swap{cf:za4}{n0 base:Nat}{a b:zaG}{r:List zaG}{E E2:zhy}{M M2:Mem}{fa fb:FP}{fr:List FP}(hf:zA7 base a fa b fb)(Bg:base<=M.length)
  (h:zlh cf n0 (a::b::r) E M=some (E2,M2,fa::fb::fr)):zlh cf n0 (b::a::r) E M=some (E2,M2,fb::fa::fr):=by
 obtain⟨va,M1,h1,h⟩:=zgh.1 h;obtain⟨vb,M3,h2,h3⟩:=zgh.1 h;obtain⟨AU,Ar⟩:=hf;obtain⟨s1,s2,s3⟩:=zr9 AU;have eb:∀M,zbm cf n0 b (zjC E a.dst va) M=zbm cf n0 b E M:=fun M=>zph fun n hn=>by
  simp only[zjC];rw[if_neg];intro hd;exact(s1 n hd).1 hn
 have ea:∀M,zbm cf n0 a (zjC E b.dst vb) M=zbm cf n0 a E M:=fun M=>zph fun n hn=>by
  simp only[zjC];rw[if_neg];intro hd;exact s2 n hd hn
 rw[eb]at h2;have hK:zld (fun M=>zbm cf n0 a E M)\/zld (fun M=>zbm cf n0 b E M)\/(zj4 (fun M=>zbm cf n0 a E M)/\zj4 (fun M=>zbm cf n0 b E M)) \/
   (fa.apart fb=true/\fb.old base=true/\((zj4 (fun M=>zbm cf n0 a E M)/\zkZ (fun M=>zbm cf n0 b E M))\/(zkZ (fun M=>zbm cf n0 a E M)/\zj4 (fun M=>zbm cf n0 b E M))\/(zj4 (fun M=>zbm cf n0 a E M)/\ziE (fun M=>zbm cf n0 b E M))\/(zkZ (fun M=>zbm cf n0 a E M)/\ziE (fun M=>zbm cf n0 b E M))\/(ziE (fun M=>zbm cf n0 a E M)/\ziE (fun M=>zbm cf n0 b E M)))):=by
  have ka:=zoP (cf:=cf) (n0:=n0) (E:=E) (o:=a);have kb:=zoP (cf:=cf) (n0:=n0) (E:=E) (o:=b);rcases ka with ka |⟨ca,ka⟩ |⟨ca,ka⟩ |⟨ca,ka⟩
  ·exact .inl ka
  all_goals
   rcases kb with kb |⟨cb,kb⟩ |⟨cb,kb⟩ |⟨cb,kb⟩
   ·exact .inr (.inl kb)
   all_goals
    simp only[ca,cb,reduceCtorEq,false_and,and_false,or_false,false_or,and_self,or_true,true_or]at s3 Ar<;>first
     |(cases s3;done)
     |exact .inr (.inr (.inl ⟨ka,kb⟩))
     |exact .inr (.inr (.inr ⟨Ar.1,Ar.2,.inl ⟨ka,kb⟩⟩))
     |exact .inr (.inr (.inr ⟨Ar.1,Ar.2,.inr (.inl ⟨ka,kb⟩)⟩))
     |exact .inr (.inr (.inr ⟨Ar.1,Ar.2,.inr (.inr (.inl ⟨ka,kb⟩))⟩))
     |exact .inr (.inr (.inr ⟨Ar.1,Ar.2,.inr (.inr (.inr (.inl ⟨ka,kb⟩)))⟩))
     |exact .inr (.inr (.inr ⟨Ar.1,Ar.2,.inr (.inr (.inr (.inr ⟨ka,kb⟩)))⟩))
 obtain⟨M1',q1,q2⟩:=zDf (base:=base) h1 h2 Bg hK;refine zgh.2 ⟨vb,M1',q1,zgh.2 ⟨va,M3,by rw[ea];exact q2,?_⟩⟩;rw[<-zyh (fun x hx=>(s1 x hx).2)];exact h3
theorem zxo{cf:za4}{n0 base:Nat}{y:zaG×FP}{post:List (zaG×FP)}:∀{pre:List (zaG×FP)} {E E2:zhy} {M M2:Mem},(∀x∈pre,zA7 base x.1 x.2 y.1 y.2)->base<=M.length ->
  zlh cf n0 ((pre++y::post).map (·.1)) E M=some (E2,M2,(pre++y::post).map (·.2))->zlh cf n0 ((y::(pre++post)).map (·.1)) E M=some (E2,M2,(y::(pre++post)).map (·.2))
 |[],E,E2,M,M2,_,_,h=>h
 |x::pre,E,E2,M,M2,hf,hb,h=>by
  simp only[ji,kH]at h;obtain⟨v,M',h1,h2⟩:=zgh.1 h;have:=zxo (pre:=pre) (fun z hz=>hf z (js _ hz)) (jV hb (z4L h1)) h2;simp only[ji,kH]at this ⊢;exact swap (hf x (jq ..)) hb (zgh.2 ⟨v,M',h1,this⟩)
def zjn(ops:Array Oper)(i:Nat):List Nat:=match ops[i]? with
 |some o=>zkJ o
 |none=>[]
theorem Zf2{f:Nat->Nat}{a:Nat}:∀{l:List Nat} {s:Nat},(l.foldl (fun s j=>s ||| 2 ^ j ||| f j) s).testBit a=true->s.testBit a=true\/∃d∈l,d=a\/(f d).testBit a=true
 |[],s,h=>.inl h
 |d::l,s,h=>by
  simp only[jO]at h;rcases Zf2 h with h |⟨e,he,h⟩
  ·simp only[Nat.testBit_or,uk,Nat.testBit_two_pow,decide_eq_true_eq]at h;rcases h with(h|h)|h
   ·exact .inl h
   ·exact .inr ⟨d,jq ..,.inl h⟩
   ·exact .inr ⟨d,jq ..,.inr h⟩
  ·exact .inr ⟨e,js _ he,h⟩
theorem zkX:∀{os:List Oper} {acc:List Nat} {i:Nat},i<acc.length->(yn os acc).getD i 0=acc.getD i 0
 |[],acc,i,h=>rfl
 |o::os,acc,i,h=>by
  simp only[yn];rw[zkX (by simp;omega)];simp[List.getD,jA h]
theorem zol:∀{os:List Oper} {acc:List Nat} {k:Nat} {o:Oper} {a:Nat},os[k]?=some o->((yn os acc).getD (acc.length+k) 0).testBit a=true ->
  ∃d∈zkJ o,d=a\/(d<acc.length+k/\((yn os acc).getD d 0).testBit a=true)
 |[],acc,k,o,a,ho,h=>by simp at ho
 |x::os,acc,0,o,a,ho,h=>by
  simp only[uQ,jg]at ho;subst ho;simp only[yn]at h;rw[zkX (by simp)]at h;simp only[um,List.getD,j6 (jm _),Nat.sub_self,uQ,qI]at h;rcases Zf2 h with h |⟨d,hd,h⟩
  ·simp at h
  ·refine⟨d,hd,h.imp id fun h=>?_⟩;have hlt:d<acc.length:=by
    rcases kA d acc.length with hl|hl
    ·exact hl
    ·simp[jY hl]at h
   refine⟨by omega,?_⟩;simp only[yn];rw[zkX (by simp;omega)];simpa [List.getD,jA hlt]using h
 |x::os,acc,k+1,o,a,ho,h=>by
  simp only[List.getElem?_cons_succ]at ho;simp only[yn]at h ⊢;have e:acc.length+(k+1)=(acc++[(zkJ x).foldl (fun s j=>s ||| 2 ^ j ||| acc.getD j 0) 0]).length+k:=by simp;omega
  rw[e]at h;obtain⟨d,hd,h'⟩:=zol ho h;exact⟨d,hd,h'.imp id fun⟨q1,q2⟩=>⟨by rw[e];exact q1,q2⟩⟩
theorem DA{ops:Array Oper}{L:Nat->Prop}(hcl:∀i,i<ops.size->L i->∀d∈zjn ops i,L d):∀(i:Nat) {a:Nat},i<ops.size->(∀d∈zjn ops i,L d)->((yn ops.toList []).getD i 0).testBit a=true->L a:=by
 intro i;induction i using Nat.strongRecOn with
 |_ i ih =>
  intro a hi hd h;have ho:ops.toList[i]?=some ops[i]:=by simp[hi]
  have hde:zjn ops i=zkJ ops[i]:=by simp[zjn,hi]
  have:=zol (acc:=[]) ho (by simpa using h);obtain⟨d,hdm,hh⟩:=this;rw[hde]at hd;have hLd:=hd d hdm;rcases hh with rfl |⟨hlt,hb⟩
  ·exact hLd
  ·simp only[jp,jJ]at hlt;exact ih d hlt (by omega) (hcl d (by omega) hLd) hb
def zpZ(ops:Array Oper):(Nat->Prop)->List Nat->Prop
 |_,[]=>True
 |L,i::is=>(∀d∈zjn ops i,L d)/\zpZ ops (fun d=>L d\/d=i) is
theorem zpZ.mono{ops:Array Oper}:∀{is:List Nat} {L L':Nat->Prop},(∀d,L d->L' d)->zpZ ops L is->zpZ ops L' is
 |[],_,_,_,_=>trivial
 |i::is,L,L',h,ht=>⟨fun d hd=>h d (ht.1 d hd),zpZ.mono (fun d hd=>hd.imp (h d) id) ht.2⟩
theorem zpZ.remove{ops:Array Oper}{y:Nat}{B:List Nat}:∀{A:List Nat} {L:Nat->Prop},zpZ ops L (A++y::B)->zpZ ops (fun d=>L d\/d=y) (A++B)
 |[],L,h=>h.2
 |i::A,L,h=>⟨fun d hd=>.inl (h.1 d hd),(zpZ.remove (A:=A) h.2).mono fun d hd=>by
   rcases hd with(hd|hd)|hd
   ·exact .inl (.inl hd)
   ·exact .inr hd
   ·exact .inl (.inr hd)⟩
theorem zpe{ops:Array Oper}:∀{is done:List Nat},ztq ops.toList is done=true->zpZ ops (fun d=>d∈done) is
 |[],_,_=>trivial
 |i::is,done,h=>by
  simp only[ztq,jk]at h;refine⟨fun d hd=>?_,(zpe h.2).mono fun d hd=>?_⟩
  ·have h1:=h.1;simp only[zjn]at hd;cases ho:ops[i]? with
   |none=>rw[ho]at hd;cases hd
   |some o =>
    rw[ho]at hd;have ho':ops.toList[i]?=some o:=by simpa using ho
    rw[ho']at h1;have:=jI.1 h1 d hd;simpa using this
  ·rcases jG.1 hd with rfl|hd
   ·exact .inr rfl
   ·exact .inl hd
theorem zoF{ops:Array Oper}{listed:Array Bool}{i:Nat}:i∈Region.ready .any ops listed<->listed.getD i true=false/\i<ops.size/\∀d∈zjn ops i,listed.getD d false=true:=by
 rw[mem_ready];constructor
 ·rintro⟨h1,o,ho,h2⟩;refine⟨h1,(jK.1 ho).1,fun d hd=>?_⟩;simp only[zjn,ho,zkJ,jW,qs]at hd;obtain⟨e,⟨he,hb⟩,rfl⟩:=hd;exact h2 e (by simpa using he) hb
 ·rintro⟨h1,hi,h2⟩;refine⟨h1,ops[i],by simp[hi],fun e he hb=>?_⟩;refine h2 e.on ?_;simp only[zjn,hi,qU,zkJ,jW,qs];exact⟨e,⟨by simpa using he,hb⟩,rfl⟩
section
variable{own:Nat->Prop}{P:Program}{cf:za4}{ntmps:Nat}{F:Fence}{n:Nat}{Q:Exit->Act->World->Prop}
theorem zAL(hF:zhz F)(hcf:FnS P cf){ops:Array Oper}{n0 base k:Nat}{σ0:zP}{j0:Inj}{M0:Mem}{w0:World}{E2:zhy}{M2:Mem}{ds:List Deferred}(hk:k<=base)
  (hQ:∀a' w' σ' j',At own σ' j' E2 M2 ntmps a' w'->za2 own k σ0 j0 M0 w0 σ' j' M2 w'->a'.defers=ds->Q .normal a' w') :
  ∀(fuel:Nat) (listed:Array Bool) (xs:List (zaG×FP)) (E:zhy) (M:Mem) (a:Act) (w:World) (σ:zP) (j:Inj),
   xs.length=fuel->listed.size=ops.size->(∀i,i<ops.size->(listed.getD i true=false<->i∈xs.map (·.1.ix)))->(xs.map (·.1.ix)).Nodup->(∀x∈xs,x.1.ix<ops.size/\∃m,zdT P ops.toList m ntmps x.1.ix=some x.1) ->
   xs.Pairwise (fun x y=>((yn ops.toList []).getD y.1.ix 0).testBit x.1.ix=true\/zA7 base x.1 x.2 y.1 y.2) ->
   (∀i,i<ops.size->listed.getD i true=true->∀d∈zjn ops i,listed.getD d false=true)->zpZ ops (fun d=>listed.getD d false=true) (xs.map (·.1.ix)) ->
   zlh cf n0 (xs.map (·.1)) E M=some (E2,M2,xs.map (·.2))->base<=M.length ->
   At own σ j E M ntmps a w->za2 own k σ0 j0 M0 w0 σ j M w->a.defers=ds->wpAnyIn F n P .any ops Q fuel listed a w:=by
 intro fuel;induction fuel with
 |zero =>
  intro listed xs E M a w σ j hlen hsz hx hnd Cf hpw hcl DI qY Bg hat hst hds;have hxs:xs=[]:=jN hlen;subst hxs;simp only[uo,zlh,jg,jv]at qY;obtain⟨rfl,rfl,_⟩:=qY;refine⟨?_,hQ a w σ j hat hst hds⟩;apply List.eq_nil_iff_forall_not_mem.2;intro i hi;obtain⟨h1,h2,_⟩:=zoF.1 hi;have:=(hx i h2).1 h1;simp at this
 |succ fuel ih =>
  intro listed xs E M a w σ j hlen hsz hx hnd Cf hpw hcl DI qY Bg hat hst hds;refine⟨fun AK=>?_,fun i hi=>?_⟩
  ·exfalso;cases xs with
   |nil=>simp at hlen
   |cons x xs =>
    have hix:=(Cf x (jq ..)).1;have:x.1.ix∈Region.ready .any ops listed:=zoF.2 ⟨(hx _ hix).2 (by simp),hix,DI.1⟩;rw[AK]at this;cases this
  ·obtain⟨h1,h2,h3⟩:=zoF.1 hi;obtain⟨y,hy,hyi⟩:=jW.1 ((hx i h2).1 h1);obtain⟨A,B,rfl⟩:=List.append_of_mem hy;have Ar:∀x∈A,zA7 base x.1 x.2 y.1 y.2:=by
    intro x hxA;have:=(km.1 hpw).2.2 x hxA y (jq ..);refine this.resolve_left fun hb=>?_
    rw[hyi]at hb;have hL:=DA (L:=fun d=>listed.getD d false=true) (fun i hi hl=>by
     refine hcl i hi ?_;rw[show listed.getD i true=listed.getD i false from by simp[Array.getD,hsz,hi]];exact hl) i h2 h3 hb
    have hxl:=(hx x.1.ix (Cf x (ko _ hxA)).1).2 (jW.2 ⟨x,ko _ hxA,rfl⟩);have hxs:=(Cf x (ko _ hxA)).1;rw[show listed.getD x.1.ix true=listed.getD x.1.ix false from by simp[Array.getD,hsz,hxs]]at hxl;rw[hL]at hxl;cases hxl
   have hrun':=zxo Ar Bg qY;simp only[kH]at hrun';obtain⟨v,M',q1,q2⟩:=zgh.1 hrun';obtain⟨_,m,hcm⟩:=Cf y (qA _ (jq ..));rw[hyi]at hcm;refine zoz hF hcf hcm q1 hat fun a' w' σ' j' Da C3 hds'=>?_
   have hMl:=z4L q1;have hperm:∀z,z∈A++B->z∈A++y::B:=fun z hz=>by
    rcases jB.1 hz with h|h
    ·exact ko _ h
    ·exact qA _ (js _ h)
   have kV:∀d b,d≠i->(listed.setIfInBounds i true).getD d b=listed.getD d b:=fun d b hd=>by
    simp only[k8];rw[qS (qT hd)]
   have hgi:∀b,(listed.setIfInBounds i true).getD i b=true:=fun b=>by
    simp only[k8];rw[ua (by rw[hsz];exact h2)];rfl
   have hnd':((A++B).map (·.1.ix)).Nodup/\i∉(A++B).map (·.1.ix):=by
    simp only[uD,kH]at hnd ⊢;rw[hyi]at hnd;have hp:=(yF (a:=i) (l₁:=A.map (·.1.ix)) (l₂:=B.map (·.1.ix))).nodup_iff.1 hnd;rw[qQ]at hp;exact⟨hp.2,hp.1⟩
   refine ih (listed.setIfInBounds i true) (A++B) _ M' a' w' σ' j' (by simp at hlen ⊢;omega) (by simp[hsz]) (fun d hd=>?_) hnd'.1 (fun z hz=>Cf z (hperm z hz)) ?_ (fun d hd hl e he=>?_) ?_ q2 (jV Bg hMl) Da ?_ (hds'.trans hds)
   ·by_cases hdi:d=i
    ·subst hdi;rw[hgi];exact⟨fun h=>(by cases h),fun h=>absurd h hnd'.2⟩
    ·rw[kV d true hdi,hx d hd];simp only[uD,kH,jB,jG,hyi,hdi,false_or]
   ·exact hpw.sublist (List.Sublist.append (List.Sublist.refl _) (List.sublist_cons_self _ _))
   ·have hed:listed.getD e false=true:=by
     by_cases hdi:d=i
     ·subst hdi;exact h3 e he
     ·rw[kV d true hdi]at hl;exact hcl d hd hl e he
    by_cases hei:e=i
    ·subst hei;exact hgi false
    ·rw[kV e false hei];exact hed
   ·have:=zpZ.remove (A:=A.map (·.1.ix)) (y:=i) (B:=B.map (·.1.ix)) (by simpa [hyi]using DI);simp only[uD];refine this.mono fun d hd=>?_
    rcases hd with hd|rfl
    ·by_cases hdi:d=i
     ·subst hdi;exact hgi false
     ·rw[kV d false hdi];simpa using hd
    ·exact hgi false
   ·exact hst.trans (C3.le (jV hk Bg))
end
end Go.Eng
namespace Go.Eng
open Go
variable[zb0]
theorem zqP:∀{N:Nat} {l:List Nat},l.Nodup->(∀x∈l,x<N)->l.length<=N
 |0,l,_,h=>by
  cases l with
  |nil=>exact jm _
  |cons x xs=>exact absurd (h x (jq ..)) (Nat.not_lt_zero _)
 |N+1,l,hn,h=>by
  by_cases hm:N∈l
  ·have h1:=zqP (N:=N) (hn.erase N) (fun x hx=>by
    have h2:=(hn.mem_erase_iff).1 hx;have:=h x h2.2;omega)
   rw[List.length_erase_of_mem hm]at h1;omega
  ·have:=zqP (N:=N) hn (fun x hx=>by
    have h1:=h x hx;have:x≠N:=by rintro rfl;exact hm hx
    omega)
   omega
theorem zCI{N:Nat}{l:List Nat}(hn:l.Nodup)(h:∀x∈l,x<N)(hl:l.length=N){i:Nat}(hi:i<N):i∈l:=by
 by_cases hm:i∈l
 ·exact hm
 ·have:=zqP (N:=N) (qQ.2 ⟨hm,hn⟩) (fun x hx=>by
   rcases jG.1 hx with rfl|hx
   ·exact hi
   ·exact h x hx)
  simp only[jl]at this;omega
section
variable{own:Nat->Prop}{P:Program}{cf:za4}{ntmps:Nat}{F:Fence}{n:Nat}{Q:Exit->Act->World->Prop}
theorem zgF{ops:List Oper}{m:Oper->zbz}:∀{is:List Nat} {cs:List zaG},zcL P ops m ntmps is=some cs->cs.length=is.length/\∀(p:Nat) (c:zaG),cs[p]?=some c->∃i,is[p]?=some i/\zdT P ops m ntmps i=some c
 |[],cs,h=>by simp only[zcL,jg]at h;subst h;exact⟨rfl,by simp⟩
 |i::is,cs,h=>by
  simp only[zcL]at h;split at h
  ·rename_i c cs' h1 h2;cases h;obtain⟨e1,e2⟩:=zgF h2;refine⟨by simp[e1],fun p c' hc=>?_⟩;cases p with
   |zero=>simp at hc;subst hc;exact⟨i,rfl,h1⟩
   |succ p=>simpa using e2 p c' (by simpa using hc)
  ·cases h
theorem zgG{ops:Array Oper}{m:Oper->zbz}{i:Nat}{c:zaG}(h:zdT P ops.toList m ntmps i=some c):c.ix=i/\i<ops.size:=by
 obtain⟨o,ho,hi,_⟩:=zjR h;exact⟨hi,(jK.1 ho).1⟩
theorem zpV{ops:Array Oper}{m:Oper->zbz}{is:List Nat}{cs:List zaG}(h:zcL P ops.toList m ntmps is=some cs):cs.map (·.ix)=is:=by
 obtain⟨e1,e2⟩:=zgF h;apply uh;intro p;rw[kY];cases hc:cs[p]? with
 |none =>
  have:is[p]?=none:=by rw[Ad]at hc ⊢;omega
  rw[this];rfl
 |some c =>
  obtain⟨i,hi,hci⟩:=e2 p c hc;rw[hi];simp[(zgG hci).1]
theorem zsD(hF:zhz F)(hcf:FnS P cf){ops:Array Oper}{m:Oper->zbz}{n0 k:Nat}{σ0:zP}{j0:Inj}{M0:Mem}{w0:World}{E2:zhy}{M2:Mem}{ds:List Deferred}
  (hQ:∀a' w' σ' j',At own σ' j' E2 M2 ntmps a' w'->za2 own k σ0 j0 M0 w0 σ' j' M2 w'->a'.defers=ds->Q .normal a' w') :
  ∀{is:List Nat} {cs:List zaG} {fs:List FP} {E:zhy} {M:Mem} {a:Act} {w:World} {σ:zP} {j:Inj},zcL P ops.toList m ntmps is=some cs->zlh cf n0 cs E M=some (E2,M2,fs)->k<=M.length ->
   At own σ j E M ntmps a w->za2 own k σ0 j0 M0 w0 σ j M w->a.defers=ds->wpOpsIn F n P ops Q is a w
 |[],cs,fs,E,M,a,w,σ,j,hc,hr,hk,hat,hst,hds=>by
  simp only[zcL,jg]at hc;subst hc;simp only[zlh,jg,jv]at hr;obtain⟨rfl,rfl,_⟩:=hr;exact hQ a w σ j hat hst hds
 |i::is,cs,fs,E,M,a,w,σ,j,hc,hr,hk,hat,hst,hds=>by
  simp only[zcL]at hc;split at hc
  ·rename_i c cs' h1 h2;cases hc;rw[wpOpsIn_cons];cases fs with
   |nil =>
    simp only[zlh]at hr;split at hr
    ·split at hr
     ·cases hr
     ·cases hr
    ·cases hr
   |cons fp fs =>
    obtain⟨v,M',q1,q2⟩:=zgh.1 hr;refine zoz hF hcf h1 q1 hat fun a' w' σ' j' Da C3 hds'=>?_
    exact zsD hF hcf hQ h2 q2 (jV hk (z4L q1)) Da (hst.trans (C3.le hk)) (hds'.trans hds)
  ·cases hc
theorem zpo{bef:List Nat}{a:zaG}{i:Nat}:∀{r:List zaG} {j p:Nat} {b:zaG},r[p]?=some b->(bef.getD b.ix 0).testBit a.ix=false->¬(a.cls=.pure\/b.cls=.pure\/(a.cls=.load/\b.cls=.load))->(i,j+p)∈znU bef a i j r
 |[],j,p,b,h,_,_=>by simp at h
 |x::r,j,0,b,h,hb,hk=>by
  simp only[uQ,jg]at h;subst h;simp only[znU,hb,jH,if_false];simp only[not_or,not_and]at hk;obtain⟨k1,k2,k3⟩:=hk;cases ha:a.cls<;>cases hx:x.cls<;>simp_all
 |x::r,j,p+1,b,h,hb,hk=>by
  have:=zpo (i:=i) (r:=r) (j:=j+1) (p:=p) (by simpa using h) hb hk;have e:j+(p+1)=j+1+p:=by omega
  rw[e];simp only[znU];split
  ·exact this
  ·split<;>first |exact this |exact js _ this
theorem zuW{bef:List Nat}{base:Nat}{Dm:List FP}:∀{cs:List zaG} {fs:List FP} {i:Nat},zqg bef cs=true->(zxr bef i cs).all (zyi base Dm)=true->(∀p:Nat,fs[p]?=Dm[i+p]?) ->
  (cs.zip fs).Pairwise (fun x y=>(bef.getD y.1.ix 0).testBit x.1.ix=true\/zA7 base x.1 x.2 y.1 y.2)
 |[],fs,i,_,_,_=>by simp
 |a::r,[],i,_,_,_=>by simp
 |a::r,f::fr,i,hc,hp,hfs=>by
  simp only[zqg,jk]at hc;simp only[zxr,List.all_append,jk]at hp;have hfr:∀p:Nat,fr[p]?=Dm[(i+1)+p]?:=fun p=>by
   have:=hfs (p+1);rw[show i+(p+1)=i+1+p from by omega]at this;simpa using this
  refine jR.2 ⟨fun y hy=>?_,zuW hc.2 hp.2 hfr⟩;obtain⟨p,hp2⟩:=jX hy;have hp2:(r.zip fr)[p]?=some y:=hp2;rw[List.getElem?_zip_eq_some]at hp2;obtain⟨hb,hfb⟩:=hp2;cases ht:(bef.getD y.1.ix 0).testBit a.ix with
  |true=>exact .inl rfl
  |false =>
   right;have h1:=jI.1 hc.1 y.1 (kF hb);simp only[ht,uv]at h1;refine⟨h1,?_⟩;by_cases hk:(a.cls=.pure\/y.1.cls=.pure\/(a.cls=.load/\y.1.cls=.load))
   ·rcases hk with h|h|h
    ·exact .inl h
    ·exact .inr (.inl h)
    ·exact .inr (.inr (.inl h))
   ·have hm:=zpo (i:=i) (j:=i+1) hb ht hk;have:=jI.1 hp.1 _ hm;simp only[zyi]at this;rw[<-hfr p,hfb]at this;have h0:Dm[i]?=some f:=by have:=hfs 0;simpa using this.symm
    rw[h0]at this;simp only[jk]at this;exact .inr (.inr (.inr this))
theorem zuY{n0:Nat}:∀{os:List zaG} {E E2:zhy} {M M2:Mem} {fs:List FP},zlh cf n0 os E M=some (E2,M2,fs)->fs.length=os.length/\M.length<=M2.length
 |[],E,E2,M,M2,fs,h=>by simp only[zlh,jg,jv]at h;obtain⟨_,rfl,rfl⟩:=h;exact⟨rfl,jm _⟩
 |o::os,E,E2,M,M2,fs,h=>by
  simp only[zlh]at h;split at h
  ·rename_i v M' fp h1;split at h
   ·rename_i E3 M3 fs3 h2;cases h;obtain⟨e1,e2⟩:=zuY h2;exact⟨by simp[e1],jV (z4L h1) e2⟩
   ·cases h
  ·cases h
theorem za2.of_same{k:Nat}{σ:zP}{j:Inj}{M M':Mem}{w w':World}(hM:∀(id:Nat) (b:Blk),M[id]?=some (some b)->M'[id]?=some (some b))(hw:w'.heap=w.heap)(hs:zd9 w w'):za2 own k σ j M w σ j M' w' :=
 ⟨zP.le_refl _,fun _ _ _ _ h=>h,by rw[hw];exact jm _,fun _ _ _=>by rw[hw],fun _ _ _ h=>.inl h,fun id b _ hb=>⟨b,hM id b hb,jm _,fun _=>⟨rfl,fun _ _=>by rw[hw]⟩⟩,hs⟩
theorem ziY(hF:zhz F)(hcf:FnS P cf)(vF:P.follows .mixedOrders=true){an:Ann}{id:Nat}{ops:Array Oper}{draw:Bool}{nA:Nat}{cs:List zaG}{prs:List (Nat×Nat)}
  (hc:zeP P an ntmps id ops.toList draw=some (nA,cs,prs)) {E E':Env} {M M':Mem} {fs:List FP} (hr:zks cf M.length cs E (M++qN nA)=some (E',M',fs)) (hp:prs.all (zyi (M.length+nA) fs)=true)
  {σ:zP} {j:Inj} {a:Act} {w:World} (hat:At own σ j E.get M ntmps a w)
  (hQ:∀a' w' σ' j',At own σ' j' E'.get M' ntmps a' w'->za2 own M.length σ j M w σ' j' M' w'->M.length<=M'.length->a'.defers=a.defers->Q .normal a' w'):(Code.region id ops draw).wpIn F n P Q a w:=by
 have hG:=zxv hr;obtain⟨hfl,hlen⟩:=zuY hG;simp only[jw]at hlen;have hholes:(qN nA).length=nA:=by simp[qN]
 have AW:∀w1:World,w1.heap=w.heap->At own σ j E.get (M++qN nA) ntmps a w1:=fun w1 hw =>
  ⟨hat.env,hat.size,hat.marks.heap hw,hat.yI.same hw,(hat.mem.qN nA).same hw,fun b hb=>hat.own b (by rw[<-hw];exact hb)⟩
 have yS:∀w1:World,w1.heap=w.heap->zd9 w w1->za2 own M.length σ j M w σ j (M++qN nA) w1:=fun w1 hw=>za2.of_same (fun id b hb=>by rw[jA (zC hb)];exact hb) hw
 have hQ':∀a' w' σ' j',At own σ' j' E'.get M' ntmps a' w'->za2 own M.length σ j M w σ' j' M' w'->a'.defers=a.defers->Q .normal a' w':=fun a' w' σ' j' h1 h2 h3=>hQ a' w' σ' j' h1 h2 (by omega) h3
 unfold zeP at hc;dsimp only at hc;cases draw with
 |false =>
  simp only[jH,if_false]at hc;split at hc
  ·rename_i cs' hcs;cases hc;refine wpIn_region ?_;have hrange:List.range ops.toList.length=List.range ops.size:=by simp
   rw[hrange]at hcs;exact zsD hF hcf hQ' hcs hG (by simp) (AW w rfl) (yS w rfl (zd9.refl _)) rfl
  ·cases hc
 |true =>
  simp only[if_true]at hc;split at hc
  ·rename_i cs' hcs;split at hc
   ·rename_i hok;cases hc;simp only[jk,decide_eq_true_eq]at hok;obtain⟨⟨⟨o1,o2⟩,o3⟩,o4⟩:=hok;refine wpIn_region_any vF ?_;obtain⟨l1,l2⟩:=zgF hcs;have hix:=zpV hcs;have hzl:(cs.zip fs).map (·.1)=cs:=by rw[List.map_fst_zip];omega
    have hzr:(cs.zip fs).map (·.2)=fs:=by rw[List.map_snd_zip];omega
    have hzi:(cs.zip fs).map (·.1.ix)=schedule ops.toList ops.toList.length []:=by
     have:(cs.zip fs).map (·.1.ix)=((cs.zip fs).map (·.1)).map (·.ix):=by rw[yr];rfl
     rw[this,hzl,hix]
    have hnd:=zgy o2;have Ax:∀c∈cs,∃i,i∈schedule ops.toList ops.toList.length []/\zdT P ops.toList an.mode ntmps i=some c:=fun c hcm=>by
     obtain⟨p,hp⟩:=jX hcm;obtain⟨i,hi,hci⟩:=l2 p c hp;exact⟨i,kF hi,hci⟩
    have yh:∀i,i<ops.size->i∈schedule ops.toList ops.toList.length []:=by
     have Dt:∀i∈schedule ops.toList ops.toList.length [],i<ops.size:=by
      intro i hi;rw[<-hix]at hi;obtain⟨c,hcm,rfl⟩:=jW.1 hi;obtain⟨i',_,hci⟩:=Ax c hcm;rw[(zgG hci).1];exact(zgG hci).2
     intro i hi;exact zCI hnd Dt (by rw[o1];simp) hi
    refine zAL hF hcf (base:=M.length+zgO ops.toList ops.toList.length) (by omega) hQ' ops.size (Array.replicate ops.size false) (cs.zip fs) E.get _ a _ σ j ?_ (by simp) (fun i hi=>?_) (by rw[hzi];exact hnd) (fun x hx=>?_) (zuW o4 hp (fun p=>by simp)) (fun i hi h=>?_) ?_ (by rw[hzl,hzr];exact hG) (by simp[qN]) (AW _ rfl) (yS _ rfl ⟨rfl,rfl,rfl,by first |exact jm _ |exact kW _⟩) rfl
    ·simp only[List.length_zip,hfl,Nat.min_self];rw[l1,o1];simp
    ·rw[hzi];have:=yh i hi;simp only[Array.length_toList]at this ⊢;simp[Array.getD,hi,this]
    ·have hxm:x.1∈cs:=by rw[<-hzl];exact jW.2 ⟨x,hx,rfl⟩
     obtain⟨i,_,hci⟩:=Ax _ hxm;have:=zgG hci;exact⟨by rw[this.1];exact this.2,_,by rw[this.1];exact hci⟩
    ·simp[Array.getD,hi]at h
    ·rw[hzi];exact(zpe o3).mono fun d hd=>by cases hd
   ·cases hc
  ·cases hc
end
end Go.Eng
namespace Go.Eng
open Go
variable[zb0]
section
variable{own:Nat->Prop}{P:Program}{σ:zP}{j:Inj}{M:Mem}{a:Act}{w:World}{ntmps:Nat}
theorem zjB{id l:Nat}{r:Loop}{f:FuncId}{sh:List (Nat×Bool×Nat)}{b:Blk}(hm:MR own σ j M w)(hj:j id 0=some (.rnd l r f sh))(hl:look M id 0=some b):M[id]?=some (some b)/\b.gen=0/\RB σ j b l r f sh w:=by
 obtain⟨h1,h2⟩:=zaz hl;obtain⟨pl,h3,h4,_⟩:=hm.ym id b h1;rw[<-h2,hj]at h3;cases h3;exact⟨h1,h2.symm,h4⟩
theorem zsJ{id:Nat}{s:Int}(h:kL M id=some s):∃b cells,look M id 0=some b/\b.rows=[.int .i64 s::cells]/\zxb M id=some cells:=by
 unfold kL at h;split at h
 ·rename_i b hb;split at h
  ·rename_i t cells hr;cases h;exact⟨b,cells,hb,hr,by simp[zxb,hb,hr]⟩
  ·cases h
 ·cases h
theorem zg0{id:Nat}{s s':Int}{M':Mem}(h:vj M id s s'=some M'):∃b cells,look M id 0=some b/\b.rows=[.int .i64 s::cells]/\M'=M.set id (some { b with rows:=[.int .i64 s'::cells],ver:=b.ver+1 }):=by
 unfold vj at h;split at h
 ·rename_i b hb;split at h
  ·rename_i t cells hr;split at h
   ·rename_i ht;cases h;subst ht;exact⟨b,cells,hb,hr,rfl⟩
   ·cases h
  ·cases h
 ·cases h
theorem znk{id l:Nat}{r:Loop}{f:FuncId}{sh:List (Nat×Bool×Nat)}{s s':Int}{M':Mem}{pd:Option Code}(hag:zM σ w)(hm:MR own σ j M w)(hj:j id 0=some (.rnd l r f sh))(h:vj M id s s'=some M')(hpd:s'≠-1->pd=zqM s') :
  zM σ (w.putObj l (.loop { r with state:=zfS s',pending:=pd }))/\MR own σ j M' (w.putObj l (.loop { r with state:=zfS s',pending:=pd })) /\
  za2 own M.length σ j M w σ j M' (w.putObj l (.loop { r with state:=zfS s',pending:=pd })):=by
 obtain⟨b,cells,hlk,uT,rfl⟩:=zg0 h;obtain⟨hb,hg,hrb⟩:=zjB hm hj hlk;obtain⟨s0,D3,pd0,vs,h1,h2,h3,h4,h5⟩:=hrb.st;rw[uT]at h1;cases h1;have hlt:=zC hb;have hll:l<w.heap.size:=(jK.1 h2).1;have yi:∀k,k≠l->(w.putObj l (.loop { r with state:=zfS s',pending:=pd })).heap[k]?=w.heap[k]?:=fun k hk=>World.putObj_heap_other hk
 have hjb:j id b.gen=some (.rnd l r f sh):=by rw[hg];exact hj
 have hne:∀k x q,k≠id->M[k]?=some (some x)->j.atk k x.gen=some q->q≠l:=fun k x q hk hx hq e=>hk (hm.vO k id x b q hx hb hq (by rw[e];exact Inj.Dn hjb))
 have get:∀k x,(M.set id (some { b with rows:=[.int .i64 s'::cells],ver:=b.ver+1 }))[k]?=some (some x)->(k=id/\x={ b with rows:=[.int .i64 s'::cells],ver:=b.ver+1 })\/(k≠id/\M[k]?=some (some x)):=by
  intro k x hx;rw[uI]at hx;by_cases hk:id=k
  ·subst hk;simp[hlt]at hx;exact .inl ⟨rfl,hx.symm⟩
  ·rw[if_neg hk]at hx;exact .inr ⟨fun e=>hk e.symm,hx⟩
 refine⟨?_,⟨fun k x hx=>?_,fun k k' x x' q hx hx' hq hq'=>?_,fun k g pl hk=>?_,hm.okP⟩,?_⟩
 ·refine⟨?_,hag.qd⟩;intro k o v hv;have hold:=hag.cells k o v hv;have hk:k≠l:=by
   rintro rfl;simp[World.cell?,h2]at hold
  simpa [World.cell?,yi k hk]using hold
 ·rcases get k x hx with⟨rfl,rfl⟩ |⟨hk,hx⟩
  ·obtain⟨pl,hpl,_,ho⟩:=hm.ym k b hb;rw[hjb]at hpl;cases hpl;exact⟨_,hjb,(⟨hrb.box,hrb.ok,s',cells,pd,vs,rfl,World.putObj_heap_same hll,hpd,h4,h5⟩:RB σ j { b with rows:=[.int .i64 s'::cells],ver:=b.ver+1 } l r f sh _),ho⟩
  ·obtain⟨pl,hpl,hbr,ho⟩:=hm.ym k x hx;exact⟨pl,hpl,hbr.mono (zP.le_refl _) (Inj.le_refl _) (fun q e=>yi q (hne k x q hk hx (Inj.yD hpl e))) (fun _ _ _ h _ _=>h),ho⟩
 ·rcases get k x hx with⟨rfl,rfl⟩ |⟨hk,hx1⟩<;>rcases get k' x' hx' with⟨rfl,rfl⟩ |⟨hk',BS⟩
  ·rfl
  ·exact hm.vO k k' b x' q hb BS hq hq'
  ·exact hm.vO k k' x b q hx1 hb hq hq'
  ·exact hm.vO k k' x x' q hx1 BS hq hq'
 ·obtain⟨x,hx,hgx⟩:=hm.dom k g pl hk;by_cases hki:id=k
  ·subst hki;rw[hb]at hx;cases hx;exact⟨{ b with rows:=[.int .i64 s'::cells],ver:=b.ver+1 },by simp[hlt],hgx⟩
  ·exact⟨x,by rw[jD hki];exact hx,hgx⟩
 ·have kl:own l:=hm.CZ hb (Inj.Dn hjb);refine⟨zP.le_refl _,fun _ _ _ _ h=>h,by simp,fun k _ ho=>yi k (fun e=>ho (e ▸ kl)),fun _ _ _ h=>.inl h,fun k x hk hx=>?_,⟨rfl,rfl,rfl,jm _⟩⟩
  ·by_cases hki:id=k
   ·subst hki;rw[hb]at hx;cases hx;exact⟨{ b with rows:=[.int .i64 s'::cells],ver:=b.ver+1 },by simp[hlt],by simp,fun h=>by simp at h⟩
   ·exact⟨x,by rw[jD hki];exact hx,jm _,fun _=>⟨rfl,fun q hq=>yi q (hne k x q (qT hki) hx hq)⟩⟩
theorem zvy{tmps:Array Value}:∀{sh:List (Nat×Bool×Nat)} {cells:List Cl} {vs:List Value} {E0:Env},A0 sh cells=some E0->VCs σ j cells vs->zCb tmps sh vs->zcs σ j E0.get tmps
 |[],cells,vs,E0,h,hv,hc=>by
  simp only[A0,jg]at h;subst h;intro n x hx;simp[Env.get]at hx
 |(n,g,k)::sh,cells,vs,E0,h,hv,hc=>by
  simp only[A0]at h;split at h
  ·rename_i v E h1 h2;cases h;obtain⟨hc1,hc2⟩:=hc;have ih:=zvy h2 (hv.drop k) hc2;intro m x hx;simp only[Env.get]at hx;split at hx
   ·rename_i hm;cases hx;subst hm;cases g with
    |true =>
     simp only[zaI,if_true,jg]at h1;subst h1;simp only[if_true]at hc1;exact⟨_,hc1,_,rfl,by simpa using hv.take k⟩
    |false =>
     simp only[jH,if_false]at hc1;obtain⟨rfl,hc1⟩:=hc1;simp only[zaI,jH,if_false]at h1;cases cells with
     |nil=>simp at h1
     |cons y ys =>
      simp only[List.take_succ_cons,vz]at h1;cases h1;obtain⟨u,us,rfl,hu,_⟩:=hv.kU;exact⟨u,by simpa using hc1,hu⟩
   ·exact ih m x hx
  ·cases h
theorem zrw{tmps:Array Value}{E:Env}(hE:zcs σ j E.get tmps):∀caps:List Nat,∃vs,VCs σ j (zeN E caps).2 vs/\zCb tmps (zeN E caps).1 vs
 |[]=>⟨[],VCs.nil,trivial⟩
 |n::ns=>by
  obtain⟨vs,h1,h2⟩:=zrw hE ns;simp only[zeN];split
  ·rename_i x hx;obtain⟨u,hu,hr⟩:=hE n _ hx;have hr:VC σ j x u:=hr;exact⟨u::vs,VCs.cons hr h1,⟨rfl,by simpa using hu⟩,by simpa using h2⟩
  ·rename_i cs hx;obtain⟨u,hu,arr,rfl,hr⟩:=hE n _ hx;have hl:cs.length=arr.toList.length:=hr.1;refine⟨arr.toList++vs,hr.append h1,?_,?_⟩
   ·simp only[if_true];rw[hu,hl,List.take_left]
   ·rw[hl,List.drop_left];exact h2
  ·exact⟨vs,h1,h2⟩
theorem zqN{E0:Env}:∀{ps:List Nat} {as:List WV} {vs:List Value} {tmps:Array Value},ps.Nodup->(∀p∈ps,p<tmps.size)->as.length=ps.length->zac σ j as vs->zcs σ j E0.get tmps ->
  zcs σ j (zv3 ps as++E0).get ((ps.zip vs).foldl (fun t (x:Nat×Value)=>t.setIfInBounds x.1 x.2) tmps)/\((ps.zip vs).foldl (fun t (x:Nat×Value)=>t.setIfInBounds x.1 x.2) tmps).size=tmps.size /\
   ∀k,k∉ps->((ps.zip vs).foldl (fun t (x:Nat×Value)=>t.setIfInBounds x.1 x.2) tmps)[k]?=tmps[k]?
 |[],as,vs,tmps,hn,hp,hl,hv,hE=>by
  cases as with
  |cons=>simp at hl
  |nil=>exact⟨by simpa [zv3]using hE,by simp,fun k _=>by simp⟩
 |p::ps,as,vs,tmps,hn,hp,hl,hv,hE=>by
  cases as with
  |nil=>simp at hl
  |cons x as =>
   obtain⟨v,vs',rfl,h1,h2⟩:=hv.kU;obtain⟨hnp,hn'⟩:=qQ.1 hn;have key:∀(E1:Env),zcs σ j E1.get (tmps.setIfInBounds p v)->zcs σ j (zv3 ps as++E1).get ((ps.zip vs').foldl (fun t (x:Nat×Value)=>t.setIfInBounds x.1 x.2) (tmps.setIfInBounds p v)) /\
     ((ps.zip vs').foldl (fun t (x:Nat×Value)=>t.setIfInBounds x.1 x.2) (tmps.setIfInBounds p v)).size=(tmps.setIfInBounds p v).size/\∀k,k∉ps->((ps.zip vs').foldl (fun t (x:Nat×Value)=>t.setIfInBounds x.1 x.2) (tmps.setIfInBounds p v))[k]?=(tmps.setIfInBounds p v)[k]? :=
    fun E1 hE1=>zqN hn' (fun q hq=>by simpa using hp q (js _ hq)) (by simpa using hl) h2 hE1
   have hpt:p<tmps.size:=hp p (jq ..);have hE1:zcs σ j (Env.get (E0.filter (fun(x:Nat×AV)=>x.1 !=p))) (tmps.setIfInBounds p v):=by
    intro m y hy;have:m≠p/\E0.get m=some y:=by
     clear key hE;induction E0 with
     |nil=>simp[Env.get]at hy
     |cons e E0 ih =>
      simp only[ux]at hy;split at hy
      ·rename_i hep;simp only[Env.get]at hy ⊢;split at hy
       ·rename_i hem;cases hy;subst hem;exact⟨by simpa using hep,by simp⟩
       ·rename_i hem;rw[if_neg hem];exact ih hy
      ·rename_i hep;obtain⟨q1,q2⟩:=ih hy;refine⟨q1,?_⟩;simp only[Env.get];rw[if_neg]
       ·exact q2
       ·intro e';exact q1 (by rw[<-e'];simpa using hep)
    obtain⟨u,hu,hr⟩:=hE m y this.2;exact⟨u,by rw[qS (qT this.1)];exact hu,hr⟩
   obtain⟨q1,q2,q3⟩:=key _ hE1;refine⟨?_,by simpa using q2,fun k hk=>?_⟩
   ·intro m y hy;simp only[zv3,ji,Env.get]at hy;simp only[List.zip_cons_cons,jO];split at hy
    ·rename_i hm;cases hy;subst hm;exact⟨v,by rw[q3 p hnp,ua hpt],h1⟩
    ·rename_i hm;refine q1 m y ?_;have gen:∀(Z:Env),Env.get (Z++E0) m=some y->Env.get (Z++E0.filter (fun(x:Nat×AV)=>x.1 !=p)) m=some y:=by
      intro Z;induction Z with
      |nil =>
       simp only[je];clear key q1 q2 q3 hE hE1 hy;induction E0 with
       |nil=>exact fun h=>h
       |cons e E0 ih =>
        intro h;simp only[Env.get]at h;simp only[ux];split at h
        ·rename_i hem;cases h;have:(e.1 !=p)=true:=by rw[hem];simpa using qT hm
         rw[if_pos this];simp[Env.get,hem]
        ·rename_i hem;split
         ·simp only[Env.get];rw[if_neg hem];exact ih h
         ·exact ih h
      |cons z Z ih =>
       intro h;simp only[ji,Env.get]at h ⊢;split at h
       ·rename_i hz;rw[if_pos hz];exact h
       ·rename_i hz;rw[if_neg hz];exact ih h
     exact gen _ hy
   ·simp only[jG,not_or]at hk;simp only[List.zip_cons_cons,jO];rw[q3 k hk.2,qS (qT hk.1)]
theorem zxR(ps:Array Nat)(vs:Array Value)(tmps:Array Value):(ps.zip vs).foldl (fun(tmps:Array Value) (x:Nat×Value)=>tmps.setIfInBounds x.1 x.2) tmps=(ps.toList.zip vs.toList).foldl (fun t (x:Nat×Value)=>t.setIfInBounds x.1 x.2) tmps:=by
 rw[<-Array.foldl_toList];simp
theorem zd9.CF{w w':World}{o:Obj}(h:w'.heap=w.heap.push o)(ho:w'.os=w.os)(hp:w'.output=w.output)(hno:∀C T f,o≠.cells C T f)(ht:w'.tape=w.tape:=by rfl)(hd:w.drawn<=w'.drawn:=by first |exact jm _ |exact kW _):zd9 w w':=by
 exact⟨ho,hp,ht,hd⟩
theorem zBE{r:Loop}{f:FuncId}{caps:List Nat}{E:Env}(hst:r.state=.ready)(hpd:r.pending=none)(hok:zb0.ok f r)(hE:zcs σ j E.get r.tmps)(hag:zM σ w)(hm:MR own σ j M w)(kl:∀b,w.heap.size<=b->own b) :
  ∃j',j' M.length 0=some (.rnd (w.heap.size+1) r f (zeN E caps).1)/\zM σ ((w.alloc (.deferred (some []))).alloc (.loop r))/\MR (fun k=>own k/\k≠w.heap.size) σ j' (M++[some (ghost (zeN E caps).2)]) ((w.alloc (.deferred (some []))).alloc (.loop r)) /\
   za2 own M.length σ j M w σ j' (M++[some (ghost (zeN E caps).2)]) ((w.alloc (.deferred (some []))).alloc (.loop r)):=by
 generalize hw1:(w.alloc (.deferred (some []))).alloc (.loop r)=w1;have vR:w1.heap=(w.heap.push (.deferred (some []))).push (.loop r):=by rw[<-hw1];rfl
 have hold:∀k,k<w.heap.size->w1.heap[k]?=w.heap[k]?:=fun k hk=>by
  rw[vR,qP,if_neg (by simp;omega),qP,if_neg (by omega)]
 have hl:w1.heap[w.heap.size+1]?=some (.loop r):=by
  rw[vR,qP,if_pos (by simp)]
 have DJ:zd9 w w1:=by
  rw[<-hw1];exact(zd9.CF (w':=w.alloc (.deferred (some []))) rfl rfl rfl (by intro C T f h;cases h)).trans (zd9.CF (w':=(w.alloc (.deferred (some []))).alloc (.loop r)) rfl rfl rfl (by intro C T f h;cases h))
 have ye:(M++qN 1)[M.length]?=some none:=by simp[qN]
 have hlt:M.length<(M++qN 1).length:=by simp[qN]
 have A9:(M++qN 1).set M.length (some (ghost (zeN E caps).2))=M++[some (ghost (zeN E caps).2)]:=by simp[qN]
 obtain⟨vs,hvs,hcv⟩:=zrw hE caps;have hm0:MR (fun k=>own k/\k≠w.heap.size) σ j (M++qN 1) w:=(hm.Ca (fun b hb ho=>⟨ho,by omega⟩)).qN 1;have vl:j M.length 0=none:=by
  cases h:j M.length 0 with
  |none=>rfl
  |some pl=>exact absurd (hm.lt h) (ut _)
 have hle:=Inj.AP (pl:=.rnd (w.heap.size+1) r f (zeN E caps).1) vl;obtain⟨_,hm1⟩:=hm0.renew (w':=w1) (id:=M.length) (b':=ghost (zeN E caps).2) (pl':=.rnd (w.heap.size+1) r f (zeN E caps).1) hlt (fun b hb=>by rw[ye]at hb;cases hb)
  (fun k b q _ hb hq=>by
   have:=hm0.uG hb hq;exact⟨hold q this,fun e=>by cases e;omega⟩)
  (⟨rfl,hok,0,(zeN E caps).2,none,vs,rfl,by rw[hl];obtain⟨st,pd,_⟩:=r;cases hst;cases hpd;rfl,fun _=>rfl,hvs.mono (zP.le_refl _) hle,hcv⟩:RB σ _ (ghost (zeN E caps).2) _ r f _ w1)
  (fun k e=>by cases e;exact⟨kl _ (by omega),by omega⟩)
 rw[A9]at hm1;refine⟨_,Inj.vN _ _ _ _,hag.Bw (fun b o v hv=>hold b (hag.lt hv)),hm1,zP.le_refl _,fun id g pl _ h=>hle id g pl h,by rw[vR];simp;omega,fun k hk _=>hold k hk,fun _ _ _ h=>.inl h,fun id b hid hb=>⟨b,?_,jm _,fun _=>⟨rfl,fun q hq=>hold q (hm.uG hb hq)⟩⟩,DJ⟩;rw[jA hid];exact hb
end
end Go.Eng
namespace Go.Eng
open Go
section
variable[GlobP]
def zae(K:FuncId->Array Tmp->Code->Code->Nat->Prop)(P:Program)(an:Ann)(ntmps:Nat):Code->CC->Prop
 |.skip,.skip=>True
 |.region id ops draw,.region nA cs prs _=>zeP P an ntmps id ops.toList draw=some (nA,cs,prs)
 |.seq a b,.seq a' b'=>zae K P an ntmps a a'/\zae K P an ntmps b b'
 |.cond c a b,.cond c' a' b'=>za5 c=some c'/\zae K P an ntmps a a'/\zae K P an ntmps b b'
 |.block id b,.block id' b'=>id=id'/\zae K P an ntmps b b'
 |.loop b,.loop _ b'=>zae K P an ntmps b b'
 |.exit id,.exit id'=>id=id'
 |.ret,.ret=>True
 |.label _,.skip=>True
 |.scope b,.seq b' c'=>c'=.skip/\zae K P an ntmps b b'
 |.rangeFunc g ps a b,.rng f v _=>za5 g=some f/\K v ps a b ntmps
 |_,_=>False
def noK:FuncId->Array Tmp->Code->Code->Nat->Prop:=fun _ _ _ _ _=>False
def zAN(P:Program)(T:FuncId->Option CFn)(v:FuncId)(ps:Array Tmp)(a b:Code)(n:Nat):Prop :=
 ∃c pre an,T v=some c/\c.rnd=some (ps.toList,pre)/\zae noK P an n a pre/\zae noK P an n b c.code/\ps.toList.Nodup/\∀p∈ps.toList,p<n
end
variable[zb0]
theorem zae.mono{K K':FuncId->Array Tmp->Code->Code->Nat->Prop}{P:Program}{an:Ann}{ntmps:Nat}(hK:∀v ps a b,K v ps a b ntmps->K' v ps a b ntmps):∀{c:Code} {cc:CC},zae K P an ntmps c cc->zae K' P an ntmps c cc
 |.skip,cc,h=>by cases cc<;>simp only[zae]at h ⊢
 |.region ..,cc,h=>by cases cc<;>simp only[zae]at h ⊢;exact h
 |.seq a b,cc,h=>by cases cc<;>simp only[zae]at h ⊢;exact⟨zae.mono hK h.1,zae.mono hK h.2⟩
 |.cond c a b,cc,h=>by cases cc<;>simp only[zae]at h ⊢;exact⟨h.1,zae.mono hK h.2.1,zae.mono hK h.2.2⟩
 |.block id b,cc,h=>by cases cc<;>simp only[zae]at h ⊢;exact⟨h.1,zae.mono hK h.2⟩
 |.loop b,cc,h=>by cases cc<;>simp only[zae]at h ⊢;exact zae.mono hK h
 |.exit id,cc,h=>by cases cc<;>simp only[zae]at h ⊢;exact h
 |.ret,cc,h=>by cases cc<;>simp only[zae]at h ⊢
 |.label l,cc,h=>by cases cc<;>simp only[zae]at h ⊢
 |.rangeFunc g ps a b,cc,h=>by cases cc<;>simp only[zae]at h ⊢;exact⟨h.1,hK _ _ _ _ h.2⟩
 |.goto l,cc,h=>by cases cc<;>simp only[zae]at h
 |.scope b,cc,h=>by cases cc<;>simp only[zae]at h ⊢;exact⟨h.1,zae.mono hK h.2⟩
theorem zfr:∀c:Code,(rfs c).length=zeV c
 |.seq a b=>by simp[rfs,zeV,zfr a,zfr b]
 |.cond c a b=>by simp[rfs,zeV,zfr a,zfr b]
 |.block id b=>by simp[rfs,zeV,zfr b]
 |.loop b=>by simp[rfs,zeV,zfr b]
 |.scope b=>by simp[rfs,zeV,zfr b]
 |.rangeFunc g ps a b=>by simp[rfs,zeV]
 |.skip=>rfl
 |.region ..=>rfl
 |.exit _=>rfl
 |.ret=>rfl
 |.label _=>rfl
 |.goto _=>rfl
 |.refuse _=>rfl
theorem zdt{K:FuncId->Array Tmp->Code->Code->Nat->Prop}{P:Program}{an:Ann}{ntmps:Nat}:∀{vf:Option FuncId} {c:Code} {cc:CC},zbj P an ntmps vf c=some cc ->
  (∀v i x,vf=some v->(rfs c)[i]?=some x->K (v+i) x.1 x.2.1 x.2.2 ntmps)->zae K P an ntmps c cc
 |vf,.skip,cc,h,hK=>by simp only[zbj,jg]at h;subst h;trivial
 |vf,.region id ops draw,cc,h,hK=>by
  simp only[zbj]at h;split at h
  ·rename_i h1;cases h;exact h1
  ·cases h
 |vf,.seq a b,cc,h,hK=>by
  simp only[zbj]at h;split at h
  ·rename_i a' b' h1 h2;cases h;refine⟨zdt h1 fun v i x hv hx=>hK v i x hv (by simp only[rfs];rw[jA (by have:=zC hx;exact this)];exact hx),zdt h2 fun v i x hv hx=>?_⟩;simp only[ja]at hv;obtain⟨v0,hv0,rfl⟩:=hv;have:=hK v0 (zeV a+i) x hv0 (by simp only[rfs];rw[j6 (by rw[zfr];omega),zfr];simpa using hx)
   rwa [<-kS]at this
  ·cases h
 |vf,.cond c a b,cc,h,hK=>by
  simp only[zbj]at h;split at h
  ·rename_i c' a' b' h0 h1 h2;cases h;refine⟨h0,zdt h1 fun v i x hv hx=>hK v i x hv (by simp only[rfs];rw[jA (by have:=zC hx;exact this)];exact hx),zdt h2 fun v i x hv hx=>?_⟩;simp only[ja]at hv;obtain⟨v0,hv0,rfl⟩:=hv;have:=hK v0 (zeV a+i) x hv0 (by simp only[rfs];rw[j6 (by rw[zfr];omega),zfr];simpa using hx)
   rwa [<-kS]at this
  ·cases h
 |vf,.block id b,cc,h,hK=>by
  simp only[zbj,ja]at h;obtain⟨b',h1,rfl⟩:=h;exact⟨rfl,zdt h1 hK⟩
 |vf,.loop b,cc,h,hK=>by
  simp only[zbj,ja]at h;obtain⟨b',h1,rfl⟩:=h;have:=zdt h1 hK;exact this
 |vf,.exit id,cc,h,hK=>by simp only[zbj,jg]at h;subst h;exact rfl
 |vf,.ret,cc,h,hK=>by simp only[zbj,jg]at h;subst h;trivial
 |vf,.label l,cc,h,hK=>by simp only[zbj,jg]at h;subst h;trivial
 |vf,.goto l,cc,h,hK=>by simp[zbj]at h
 |vf,.scope b,cc,h,hK=>by
  simp only[zbj,ja]at h;obtain⟨b',h1,rfl⟩:=h;exact⟨rfl,zdt h1 hK⟩
 |vf,.refuse b,cc,h,hK=>by simp[zbj]at h
 |vf,.rangeFunc g ps a b,cc,h,hK=>by
  simp only[zbj]at h;split at h
  ·rename_i v f a' b' hf h1 h2;cases h;have:=hK v 0 (ps,a,b) rfl rfl;exact⟨hf,this⟩
  ·cases h
theorem zfQ{K:FuncId->Array Tmp->Code->Code->Nat->Prop}{P:Program}{an:Ann}{ntmps:Nat}:∀{c:Code} {cc:CC} {l:List Nat} {ex:List (Nat×List Nat)} {rt:List Nat},zae K P an ntmps c cc->zae K P an ntmps c (annot cc l ex rt)
 |c,.skip,l,ex,rt,h=>by simpa only[annot]using h
 |c,.region nA cs prs k,l,ex,rt,h=>by cases c<;>simp only[zae,annot]at h ⊢;exact h
 |c,.seq a b,l,ex,rt,h=>by
  cases c<;>simp only[zae,annot]at h ⊢
  ·exact⟨zfQ h.1,zfQ h.2⟩
  ·obtain⟨rfl,h⟩:=h;exact⟨rfl,zfQ h⟩
 |c,.cond x a b,l,ex,rt,h=>by cases c<;>simp only[zae,annot]at h ⊢;exact⟨h.1,zfQ h.2.1,zfQ h.2.2⟩
 |c,.block i b,l,ex,rt,h=>by cases c<;>simp only[zae,annot]at h ⊢;exact⟨h.1,zfQ h.2⟩
 |c,.loop k b,l,ex,rt,h=>by cases c<;>simp only[zae,annot]at h ⊢;exact zfQ h
 |c,.exit i,l,ex,rt,h=>by simpa only[annot]using h
 |c,.ret,l,ex,rt,h=>by simpa only[annot]using h
 |c,.rng f v caps,l,ex,rt,h=>by simpa only[annot]using h
theorem zn1{E:Env}{n:Nat}{v:AV}:∀{l:List Nat},(E.v8 l).get n=some v->E.get n=some v
 |[],h=>by simp[Env.v8,Env.get]at h
 |m::l,h=>by
  simp only[Env.v8]at h;split at h
  ·rename_i x hu;simp only[Env.get]at h;split at h
   ·rename_i hmn;cases h;subst hmn;exact hu
   ·exact zn1 h
  ·exact zn1 h
theorem zAg{E:Env}{n:Nat}{v:AV}{k:Option (List Nat)}(h:(E.kept k).get n=some v):E.get n=some v:=by
 cases k with
 |none=>exact h
 |some l=>exact zn1 h
theorem zBK{E:Env}{n:Nat}{v:AV}(h:E.get n=some v):(n,v)∈E:=by
 induction E with
 |nil=>simp[Env.get]at h
 |cons x E ih =>
  obtain⟨m,y⟩:=x;simp only[Env.get]at h;split at h
  ·rename_i hmn;cases h;subst hmn;exact jq ..
  ·exact js _ (ih h)
section
variable{own:Nat->Prop}{P:Program}{cf:za4}{ntmps:Nat}{F:Fence}{n:Nat}{Q:Exit->Act->World->Prop}{σ:zP}{j:Inj}{M:Mem}{a:Act}{w:World}
theorem At.sub{E E':zhy}(h:At own σ j E M ntmps a w)(hs:∀n v,E' n=some v->E n=some v):At own σ j E' M ntmps a w :=
 ⟨fun n x hx=>h.env n x (hs n x hx),h.size,h.marks,h.yI,h.mem,h.own⟩
def zw5(k:Nat)(j:Inj):Inj:=fun id g=>if id<k then j id g else none
theorem zw3{E:Env}{k:Nat}(h:At own σ j E.get M ntmps a w)(hk:k<=M.length):∃j',At own σ j' E.get (qz k E M) ntmps a w/\za2 own k σ j M w σ j' (qz k E M) w/\k<=(qz k E M).length:=by
 unfold qz;split
 ·exact⟨j,h,za2.refl,hk⟩
 ·split
  ·rename_i hb;simp only[jk]at hb;let ρ:Nat->Option Nat:=fun id=>if id<k then some id else none
   have hkb:zbs ρ k:=fun id hid=>by simp[ρ,hid]
   have BU:zi8 ρ j (zw5 k j):=by
    intro id id' g pl h1 h2;simp only[ρ]at h1;split at h1
    ·rename_i hid;cases h1;simp[zw5,hid,h2]
    ·cases h1
   have get:∀(id:Nat) (b:Blk),(M.take k)[id]?=some (some b)->id<k/\M[id]?=some (some b):=by
    intro id b hb;rw[kO]at hb;split at hb
    ·rename_i hid;exact⟨hid,hb⟩
    ·cases hb
   have put:∀(id:Nat) (b:Blk),id<k->M[id]?=some (some b)->(M.take k)[id]?=some (some b):=by
    intro id b hid hb;rw[kO,if_pos hid];exact hb
   have cutk:∀id g,id<k->zw5 k j id g=j id g:=fun id g hid=>by simp[zw5,hid]
   refine⟨zw5 k j,⟨fun m x hx=>?_,h.size,h.marks,h.yI,⟨fun id b hb'=>?_,fun id id' b b' q hb1 hb2 hL hL'=>?_,fun id g pl hj=>?_,fun id g pl hj=>by
    simp only[zw5]at hj;split at hj
    ·exact h.mem.okP _ _ _ hj
    ·cases hj⟩,h.own⟩,?_,by simp;omega⟩
   ·obtain⟨v,hv,hr⟩:=h.env m x hx;refine⟨v,hv,znm BU (zqH hkb ?_) hr⟩;have:=jI.1 hb.1 _ (zBK hx);exact this
   ·obtain⟨hid,hb1⟩:=get id b hb';obtain⟨pl,h1,h2,h3⟩:=h.mem.ym id b hb1;refine⟨pl,by rw[cutk _ _ hid];exact h1,zkp BU (zqG hkb ?_) h2,h3⟩;have:=hb.2;simp only[zH,jI]at this;exact this (some b) (kF hb')
   ·obtain⟨hid,hb1⟩:=get id b hb1;obtain⟨yM,hb2⟩:=get id' b' hb2;have hL:j.atk id b.gen=some q:=by simpa [Inj.atk,cutk _ _ hid]using hL
    have hL':j.atk id' b'.gen=some q:=by simpa [Inj.atk,cutk _ _ yM]using hL'
    exact h.mem.vO id id' b b' q hb1 hb2 hL hL'
   ·simp only[zw5]at hj;split at hj
    ·rename_i hid;obtain⟨b,hb1,hg⟩:=h.mem.dom id g pl hj;exact⟨b,put id b hid hb1,hg⟩
    ·cases hj
   ·exact⟨zP.le_refl _,fun id g pl hid hj=>by rw[cutk _ _ hid];exact hj,jm _,fun _ _ _=>rfl,fun _ _ _ h=>.inl h,fun id b hid hb1=>⟨b,put id b hid hb1,jm _,fun _=>⟨rfl,fun _ _=>rfl⟩⟩,zd9.refl _⟩
  ·exact⟨j,h,za2.refl,hk⟩
theorem zrx{E:Env}{k:Nat}{live:Option (List Nat)}(h:At own σ j E.get M ntmps a w)(hk:k<=M.length) :
  ∃j',At own σ j' (canon k live E M).1.get (canon k live E M).2 ntmps a w/\za2 own k σ j M w σ j' (canon k live E M).2 w/\k<=(canon k live E M).2.length:=by
 cases live with
 |none=>exact⟨j,h,za2.refl,hk⟩
 |some l=>exact zw3 (E:=E.v8 l) (h.sub fun n v hv=>zn1 hv) hk
def zrk:EX->Exit
 |.normal=>.normal
 |.exit id=>.exit id
 |.ret=>.ret
def zzd(own:Nat->Prop)(k:Nat)(σ:zP)(j:Inj)(M:Mem)(w:World)(ntmps:Nat)(ds:List Deferred)(ex:EX)(E':Env)(M':Mem):Exit->Act->World->Prop :=
 fun e a' w'=>e=zrk ex/\∃A7 σ' j',(∀b,A7 b->own b)/\(∀d∈a'.defers,d∈ds\/∃r,d=zkw r/\own r/\w.heap.size<=r)/\At A7 σ' j' E'.get M' ntmps a' w'/\za2 own k σ j M w σ' j' M' w'/\k<=M'.length
theorem least{p:Nat->Prop}(h:∃n,p n):∃n,p n/\∀m,p m->n<=m:=by
 obtain⟨n,hn⟩:=h;induction n using Nat.strongRecOn with
 |_ n ih =>
  by_cases hx:∃m,m<n/\p m
  ·obtain⟨m,hm,hp⟩:=hx;exact ih m hm hp
  ·exact⟨n,hn,fun m hm=>by
    rcases kA m n with h|h
    ·exact absurd ⟨m,h,hm⟩ hx
    ·exact h⟩
open Classical in
noncomputable def zqb(p:Nat->Prop):Nat:=if h:∃n,p n then(least h).choose else 0
theorem znY{p:Nat->Prop}{n:Nat}(h:p n):p (zqb p)/\zqb p<=n:=by
 have hx:∃n,p n:=⟨n,h⟩;unfold zqb;rw[dif_pos hx];exact⟨(least hx).choose_spec.1,(least hx).choose_spec.2 n h⟩
theorem zqk{c:Code}(J:Nat->Act->World->Prop){m:Nat}(h:J m a w)
  (round:∀m a w,J m a w->∃m',m=m'+1/\c.wpIn F n P (Exit.then (J m') Q) a w):(Code.loop c).wpIn F n P Q a w:=by
 refine wpIn_loop (fun a w=>∃m,J m a w) (fun a w=>zqb fun m=>J m a w) ⟨m,h⟩ ?_;rintro a w ⟨m,hm⟩;obtain⟨h1,_⟩:=znY (p:=fun m=>J m a w) hm;obtain⟨m',he,hw⟩:=round _ a w h1;refine wpIn_mono hw fun e a' w' hq=>?_
 cases e with
 |normal =>
  refine⟨⟨m',hq⟩,?_⟩;have:=(znY (p:=fun m=>J m a' w') hq).2;omega
 |_=>exact hq
theorem zgd{P:Program}{b:Frame}{a:Act}{k:List Item}{cs:List Frame}{w:World}{c:Code}:step P (lone (b.atR a (.code (.scope c)::k)) cs w)=.next (lone (b.atR a (.code c::.inScope c::k)) cs w) :=
 step_lone_go (by simp[stepG,stepG.exec,Frame.atR])
theorem zr3{P:Program}{b:Frame}{a:Act}{k:List Item}{cs:List Frame}{w:World}{c:Code}:step P (lone (b.atR a (.inScope c::k)) cs w)=.next (lone (b.atR a k) cs w) :=
 step_lone_go (by simp[stepG,stepG.exec,Frame.atR])
theorem zv5{F:Fence}{n:Nat}{P:Program}{Q:Exit->Act->World->Prop}{a:Act}{w:World}{c:Code}(h:c.wpIn F n P (fun e a w=>(∀l,e≠.goto l)/\Q e a w) a w):(Code.scope c).wpIn F n P Q a w:=by
 intro b k cs hro hb hr;have h0:(lone (b.atR a (.code (.scope c)::k)) cs w).fenced P F:=fenced_calm hb hr rfl;obtain⟨e,a₁,w₁,⟨hg,hq⟩,BK⟩:=h b (.inScope c::k) cs hro hb hr;cases e with
 |normal=>exact⟨.normal,a₁,w₁,hq,.head h0 zgd (StepsIn.trans BK (.one (fenced_calm hb hr rfl) zr3))⟩
 |exit id =>
  have hx:exitTo id (.inScope c::k)=exitTo id k:=by simp[exitTo]
  exact⟨_,a₁,w₁,hq,fun k' hk=>.head h0 zgd (BK.1 k' (by rw[hx];exact hk)),
   fun hr' hk=>let ⟨k₁,h1,h2⟩:=BK.2 hr' (by rw[hx];exact hk);⟨k₁,h1,.head h0 zgd h2⟩⟩
 |goto l=>exact absurd rfl (hg l)
 |ret=>exact⟨_,a₁,w₁,hq,.of_steps (.one h0 zgd) BK⟩
 |panic ch=>exact⟨_,a₁,w₁,hq,.of_steps (.one h0 zgd) BK⟩
 |outgrown=>exact⟨_,a₁,w₁,hq,.of_steps (.one h0 zgd) BK⟩
theorem zzd.trans{own Ck:Nat->Prop}{k:Nat}{σ σ1:zP}{j j1:Inj}{M M1:Mem}{w w1:World}{ds ds1:List Deferred}{ex:EX}{E':Env}{M':Mem}{e:Exit}{a':Act}{w':World}(ho:∀b,Ck b->own b)(hd:∀d∈ds1,d∈ds\/∃r,d=zkw r/\own r/\w.heap.size<=r)
  (hst:za2 own k σ j M w σ1 j1 M1 w1) (hk:k<=M1.length) (h:zzd Ck M1.length σ1 j1 M1 w1 ntmps ds1 ex E' M' e a' w'):zzd own k σ j M w ntmps ds ex E' M' e a' w':=by
 obtain⟨rfl,own2,σ2,j2,q1,q2,q3,q4,q5⟩:=h;refine⟨rfl,own2,σ2,j2,fun b hb=>ho b (q1 b hb),fun d hd'=>?_,q3,hst.trans ((q4.vQ ho).le hk),jV hk q5⟩;rcases q2 d hd' with h |⟨r,h1,h2,h3⟩
 ·exact hd d h
 ·exact .inr ⟨r,h1,ho r h2,jV hst.size h3⟩
def noR:CC->Bool
 |.seq a b |.cond _ a b=>noR a&&noR b
 |.block _ b |.loop _ b=>noR b
 |.rng ..=>false
 |_=>true
theorem zkv{P:Program}{an:Ann}:∀{c:Code} {cc:CC},zae noK P an ntmps c cc->noR cc=true
 |c,.skip,h=>rfl
 |c,.region ..,h=>rfl
 |c,.seq a b,h=>by
  cases c<;>simp only[zae,noR,jk]at h ⊢
  ·exact⟨zkv h.1,zkv h.2⟩
  ·obtain⟨rfl,h⟩:=h;exact⟨zkv h,rfl⟩
 |c,.cond x a b,h=>by cases c<;>simp only[zae,noR,jk]at h ⊢;exact⟨zkv h.2.1,zkv h.2.2⟩
 |c,.block i b,h=>by cases c<;>simp only[zae,noR]at h ⊢;exact zkv h.2
 |c,.loop k b,h=>by cases c<;>simp only[zae,noR]at h ⊢;exact zkv h
 |c,.exit i,h=>rfl
 |c,.ret,h=>rfl
 |c,.rng ..,h=>by cases c<;>simp only[zae,noK,and_false]at h
theorem zzE(hF:zhz F)(hcf:FnS P cf)(hro:F.round=none){g:Operand}{ps:Array Tmp}{x b:Code}{f:Opd}{v:FuncId}{caps:List Nat}{E E':Env}{M':Mem}{ex:EX}(hg:za5 g=some f)(hK:zb0.okc v ps x b ntmps)
  (hx:zaV cf 0 (.rng f v caps) E M=some (ex,E',M')) (hat:At own σ j E.get M ntmps a w):(Code.rangeFunc g ps x b).wpIn F n P (zzd own M.length σ j M w ntmps a.defers ex E' M') a w:=by
 simp only[zaV]at hx;split at hx
 ·rename_i g0 gi ga hfv;split at hx
  ·rename_i r M1 fp uc;split at hx
   ·rename_i s hs;split at hx
    ·rename_i ex' M2 Bf A9;simp only[jg,jv]at hx;obtain⟨rfl,rfl,rfl⟩:=hx;refine wpIn_rangeFunc fun fn hfn=>?_
     rw[hro];generalize hrec:({ state:=.ready,pending:=none,fn,tmps:=a.tmps,params:=ps,assign:=x,body:=b,defers:=w.heap.size }:Loop)=rc;obtain⟨j1,hj1,Db,hm1,yS⟩:=zBE (r:=rc) (f:=v) (caps:=caps) (E:=E) (by rw[<-hrec]) (by rw[<-hrec]) (by rw[<-hrec];show zb0.okc v ps x b a.tmps.size;rw[hat.size];exact hK) (by rw[<-hrec];exact hat.env) hat.yI hat.mem hat.own;generalize hw1:(w.alloc (.deferred (some []))).alloc (.loop rc)=w1 at *;have Cb:w1.heap.size=w.heap.size+2:=by rw[<-hw1];show((w.heap.push _).push _).size=_;simp
     have hmark:w1.heap[w.heap.size]?=some (.deferred (some [])):=by
      rw[<-hw1];show((w.heap.push _).push _)[w.heap.size]?=_;rw[qP,if_neg (by simp),qP,if_pos rfl]
     have CM:=yS.jle' hat.mem (jm _);have hfw:WVR σ j1 (.c (.fn g0 gi ga)) (a.eval g):=zWl hat.yI.qd (hat.env.mono (zP.le_refl _) CM) hg hfv;have hyv:zac σ j1 [.c (.yld M.length v (zeN E caps).1)] (#[Value.func (.yield (w.heap.size+1)) #[] #[]]:Array Value).toList :=
      zac.cons (show WVR σ j1 (.c (.yld M.length v (zeN E caps).1)) _ from .yld _ _ _ _ _ rc hj1) zac.nil
     have hown1:∀b,w1.heap.size<=b->(own b/\b≠w.heap.size):=fun b hb=>⟨hat.own b (by omega),by omega⟩
     rcases zpA hcf uc Db hm1 hown1 hfw hyv with⟨h,fi,ca,fnn,BW,q1,q2,q3,hc⟩ |⟨l,rc',BW,hl,hsz,Aw⟩
     ·have DY:=run_enterLoop_outer (P:=P) (w:=w) fn a.tmps ps x b;rw[hrec,hw1]at DY;refine⟨w.heap.size+1,_,w1,{ target:=.fn (.func h) ca,args:=fi ++ #[.func (.yield (w.heap.size+1)) #[] #[]] },w1,h,fi ++ #[.func (.yield (w.heap.size+1)) #[] #[]]++ca,w1,DY,?_,fun f' _=>hF.fn f',?_,fun h=>(by rw[hF.depth]at h;cases h),hF.calls ?_⟩
      ·show(Deferred.ofValue (a.eval g) (#[Operand.const (.func (.yield (w.heap.size+1)) #[] #[])].map a.eval)).run P w1=_;rw[BW];simp[Deferred.ofValue,Act.eval]
      ·simp[invoke,zsS q1 q2 q3]
      ·refine Calls.yO hc ?_;rintro e w2 ⟨vv,σ2,j2,rfl,hr,Cv,hm2,yL⟩;have hlen:M.length<(M++[some (ghost (zeN E caps).2)]).length:=by simp
       have hj2:j2 M.length 0=some (.rnd (w.heap.size+1) rc v (zeN E caps).1):=yL.jle _ _ _ hlen hj1;obtain⟨bb,cells,hlk,uT,_⟩:=zsJ hs;obtain⟨_,_,hrb⟩:=zjB hm2 hj2 hlk;obtain⟨s0,D3,pd,vs,h1,h2,h3,h4,h5⟩:=hrb.st;rw[uT]at h1;cases h1;have hne:s≠-1:=by rintro rfl;simp[v9]at Bf
       have hs1:s≠1:=by rintro rfl;simp[v9]at Bf
       have hpd:=h3 hne;obtain⟨hag3,hm3,CL⟩:=znk (pd:=pd) Cv hm2 hj2 A9 (fun h=>absurd rfl h);have BI:=run_endLoop (P:=P) h2 (by
        show zfS s≠_;unfold zfS;simp only[hs1,hne,if_false];split<;>simp)
       have e0:zfS (-1)=.exhausted:=by simp[zfS]
       rw[e0]at hag3 hm3 CL;have DQ:∀r,w1.heap[r]?=some (.deferred (some []))->¬(own r/\r≠w.heap.size)->(w2.putObj (w.heap.size+1) (.loop { rc with state:=.exhausted,pending:=pd })).heap[r]?=some (.deferred (some [])):=by
        intro r hr1 hr2;have hlt:=(jK.1 hr1).1;rw[CL.frame r (ya hlt yL.size) hr2,yL.frame r hlt hr2];exact hr1
       have Da:At (fun k=>own k/\k≠w.heap.size) σ2 j2 E.get M2 ntmps { a with defers:=[zkw w.heap.size]++a.defers } (w2.putObj (w.heap.size+1) (.loop { rc with state:=.exhausted,pending:=pd })):=by
        have hjle:=yL.jle' hm1 (jm _);refine⟨hat.env.mono yL.sle (Inj.le_trans CM hjle),hat.size,?_,hag3,hm3,fun k hk=>?_⟩
        ·obtain⟨rs,e1,e2,e3⟩:=hat.marks;have hrlt:∀r∈rs,r<w.heap.size:=fun r hr=>(jK.1 (e3 r hr).1).1
         refine⟨w.heap.size::rs,by simp[e1],qQ.2 ⟨fun h=>ut _ (hrlt _ h),e2⟩,fun r hr=>?_⟩;rcases jG.1 hr with rfl|hr
         ·exact⟨DQ _ hmark (by simp),by simp⟩
         ·have hlt:=hrlt r hr;have hold:w1.heap[r]?=w.heap[r]?:=yS.frame r hlt (e3 r hr).2;exact⟨DQ r (by rw[hold];exact(e3 r hr).1) (fun h=>(e3 r hr).2 h.1),fun h=>(e3 r hr).2 h.1⟩
        ·have hk:w2.heap.size<=k:=by simpa using hk
         have:=yL.size;exact⟨hat.own k (by omega),by omega⟩
       have DN:∀ee,ee=zrk ex'->zzd own M.length σ j M w ntmps a.defers ex' E M2 ee { a with defers:=[zkw w.heap.size]++a.defers } (w2.putObj (w.heap.size+1) (.loop { rc with state:=.exhausted,pending:=pd })):=by
        rintro ee rfl;refine⟨rfl,_,σ2,j2,fun k hk=>hk.1,fun d hd=>?_,Da,yS.trans (((yL.trans (CL.le (by
          rcases kA M1.length (M++[some (ghost (zeN E caps).2)]).length with h|h
          ·have:=zC (zaz hlk).1;simp at h;omega
          ·exact h))).vQ (fun k hk=>hk.1)).le (by simp)),?_⟩
        ·rcases jB.1 hd with h|h
         ·exact .inr ⟨_,jt.1 h,hat.own _ (jm _),jm _⟩
         ·exact .inl h
        ·have:=zC (zaz hlk).1;obtain⟨_,_,_,_,rfl⟩:=zg0 A9;simp;omega
       refine⟨pd,_,BI,?_⟩;unfold v9 at Bf;split at Bf
       ·rename_i h0;cases Bf;have:pd=none:=by rw[hpd,h0];rfl
        subst this;exact DN _ rfl
       ·split at Bf
        ·rename_i h0;cases Bf;have:pd=some .ret:=by rw[hpd,h0];rfl
         subst this;exact wpIn_ret (DN _ rfl)
        ·split at Bf
         ·rename_i h0 h2' h3';cases Bf;have:pd=some (.exit (s-3).toNat):=by
           rw[hpd];unfold zqM v9;rw[if_neg h0,if_neg h2',if_pos h3']
          subst this;exact wpIn_exit (DN _ rfl)
         ·cases Bf
     ·
      exfalso;have hfw:VC σ j1 (.fn g0 gi ga) (a.eval g):=hfw;rw[BW]at hfw;cases hfw
    ·cases hx
   ·cases hx
  ·cases hx
 ·cases hx
theorem zdw(hF:zhz F)(hcf:FnS P cf)(vF:P.follows .mixedOrders=true){an:Ann}:∀{c:Code} {cc:CC} {fuel:Nat} {E E':Env} {M M':Mem} {ex:EX} {own:Nat->Prop} {σ:zP} {j:Inj} {a:Act} {w:World},zae zb0.okc P an ntmps c cc->(F.round=none\/noR cc=true) ->
  zaV cf fuel cc E M=some (ex,E',M')->At own σ j E.get M ntmps a w->c.wpIn F n P (zzd own M.length σ j M w ntmps a.defers ex E' M') a w
 |.skip,cc,fuel,E,E',M,M',ex,own,σ,j,a,w,hc,hro,hx,hat=>by
  cases cc<;>simp only[zae]at hc;simp only[zaV,jg,jv]at hx;obtain⟨rfl,rfl,rfl⟩:=hx;exact wpIn_skip ⟨rfl,own,σ,j,fun _ h=>h,fun d h=>.inl h,hat,za2.refl,jm _⟩
 |.region id ops draw,cc,fuel,E,E',M,M',ex,own,σ,j,a,w,hc,hro,hx,hat=>by
  cases cc<;>simp only[zae]at hc;rename_i nA cs prs v8;simp only[zaV]at hx;split at hx
  ·rename_i E1 M1 fs hr;split at hx
   ·rename_i hp;simp only[jg,jv]at hx;obtain⟨rfl,rfl,rfl⟩:=hx;refine ziY hF hcf vF hc hr hp hat fun a' w' σ' j' h1 h2 h3 h4=>⟨rfl,own,σ',j',fun _ h=>h,fun d h=>.inl (h4 ▸ h),h1.sub fun n v hv=>zAg hv,h2,h3⟩
   ·cases hx
  ·cases hx
 |.seq x y,cc,fuel,E,E',M,M',ex,own,σ,j,a,w,hc,hro,hx,hat=>by
  cases cc<;>simp only[zae]at hc;rename_i x' y';simp only[zaV]at hx;refine wpIn_seq ?_;split at hx
  ·rename_i E1 M1 h1;refine wpIn_mono (zdw hF hcf vF hc.1 (hro.imp (fun h=>h) fun h=>(by simp only[noR,jk]at h;exact h.1)) h1 hat) fun e a1 w1 hq=>?_
   obtain⟨rfl,Ck,σ1,j1,ho1,hd1,AW,yS,hk1⟩:=hq;refine wpIn_mono (zdw hF hcf vF hc.2 (hro.imp (fun h=>h) fun h=>(by simp only[noR,jk]at h;exact h.2)) hx AW) fun e a2 w2 hq=>?_
   exact hq.trans ho1 hd1 yS hk1
  ·rename_i hne;refine wpIn_mono (zdw hF hcf vF hc.1 (hro.imp (fun h=>h) fun h=>(by simp only[noR,jk]at h;exact h.1)) hx hat) fun e a1 w1 hq=>?_
   obtain⟨rfl,hq⟩:=hq;cases ex with
   |normal=>exact absurd hx (by intro h;exact hne _ _ h)
   |exit i=>exact⟨rfl,hq⟩
   |ret=>exact⟨rfl,hq⟩
 |.cond c x y,cc,fuel,E,E',M,M',ex,own,σ,j,a,w,hc,hro,hx,hat=>by
  cases cc<;>simp only[zae]at hc;obtain⟨hco,hca,hcb⟩:=hc;simp only[zaV]at hx;split at hx
  ·rename_i t ht;have hv:VC σ j (.bool t) (a.eval c):=zWl hat.yI.qd hat.env hco ht;have he:a.eval c=.bool t:=by
    generalize a.eval c=v at hv;cases hv;rfl
   refine wpIn_cond he ?_;cases t with
   |true=>simp only[if_true]at hx ⊢;exact zdw hF hcf vF hca (hro.imp (fun h=>h) fun h=>(by simp only[noR,jk]at h;exact h.1)) hx hat
   |false=>simp only[jH,if_false]at hx ⊢;exact zdw hF hcf vF hcb (hro.imp (fun h=>h) fun h=>(by simp only[noR,jk]at h;exact h.2)) hx hat
  ·cases hx
 |.block id b,cc,fuel,E,E',M,M',ex,own,σ,j,a,w,hc,hro,hx,hat=>by
  cases cc<;>simp only[zae]at hc;rename_i id' b';obtain⟨rfl,hc⟩:=hc;simp only[zaV]at hx;refine wpIn_block ?_;split at hx
  ·rename_i i1 E1 M1 h1;refine wpIn_mono (zdw hF hcf vF hc (hro.imp (fun h=>h) fun h=>(by simpa only[noR]using h)) h1 hat) fun e a1 w1 hq=>?_
   obtain⟨rfl,hq⟩:=hq;split at hx
   ·rename_i hid;simp only[jg,jv]at hx;obtain⟨rfl,rfl,rfl⟩:=hx;simp only[zrk,Exit.inBlock,hid,if_true];exact⟨rfl,hq⟩
   ·rename_i hid;simp only[jg,jv]at hx;obtain⟨rfl,rfl,rfl⟩:=hx;simp only[zrk,Exit.inBlock,hid,if_false];exact⟨rfl,hq⟩
  ·rename_i hne;refine wpIn_mono (zdw hF hcf vF hc (hro.imp (fun h=>h) fun h=>(by simpa only[noR]using h)) hx hat) fun e a1 w1 hq=>?_
   obtain⟨rfl,hq⟩:=hq;cases ex with
   |exit i=>exact absurd hx (by intro h;exact hne _ _ _ h)
   |normal=>exact⟨rfl,hq⟩
   |ret=>exact⟨rfl,hq⟩
 |.loop b,cc,fuel,E,E',M,M',ex,own,σ,j,a,w,hc,hro,hx,hat=>by
  cases cc<;>simp only[zae]at hc;rename_i live b';simp only[zaV]at hx;obtain⟨j0,hat0,hst0,hk0⟩:=zrx (live:=live) hat (jm _);refine zqk (fun m a1 w1=>∃E1 M1 Ck σ1 j1,(∀b,Ck b->own b)/\(∀d∈a1.defers,d∈a.defers\/∃r,d=zkw r/\own r/\w.heap.size<=r)/\iter (zaV cf fuel b') live M.length m E1 M1=some (ex,E',M')/\At Ck σ1 j1 E1.get M1 ntmps a1 w1/\za2 own M.length σ j M w σ1 j1 M1 w1/\M.length<=M1.length)
   (m:=fuel) ⟨_,_,own,σ,j0,fun _ h=>h,fun d h=>.inl h,hx,hat0,hst0,hk0⟩ ?_
  rintro m a1 w1 ⟨E1,M1,Ck,σ1,j1,ho1,hd1,hit,AW,yS,hk1⟩;cases m with
  |zero=>simp[iter]at hit
  |succ m =>
   refine⟨m,rfl,?_⟩;simp only[iter]at hit;split at hit
   ·rename_i E2 M2 h2;refine wpIn_mono (zdw hF hcf vF hc (hro.imp (fun h=>h) fun h=>(by simpa only[noR]using h)) h2 AW) fun e a2 w2 hq=>?_
    obtain⟨rfl,own2,σ2,j2,ho2,hd2,BJ,yL,hk2⟩:=hq.trans ho1 hd1 yS hk1;obtain⟨j3,B9,CL,hk3⟩:=zrx (live:=live) BJ hk2;exact⟨_,_,own2,σ2,j3,ho2,hd2,hit,B9,yL.trans (CL.vQ ho2),hk3⟩
   ·rename_i hne;refine wpIn_mono (zdw hF hcf vF hc (hro.imp (fun h=>h) fun h=>(by simpa only[noR]using h)) hit AW) fun e a2 w2 hq=>?_
    have hq:=hq.trans ho1 hd1 yS hk1;have he:=hq.1;subst he;cases ex with
    |normal=>exact absurd hit (by intro h;exact hne _ _ h)
    |exit i=>exact hq
    |ret=>exact hq
 |.exit id,cc,fuel,E,E',M,M',ex,own,σ,j,a,w,hc,hro,hx,hat=>by
  cases cc<;>simp only[zae]at hc;subst hc;simp only[zaV,jg,jv]at hx;obtain⟨rfl,rfl,rfl⟩:=hx;exact wpIn_exit ⟨rfl,own,σ,j,fun _ h=>h,fun d h=>.inl h,hat,za2.refl,jm _⟩
 |.ret,cc,fuel,E,E',M,M',ex,own,σ,j,a,w,hc,hro,hx,hat=>by
  cases cc<;>simp only[zae]at hc;simp only[zaV,jg,jv]at hx;obtain⟨rfl,rfl,rfl⟩:=hx;exact wpIn_ret ⟨rfl,own,σ,j,fun _ h=>h,fun d h=>.inl h,hat,za2.refl,jm _⟩
 |.label l,cc,fuel,E,E',M,M',ex,own,σ,j,a,w,hc,hro,hx,hat=>by
  cases cc<;>simp only[zae]at hc;simp only[zaV,jg,jv]at hx;obtain⟨rfl,rfl,rfl⟩:=hx;exact wpIn_label ⟨rfl,own,σ,j,fun _ h=>h,fun d h=>.inl h,hat,za2.refl,jm _⟩
 |.goto l,cc,fuel,E,E',M,M',ex,own,σ,j,a,w,hc,hro,hx,hat=>by cases cc<;>simp only[zae]at hc
 |.scope b,cc,fuel,E,E',M,M',ex,own,σ,j,a,w,hc,hro,hx,hat=>by
  cases cc<;>simp only[zae]at hc;rename_i b' c';obtain⟨rfl,hc⟩:=hc;simp only[zaV]at hx;have hx':zaV cf fuel b' E M=some (ex,E',M'):=by
   split at hx
   ·rename_i E1 M1 h1;rw[h1];exact hx
   ·exact hx
  refine zv5 (wpIn_mono (zdw hF hcf vF hc (hro.imp (fun h=>h) fun h=>(by simp only[noR,jk]at h;exact h.1)) hx' hat) fun e a1 w1 hq=>⟨?_,hq⟩);obtain⟨rfl,_⟩:=hq;intro l;cases ex<;>simp[zrk]
 |.refuse b,cc,fuel,E,E',M,M',ex,own,σ,j,a,w,hc,hro,hx,hat=>by cases cc<;>simp only[zae]at hc
 |.rangeFunc f p x b,cc,fuel,E,E',M,M',ex,own,σ,j,a,w,hc,hro,hx,hat=>by
  cases cc<;>simp only[zae]at hc;rename_i f' v caps;have hro:F.round=none:=hro.resolve_right (by simp[noR]);exact zzE hF hcf hro hc.1 hc.2 (by simpa only[zaV]using hx) hat
end
end Go.Eng
namespace Go.Eng
open Go
variable[zb0]
section
variable{own:Nat->Prop}{P:Program}{cf:za4}{ntmps:Nat}{σ:zP}{j:Inj}{M:Mem}{a:Act}{w:World}
theorem zyB{t:TypeId}{agg:Bool}{size:Nat}{p:Cl}{v:Value}{av:AV}{M':Mem}{fp:FP}(hg:zeU P t=some agg)(hs:zbL P t=some size)
  (h:zdZ M agg (if agg then size else 1) p=some (av,M',fp)) (hv:VC σ j p v) (hag:zM σ w) (hm:MR own σ j M w) :
  ∃ad u,v=.pointer (some ad)/\(loadVar t ad).run P w=.ok u w/\AVR σ j av u:=by
 unfold zdZ at h;split at h
 ·rename_i id g i k;cases hv with
  |ptr _ _ _ _ _ L hL =>
   split at h
   ·rename_i b hb0;obtain⟨hb,BV⟩:=zaz hb0;subst BV;split at h
    ·rename_i row qg;split at h
     ·rename_i cs hcs;obtain⟨hl,hk,kV⟩:=zmL hcs;simp only[ja]at h;obtain⟨x,hx,he⟩:=h;cases he;obtain⟨vs,hvs,Bq⟩:=zh1 (σ:=σ) (j:=j) (cs:=cs) (f:=fun m=>w.cell? ⟨L.blk,L.off+i*L.esz+k+m,none⟩) (fun m c hc=>by
       obtain⟨v,h1,h2,_⟩:=hm.cell hb hL qg (kV m c hc);exact⟨v,by rw[<-h1,kS],h2⟩)
      exact⟨_,_,rfl,ze3 (P:=P) (w:=w) hg hs hl hvs hx Bq,WVR.AO vs hvs hx⟩
     ·cases h
    ·cases h
   ·cases h
 ·rename_i row k;cases hv with
  |uZ _ _ _ b o val h1 h2 =>
   split at h
   ·rename_i cs hcs;obtain⟨hl,hk,kV⟩:=zmL hcs;simp only[ja]at h;obtain⟨x,hx,he⟩:=h;cases he;obtain⟨vs,hvs,Bq⟩:=zh1 (σ:=σ) (j:=j) (cs:=cs) (f:=fun m=>w.cell? ⟨b,o+k+m,none⟩) (fun m c hc=>by
     refine⟨val (k+m),?_,VC.BP (h2 _ _ (kV m c hc))⟩;rw[kS];exact hag.cells _ _ _ (h1 _ _ (kV m c hc)))
    exact⟨_,_,rfl,ze3 (P:=P) (w:=w) hg hs hl hvs hx Bq,WVR.AO vs hvs hx⟩
   ·cases h
 ·cases h
def A3(tmps:Array Value):ResultVar->Sem Value
 |.tmp t=>pure (tmps.getD t undef)
 |.cell a t=>do loadVar t (<-asAddr (tmps.getD a undef))
theorem zuS{E:Env}{r:ResultVar}{rc:RC}{x:WV}(hrc:zBn P r=some rc)(hx:zoD E M rc=some x)(hat:At own σ j E.get M ntmps a w) :
  ∃v,(A3 a.tmps r).run P w=.ok v w/\WVR σ j x v:=by
 have slot:∀{t:Nat} {y:AV},E.get t=some y->∃v,a.tmps.getD t undef=v/\AVR σ j y v:=by
  intro t y hy;obtain⟨v,hv,hr⟩:=hat.env t y hy;exact⟨v,by rw[k8,hv];rfl,hr⟩
 cases r with
 |tmp t =>
  simp only[zBn,jg]at hrc;subst hrc;simp only[zoD]at hx;split at hx
  ·rename_i y hy;cases hx;obtain⟨v,hv,hr⟩:=slot hy;exact⟨v,by simp[A3,hv],hr⟩
  ·cases hx
 |cell p t =>
  simp only[zBn]at hrc;split at hrc
  ·rename_i g sz hg hs;cases hrc;simp only[zoD]at hx;split at hx
   ·rename_i pc hy;split at hx
    ·rename_i y M1 fp hl;cases hx;obtain⟨v,hv,hr⟩:=slot hy;obtain⟨ad,u,rfl,qY,hu⟩:=zyB (P:=P) hg hs hl hr hat.yI hat.mem;exact⟨u,by simp[A3,hv,asAddr,qY],hu⟩
    ·cases hx
   ·cases hx
  ·cases hrc
theorem zpl{E:Env}(hat:At own σ j E.get M ntmps a w):∀{rs:List ResultVar} {rcs:List RC} {xs:List WV},znS P rs=some rcs->zlQ E M rcs=some xs ->
  ∃vs,(rs.mapM (A3 a.tmps):Sem (List Value)).run P w=.ok vs w/\zac σ j xs vs
 |[],rcs,xs,h,hx=>by
  simp only[znS,jg]at h;subst h;simp only[zlQ,jg]at hx;subst hx;exact⟨[],by simp,zac.nil⟩
 |r::rs,rcs,xs,h,hx=>by
  simp only[znS]at h;split at h
  ·rename_i c cs h1 h2;cases h;simp only[zlQ]at hx;split at hx
   ·rename_i y ys q1 q2;cases hx;obtain⟨v,hv,hr⟩:=zuS h1 q1 hat;obtain⟨vs,hvs,hrs⟩:=zpl hat h2 q2;exact⟨v::vs,by simp[Ab,hv,hvs],zac.cons hr hrs⟩
   ·cases hx
  ·cases h
theorem ztE{E:Env}{fn:Func}{rcs:List RC}{r:AV}(hat:At own σ j E.get M ntmps a w)(hrc:znS P fn.results.toList=some rcs)(hr:zpk E M rcs=some r) :
  ∃v,(results fn a.tmps).run P w=.ok v w/\AVR σ j r v:=by
 unfold zpk at hr;have key:∀xs,zlQ E M rcs=some xs->∃vs:List Value,(results fn a.tmps).run P w=.ok (if h:vs.toArray.size=1 then vs.toArray[0] else .tuple vs.toArray) w/\zac σ j xs vs:=by
  intro xs hxs;obtain⟨vs,hvs,hrs⟩:=zpl hat hrc hxs;refine⟨vs,?_,hrs⟩;have hm:(fn.results.mapM (A3 a.tmps):Sem (Array Value)).run P w=.ok vs.toArray w:=by
   rw[Ae];simp[hvs]
  show(do let vs <-fn.results.mapM (A3 a.tmps);pure (if h:vs.size=1 then vs[0] else .tuple vs):Sem Value).run P w=_;simp[hm]
 split at hr
 ·rename_i v hv;cases hr;obtain⟨vs,h1,h2⟩:=key _ hv;obtain⟨u,us,rfl,hu,hus⟩:=h2.kU;have:=hus.yc;subst this;exact⟨u,by simpa using h1,hu⟩
 ·rename_i vs' hne hv;cases hr;obtain⟨vs,h1,h2⟩:=key _ hv;have hn:vs.toArray.size≠1:=by
   intro h;have hl:=h2.1
   match vs',hl with
   |[],hl=>simp at hl h;omega
   |[x],hl=>exact hne x rfl
   |x::y::zs,hl=>simp at hl h;omega
  rw[dif_neg hn]at h1;exact⟨_,h1,vs.toArray,rfl,by simpa using h2⟩
 ·cases hr
theorem zo7:∀{args:List WV} {vs:List Value} {tmps:Array Value} {i:Nat},zac σ j args vs->(∀(k:Nat) (v:Value),vs[k]?=some v->tmps[i+k]?=some v)->zcs σ j (yf i args).get tmps
 |[],vs,tmps,i,h,ht=>fun n x hx=>by simp[yf,Env.get]at hx
 |x::args,vs,tmps,i,h,ht=>by
  obtain⟨v,vs',rfl,hv,hs⟩:=h.kU;intro n y hy;simp only[yf,Env.get]at hy;split at hy
  ·rename_i hin;cases hy;subst hin;exact⟨v,by simpa using ht 0 v rfl,hv⟩
  ·exact zo7 (i:=i+1) hs (fun k u hk=>by
    have:=ht (k+1) u (by simpa using hk)
    rwa [show i+(k+1)=i+1+k from by omega]at this) n y hy
theorem zsQ{F:Fence}{n:Nat}{fn:Func}{tmps:Array Value}{R:Ending->World->Prop}:∀(rs:List Nat) {w:World},rs.Nodup->(∀r∈rs,w.heap[r]?=some (.deferred (some []))/\¬own r)->zM σ w->MR own σ j M w ->
  (∀w',(∀k,k∉rs->w'.heap[k]?=w.heap[k]?)->w'.heap.size=w.heap.size->zd9 w w'->zM σ w'->MR own σ j M w'->LeavesIn F n P fn tmps R [] .returning w')->LeavesInM F n P fn tmps R (rs.map zkw) .returning w
 |[],w,hn,hr,hag,hm,Ct=>Ct w (fun _ _=>rfl) rfl (zd9.refl _) hag hm
 |r::rs,w,hn,hr,hag,hm,Ct=>by
  obtain⟨hnr,hn'⟩:=qQ.1 hn;obtain⟨h1,h2⟩:=hr r (jq ..);have hlt:r<w.heap.size:=(jK.1 h1).1;have yi:∀k,k≠r->(w.putObj r (.deferred none)).heap[k]?=w.heap[k]?:=fun k hk=>World.putObj_heap_other hk
  refine⟨by simp,.inl ⟨r,_,rfl,run_takeDeferred h1,?_⟩⟩;refine zsQ rs hn' (fun r' hr'=>?_) ?_ (hm.CQ fun id b q hb hq=>yi q (fun e=>h2 (e ▸ hm.CZ hb hq))) ?_
  ·have hne:r'≠r:=by rintro rfl;exact hnr hr'
   rw[yi r' hne];exact hr r' (js _ hr')
  ·refine⟨?_,hag.qd⟩;intro k o v hv;have hold:=hag.cells k o v hv;have hk:k≠r:=by
    rintro rfl;simp[World.cell?,h1]at hold
   simpa [World.cell?,yi k hk]using hold
  ·intro w' q1 q2 q3 q4 q5;have hsd:zd9 w (w.putObj r (.deferred none)):=by
    exact⟨rfl,rfl,rfl,jm _⟩
   refine Ct w' (fun k hk=>?_) (by rw[q2];simp) (hsd.trans q3) q4 q5;simp only[jG,not_or]at hk;rw[q1 k hk.2,yi k hk.1]
theorem zuR{F:Fence}{n:Nat}{fn:Func}{own A7:Nat->Prop}{σ σ':zP}{j j':Inj}{M M2 M':Mem}{w w':World}{a':Act}{E:Env}{rcs:List RC}{r res:AV}{frz:Bool}(hm:MR own σ j M w)(vK:Mem.full M)
  (ho:∀b,A7 b->own b) (hd:∀d∈a'.defers,∃r,d=zkw r/\own r/\w.heap.size<=r) (hat:At A7 σ' j' E.get M2 ntmps a' w') (hst:za2 own M.length σ j M w σ' j' M2 w') (hk:M.length<=M2.length)
  (hrc:znS P fn.results.toList=some rcs) (hr:zpk E M2 rcs=some r) (Ct:leave frz M.length r M2=some (res,M')):LeavesInM F n P fn a'.tmps (Ret own σ j M w res M') a'.defers .returning w':=by
 obtain⟨rs,e1,e2,e3⟩:=hat.marks;rw[e1];have hge:∀r∈rs,own r/\w.heap.size<=r:=fun r hr=>by
  obtain⟨r',h1,h2,h3⟩:=hd (zkw r) (by rw[e1];exact jW.2 ⟨r,hr,rfl⟩);cases h1;exact⟨h2,h3⟩
 refine zsQ rs e2 e3 hat.yI hat.mem fun w2 q1 q2 q3 q4 q5=>?_
 have BJ:At A7 σ' j' E.get M2 ntmps { a' with defers:=[] } w2:=⟨hat.env,hat.size,zj3.nil,q4,q5,fun b hb=>hat.own b (by rw[<-q2];exact hb)⟩;obtain⟨v,hv,hvr⟩:=ztE BJ hrc hr;have yL:za2 own M.length σ j M w σ' j' M2 w2:=by
  refine⟨hst.sle,hst.jle,by rw[q2];exact hst.size,fun b hb hob=>?_,hst.Cj,fun id b hid hb=>?_,hst.side.trans q3⟩
  ·rw[q1 b (fun h=>by have:=(hge b h).2;omega)];exact hst.frame b hb hob
  ·obtain⟨b',hb',hv',he⟩:=hst.v8 id b hid hb;refine⟨b',hb',hv',fun h=>⟨(he h).1,fun q hq=>?_⟩⟩;rw[q1 q (fun h'=>by have:=(hge q h').2;have:=hm.uG hb hq;omega)];exact(he h).2 q hq
 obtain⟨σ3,j3,p1,p2,p3,p4⟩:=zu7 hm rfl BJ.yI (BJ.mem.vQ ho) yL vK hk hvr Ct;exact⟨v,hv,v,σ3,j3,rfl,p1,p2,p3,p4⟩
def zC5(P:Program)(f:FuncId)(c:CFn):Prop:=c.rnd=none/\∃fn body an,P.funcs[f]?=some fn/\fn.body=some body/\(fn.name == "runtime.NumGoroutine")=false/\c.nargs<=fn.ntmps/\zae zb0.okc P an fn.ntmps body c.code/\znS P fn.results.toList=some c.res
theorem zuf{an:Ann}{b:Bool}{f:FuncId}{c:CFn}(h:zoZ P an b f=some c)
  (hK:∀fn body i x,P.funcs[f]?=some fn->fn.body=some body->zeV body<=16->(rfs body)[i]?=some x->zb0.okc (P.funcs.size+16*f+i) x.1 x.2.1 x.2.2 fn.ntmps):zC5 P f c:=by
 unfold zoZ at h;split at h
 ·rename_i fn hf;split at h
  ·rename_i body rs hb hrs;split at h
   ·cases h
   ·rename_i Bp;split at h
    ·rename_i cc hcc;split at h
     ·rename_i hle;cases h;have BE:zae zb0.okc P an fn.ntmps body cc:=zdt hcc fun v i x hv hx=>by
       cases hv;exact hK fn body i x hf hb hle.2 hx
      refine⟨rfl,fn,body,an,hf,hb,by simpa using Bp,hle.1,?_,hrs⟩;cases b with
      |true=>exact zfQ BE
      |false=>exact BE
     ·cases h
    ·cases h
  ·cases h
 ·cases h
theorem zro{an:Ann}{f i:Nat}{c:CFn}{fn:Func}{body:Code}{x:Array Tmp×Code×Code}{T:FuncId->Option CFn}(h:zho P an true (P.funcs.size+16*f+i)=some c)(hT:T (P.funcs.size+16*f+i)=some c)(hf:P.funcs[f]?=some fn)(hb:fn.body=some body)(hn:zeV body<=16)(hx:(rfs body)[i]?=some x) :
  zAN P T (P.funcs.size+16*f+i) x.1 x.2.1 x.2.2 fn.ntmps:=by
 have hi:i<16:=by have:=zC hx;rw[zfr]at this;omega
 have e1:(P.funcs.size+16*f+i-P.funcs.size) / 16=f:=by omega
 have e2:(P.funcs.size+16*f+i-P.funcs.size) % 16=i:=by omega
 obtain⟨ps,a,b⟩:=x;simp only[zho,e1,e2,hf,hb,hx]at h;split at h
 ·rename_i a' b' ha hb';split at h
  ·rename_i hc;simp only[jk,jI,decide_eq_true_eq]at hc;simp only[if_true,jg]at h;have hno:∀(vf:Option FuncId) (c:Code) v i x,(none:Option FuncId)=some v->(rfs c)[i]?=some x->noK (v+i) x.1 x.2.1 x.2.2 fn.ntmps:=fun _ _ _ _ _ h _=>by cases h
   refine⟨c,_,an,hT,by rw[<-h],zfQ (zdt ha (hno none a)),by rw[<-h];exact zfQ (zdt hb' (hno none b)),zgy hc.1,hc.2⟩
  ·cases h
 ·cases h
theorem zwr(vF:P.follows .mixedOrders=true)(hcf:FnS P cf){n:Nat}{v:FuncId}{c:CFn}{ps:List Nat}{pre:CC}{args:List WV}{M M':Mem}{res:AV}(h:zoC cf n v ps pre c.code args M=some (res,M'))(vK:Mem.full M)
  (hK:∀r:Loop,zb0.ok v r->∃an,r.params.toList=ps/\zae noK P an r.tmps.size r.assign pre/\zae noK P an r.tmps.size r.body c.code/\ps.Nodup/\∀p∈ps,p<r.tmps.size) :
  ∃id sh as,args=.c (.yld id v sh)::as /\
   ∀F n own σ j w l r (vs:Array Value),zhz F->(∀b,w.heap.size<=b->own b)->zM σ w->MR own σ j M w->j id 0=some (.rnd l r v sh)->zac σ j as vs.toList ->
    vs.size=r.params.size/\(∃s p,w.heap[l]?=some (.loop { r with state:=s,pending:=p })) /\
    RoundIn F n P l r.fn ((r.params.zip vs).foldl (fun tmps (t,a)=>tmps.setIfInBounds t a) r.tmps) r.assign r.body w (Ret own σ j M w res M'):=by
 unfold zoC at h;split at h
 ·rename_i id g sh as;split at h
  ·rename_i hc;obtain⟨rfl,hlen,hst0⟩:=hc;refine⟨id,sh,as,rfl,fun F nn own σ j w l r vs hF kl hag hm hj hvs=>?_⟩;obtain⟨an,hps,hpre,BE,hnd,hlt⟩:=hK r (hm.okP _ _ _ hj);obtain⟨b0,D3,hlk0,hrows0,Al⟩:=zsJ hst0;rw[Al]at h;dsimp only at h;obtain⟨hb0,hg0,hrb0⟩:=zjB hm hj hlk0;obtain⟨s0,cells1,pd0,us,q1,q2,q3,q4,q5⟩:=hrb0.st;rw[hrows0]at q1;cases q1;have hpd0:pd0=none:=q3 (by decide);subst hpd0;have hl0:w.heap[l]?=some (.loop { r with state:=.ready,pending:=none }):=q2;have hvl:vs.size=r.params.size:=by
    have h1:=hvs.1;have h2:=congrArg List.length hps;simp at h1 h2;omega
   refine⟨hvl,⟨_,_,hl0⟩,?_⟩;split at h
   ·rename_i E0 hE0;have henv0:=zvy hE0 q4 q5;have hplt:∀p∈ps,p<r.tmps.size:=hlt;obtain⟨t1,t2,_⟩:=zqN (E0:=E0) (tmps:=r.tmps) (vs:=vs.toList) hnd hplt (by rw[hlen]) hvs henv0;rw[<-hps,<-zxR]at t1 t2;have hat0:At own σ j (zv3 r.params.toList as++E0).get M r.tmps.size { tmps:=(r.params.zip vs).foldl (fun(tmps:Array Value) (x:Nat×Value)=>tmps.setIfInBounds x.1 x.2) r.tmps,defers:=[] } w:=⟨t1,t2,zj3.nil,hag,hm,kl⟩;rw[<-hps]at h;split at h
    ·rename_i E1 M1 hx1;split at h
     ·rename_i M2 DL;split at h
      ·rename_i ex E3 M3 hx2;split at h
       ·rename_i M4 DK;refine roundIn_of_wpIn (hF.fn _) ?_;have hF':zhz (F.inRound l):=⟨hF.fn,hF.depth,hF.alive⟩;refine wpIn_mono (zdw hF' hcf vF (hpre.mono fun _ _ _ _ h=>h.elim) (.inr (zkv hpre)) hx1 hat0) fun e a1 w1 hq=>?_
        obtain⟨rfl,Ck,σ1,j1,ho1,hd1,AW,yS,hk1⟩:=hq;show ∃w2,_;have hj1:j1 id 0=some (.rnd l r g sh):=yS.jle _ _ _ (zC hb0) hj;obtain⟨b1,cells1,hlk1,hrows1,_⟩:=zg0 DL;obtain⟨hb1,_,hrb1⟩:=zjB AW.mem hj1 hlk1;obtain⟨s1,c1,pd1,us1,p1,p2,p3,p4,p5⟩:=hrb1.st;rw[hrows1]at p1;cases p1;have hpd1:pd1=none:=p3 (by decide);subst hpd1;have hl1:w1.heap[l]?=some (.loop { r with state:=.ready,pending:=none }):=p2;obtain⟨Cv,hm2,yL⟩:=znk (pd:=none) AW.yI AW.mem hj1 DL (fun _=>rfl);have e1:zfS 1=.busy:=rfl;rw[e1]at Cv hm2 yL;refine⟨_,run_beginRound hl1 rfl,?_⟩;have BJ:At Ck σ1 j1 E1.get M2 r.tmps.size a1 (w1.putObj l (.loop { r with state:=.busy,pending:=none })):=⟨AW.env,AW.size,AW.marks.frame yL.frame,Cv,hm2,fun b hb=>AW.own b (by simpa using hb)⟩;refine wpIn_mono (zdw hF' hcf vF (BE.mono fun _ _ _ _ h=>h.elim) (.inr (zkv BE)) hx2 BJ) fun e a3 w3 hq=>?_
        obtain⟨rfl,own3,σ3,j3,ho3,hd3,B9,CL,hk3⟩:=hq;have hM2:M2.length=M1.length:=by obtain⟨_,_,_,_,rfl⟩:=zg0 DL;simp
        have hj3:j3 id 0=some (.rnd l r g sh):=CL.jle _ _ _ (by have:=zC hb1;omega) hj1;obtain⟨b3,cells3,hlk3,hrows3,_⟩:=zg0 DK;obtain⟨hb3,_,hrb3⟩:=zjB B9.mem hj3 hlk3;obtain⟨s3,c3,pd3,us3,r1,r2,r3,r4,r5⟩:=hrb3.st;rw[hrows3]at r1;cases r1;have hl3:w3.heap[l]?=some (.loop { r with state:=.busy,pending:=pd3 }):=r2;have hM4:M4.length=M3.length:=by obtain⟨_,_,_,_,rfl⟩:=zg0 DK;simp
        have done:∀(jump:Option Code),(zxZ ex≠-1->jump=zqM (zxZ ex))->zfS (zxZ ex)=(if jump.isNone then .ready else .done)->jump.isNone=(ex==.normal) ->
          ∃v w',(Instr.endRound l jump).run P w3=.ok v w'/\Ret own σ j M w res M' (.returned v) w':=by
         intro jump hj1' hj2' hj3';obtain⟨hag4,hm4,Du⟩:=znk (pd:=jump) B9.yI B9.mem hj3 DK hj1';rw[hj2']at hag4 hm4 Du;refine⟨_,_,run_endRound jump hl3,?_⟩;have hstall:za2 own M.length σ j M w σ3 j3 M4 (w3.putObj l (.loop { r with state:=if jump.isNone then .ready else .done,pending:=jump })) :=
          ((yS.trans ((yL.vQ ho1).le hk1)).trans ((CL.vQ ho1).le (by omega))).trans ((Du.vQ (fun b hb=>ho1 b (ho3 b hb))).le (by omega))
         obtain⟨j5,z1,z2,z3⟩:=zkC (w:=w3.putObj l (.loop { r with state:=if jump.isNone then .ready else .done,pending:=jump })) (r:=.w (.c (.bool (ex==.normal)))) (v:=.bool jump.isNone) hm rfl ((hm4.vQ ho3).vQ ho1) hstall vK (by rw[hj3'];exact VC.bool _ _) h;exact⟨_,σ3,j5,rfl,z1,hag4,z2,z3⟩
        cases ex with
        |normal=>exact done none (fun _=>rfl) rfl rfl
        |ret=>exact done (some .ret) (fun _=>rfl) rfl rfl
        |exit i =>
         refine done (some (.exit i)) (fun _=>?_) ?_ rfl
         ·have h1:¬(3+(i:Int)=0):=by omega
          have h2:¬(3+(i:Int)=2):=by omega
          have h3:(3:Int)<=3+i:=by omega
          have h4:(3+(i:Int)-3).toNat=i:=by omega
          simp[zqM,v9,zxZ,h1,h2,h3,h4]
         ·have h1:¬(3+(i:Int)=0):=by omega
          have h2:¬(3+(i:Int)=1):=by omega
          have h3:¬(3+(i:Int)=-1):=by omega
          simp[zfS,zxZ,h1,h2,h3]
       ·cases h
      ·cases h
     ·cases h
    ·cases h
   ·cases h
  ·cases h
 ·cases h
theorem zrA(vF:P.follows .mixedOrders=true){T:FuncId->Option CFn}{X:za4}(hT:∀f c,T f=some c->(f<zb0.base->zC5 P f c)/\(zb0.base<=f->c.rnd.isSome=true))(hR:∀v ps a b n,zb0.okc v ps a b n->zAN P T v ps a b n)(hX:FnS P X):∀n,FnS P (zfk T X n)
 |0=>fun f args M res M' h=>by simp[zfk]at h
 |n+1=>fun f args M res M' h vK=>by
  have ih:=zrA vF hT hR hX n;simp only[zfk]at h;split at h
  ·exact hX f args M res M' h vK
  ·rename_i c hTf;obtain⟨hT1,hT2⟩:=hT f c hTf;split at h
   ·rename_i ps pre hrnd;refine⟨fun hlt=>?_,fun hge=>?_⟩
    ·rw[(hT1 hlt).1]at hrnd;cases hrnd
    ·refine zwr vF ih h vK fun r hr=>?_
     obtain⟨c',pre',an,h1,h2,h3,h4,h5,h6⟩:=hR _ _ _ _ _ hr;rw[hTf]at h1;cases h1;rw[hrnd]at h2;cases h2;exact⟨an,rfl,h3,h4,h5,h6⟩
   ·rename_i hrnd;refine⟨fun hlt=>?_,fun hge=>by have:=hT2 hge;rw[hrnd]at this;cases this⟩;obtain⟨_,fn,body,an,hf,hb,Bp,hle,BE,Ba⟩:=hT1 hlt;refine⟨fn,hf,by simp[hb],Bp,?_⟩;split at h
    ·rename_i hlen;intro own σ j w vs kl hag hm hvs;have hvl:vs.size=c.nargs:=by have:=hvs.1;simp at this;omega
     have hsz:(vs++Array.replicate (fn.ntmps-vs.size) undef).size=fn.ntmps:=by simp;omega
     have hat:At own σ j (yf 0 args).get M fn.ntmps { tmps:=vs++Array.replicate (fn.ntmps-vs.size) undef,defers:=[] } w :=
      ⟨zo7 hvs (fun k v hk=>by
       have hk':k<vs.size:=by have:=zC hk;simpa using this
       rw[jJ,kD hk'];simpa using hk),hsz,zj3.nil,hag,hm,kl⟩
     have fin:∀{ex:EX} {E:Env} {M2:Mem} {r:AV},(ex=.normal\/ex=.ret)->zaV (zfk T X n) n c.code (yf 0 args) M=some (ex,E,M2)->zpk E M2 c.res=some r->leave c.frz M.length r M2=some (res,M') ->
       Calls P f vs w (Ret own σ j M w res M'):=by
      intro ex E M2 r hexit hx hr Ct;have hF:zhz Fence.wide:=⟨fun _=>trivial,rfl,rfl⟩;refine callsIn_wide (n:=0).1 (callsIn_of_wp_marks hf hb trivial ?_);refine wpIn_mono (zdw hF ih vF BE (.inl rfl) hx hat) fun e a' w' hq=>?_
      obtain⟨rfl,A7,σ',j',ho,hd,Da,hst,hk⟩:=hq;have:=zuR (F:=Fence.wide) (n:=0) hm vK ho (fun d hd'=>(hd d hd').resolve_left (fun h=>by cases h)) Da hst hk Ba hr Ct;rcases hexit with rfl|rfl
      ·exact this
      ·exact this
     split at h
     ·rename_i E M2 hx;split at h
      ·rename_i r hr;exact fin (.inl rfl) hx hr h
      ·cases h
     ·rename_i E M2 hx;split at h
      ·rename_i r hr;exact fin (.inr rfl) hx hr h
      ·cases h
     ·cases h
    ·cases h
def noX:za4:=fun _ _ _=>none
theorem znV:FnS P noX:=fun f args M res M' h=>by cases h
end
end Go.Eng
namespace Go.Eng
open Go
section
variable[GlobP]
def an0:Ann:={ mode:=fun _=>⟨true⟩,frz:=fun _=>true }
def nilCheck(P:Program)(id:Nat)(o:Array Oper)(esz:Nat):Bool:=match zeP P an0 8 id o.toList false with
 |some (1,[⟨_,some 2,none,.kq 0 e⟩],[])=>e==esz
 |_=>false
def zsE(P:Program)(o:Array Oper):Bool:=match zdT P o.toList an0.mode 8 0 with
 |some ⟨_,some 3,none,.mv (.s 0)⟩=>(match o.toList with
  |[_,⟨some 4,.binOp .eql S (.tmp 3) (.const (.slice none 0 0)) _,_,_,_,none⟩]=>(match P.underlying S with |some (.slice _)=>true |_=>false)
  |_=>false)
 |_=>false
def ztd(P:Program)(id:Nat)(o:Array Oper)(esz bytes:Nat):Bool:=match zeP P an0 8 id o.toList false with
 |some (1,[⟨_,some 5,none,.lit 0 e [] []⟩,⟨_,some 6,none,.mv (.s 0)⟩,⟨_,some 7,none,.append e' b (.s 5) (.s 6)⟩,⟨_,some 2,none,.mv (.s 7)⟩],[])=>e==esz&&e'==esz&&b==bytes
 |_=>false
def zf2(P:Program)(f:FuncId)(esz bytes:Nat):Bool:=match P.funcs[f]? with
 |some fn=>match fn.body with
  |some (.seq (.region i0 o0 false) (.seq (.seq (.region _ o1 false) (.cond (.tmp 4) (.seq (.region i2 o2 false) .ret) .skip)) (.seq (.region i3 o3 false) .ret))) =>
   !(fn.name == "runtime.NumGoroutine")&&fn.ntmps==8&&(match fn.results.toList with |[.tmp 2]=>true |_=>false)&&nilCheck P i0 o0 esz&&zsE P o1&&nilCheck P i2 o2 esz&&ztd P i3 o3 esz bytes
  |_=>false
 |none=>false
def zuh(esz bytes:Nat)(frz:Bool)(x:Cl):Mem->Option (AV×Mem)
 |[]=>match x with
  |.jc ys=>if ys.all (fun r=>r.length==esz)&&roomy ys.length bytes&&0<esz then
    some (if frz then(.w (.c (.jc ys)),[]) else
     (.w (.c (.slice 0 ys.length esz 0 ys.length none)),[some { box:=false,esz,rows:=ys,gen:=ys.length,fz:=false,ver:=ys.length }]))
   else none
  |_=>none
 |_=>none
def zwP(x:Int):List Int->List Int
 |[]=>[x]
 |y::l=>if x<=y then x::y::l else y::zwP x l
def zfI:List Int->List Int
 |[]=>[]
 |x::l=>zwP x (zfI l)
def zzg:List (List Cl)->Option (List Int)
 |[]=>some []
 |r::l=>match r with
  |[.int .i64 n]=>(zzg l).map (n :: ·)
  |_=>none
def zgv(l:List Int):List (List Cl):=l.map fun n=>[.int .i64 n]
def zzr(x:Cl)(M:Mem):Option (AV×Mem):=match x with
 |.jb=>some (.t [],M)
 |.slice id g _ off len _ =>
  if len=0 then some (.t [],M) else
  match look M id g with
  |some b =>
   if !b.box && !b.fz&&off+len<=b.rows.length&&b.esz==1&&decide (len<4611686018427387904) then
    match zzg ((b.rows.drop off).take len)with
    |some zs=>some (.t [],M.set id (some { b with rows:=b.rows.take off++zgv (zfI zs)++b.rows.drop (off+len),ver:=b.ver+1 }))
    |none=>none
   else none
  |none=>none
 |_=>none
def zgk(k key i:Nat):Bool:=key==7&&i+1==k
def zjS(b:Bool)(z:Int):Cl:=if b then .bool (z !=0) else .int .i64 z
def zuC(k key:Nat):Nat->List Cl->Option (List Int)
 |_,[]=>some []
 |i,c::l=>match c with
  |.int .i64 n=>if zgk k key i then none else(zuC k key (i+1) l).map (n :: ·)
  |.bool b=>if zgk k key i then(zuC k key (i+1) l).map ((if b then 1 else 0) :: ·) else none
  |_=>none
def zv2(k key:Nat):List (List Cl)->Option (List (List Int))
 |[]=>some []
 |r::l=>match zuC k key 0 r,zv2 k key l with
  |some x,some xs=>some (x::xs)
  |_,_=>none
def zhX:List Int->List Int->Bool
 |[],[]=>false
 |[],_::_=>true
 |_::_,[]=>false
 |x::xs,y::ys=>decide (x<y)||(decide (x=y)&&zhX xs ys)
def zsY(k key:Nat)(x:List Int):List Int:=(List.range k).map fun i=>if zgk k key i then(if x.getD i 0 !=0 then 1 else 0) else x.getD i 0
def ltZ(k key:Nat)(x y:List Int):Bool:=if key=7 then zhX (zsY k key x) (zsY k key y) else decide (x.getD key 0<y.getD key 0)
def zsn(n:Nat):Nat:=if n=0 then 0 else n.log2+1
def ziS(k key:Nat)(l:List (List Int)):List (List Int):=(Go.Sort.pdq (ltZ k key) l.toArray 0 l.length (zsn l.length) true true).toList
theorem zqV:∀x,zhX x x=false
 |[]=>rfl
 |x::xs=>by simp[zhX,zqV xs]
theorem zkz:∀{x y z:List Int},zhX x y=true->zhX y z=true->zhX x z=true
 |[],[],_,h,_=>by simp[zhX]at h
 |[],_::_,[],_,h=>by simp[zhX]at h
 |[],_::_,_::_,_,_=>rfl
 |_::_,[],_,h,_=>by simp[zhX]at h
 |_::_,_::_,[],_,h=>by simp[zhX]at h
 |x::xs,y::ys,z::zs,h1,h2=>by
  simp only[zhX,uk,decide_eq_true_eq,jk]at *;rcases h1 with h1 |⟨rfl,h1⟩
  ·rcases h2 with h2 |⟨rfl,h2⟩
   ·left;omega
   ·left;exact h1
  ·rcases h2 with h2 |⟨rfl,h2⟩
   ·left;exact h2
   ·right;exact⟨rfl,zkz h1 h2⟩
theorem znq:∀{x y:List Int},zhX x y=false->zhX y x=false->x=y
 |[],[],_,_=>rfl
 |[],_::_,h,_=>by simp[zhX]at h
 |_::_,[],_,h=>by simp[zhX]at h
 |x::xs,y::ys,h1,h2=>by
  simp only[zhX,Bool.or_eq_false_iff,decide_eq_false_iff_not,Bool.and_eq_false_iff]at *;have e:x=y:=by omega
  subst e;rcases h1.2 with h|h
  ·exact absurd rfl h
  ·rcases h2.2 with g|g
   ·exact absurd rfl g
   ·rw[znq h g]
theorem zu5{x y z:List Int}(h1:zhX x y=false)(h2:zhX y z=false):zhX x z=false:=by
 cases h:zhX x z with
 |false=>rfl
 |true =>
  cases hyx:zhX y x with
  |true=>rw[zkz hyx h]at h2;cases h2
  |false=>rw[znq h1 hyx,h2]at h;cases h
theorem ztY(k key:Nat):Go.Sort.SWO (ltZ k key) where
 irrefl x:=by
  unfold ltZ;split
  ·exact zqV _
  ·simp
 trans x y z h1 h2:=by
  unfold ltZ at *;split
  ·rename_i h;rw[if_pos h]at h1 h2;exact zkz h1 h2
  ·rename_i h;rw[if_neg h]at h1 h2;simp at *;omega
 ntrans x y z h1 h2:=by
  unfold ltZ at *;split
  ·rename_i h;rw[if_pos h]at h1 h2;exact zu5 h1 h2
  ·rename_i h;rw[if_neg h]at h1 h2;simp at *;omega
theorem znh(k key:Nat)(l:List (List Int)):Go.Sort.PermIn 0 l.length l.toArray (Go.Sort.pdq (ltZ k key) l.toArray 0 l.length (zsn l.length) true true)/\Go.Sort.SortedIn (ltZ k key) 0 l.length (Go.Sort.pdq (ltZ k key) l.toArray 0 l.length (zsn l.length) true true) :=
 Go.Sort.pdq_sorts (ltZ k key) (ztY k key) l.toArray 0 l.length _ true true (ju _) (by simp) (Or.inl rfl)
theorem zx2(k key:Nat)(l:List (List Int)):(ziS k key l).length=l.length:=by
 have:=(znh k key l).1.1;simpa [ziS]using this
def zsl(k key:Nat)(l:List Int):List Cl:=(List.range k).map fun i=>zjS (zgk k key i) (l.getD i 0)
def zqs(k key:Nat)(x:Cl)(M:Mem):Option (AV×Mem):=match x with
 |.jb=>some (.t [],M)
 |.slice id g _ off len _ =>
  if len=0 then some (.t [],M) else
  match look M id g with
  |some b =>
   if !b.box && !b.fz&&off+len<=b.rows.length&&b.esz==k&&decide (len<4611686018427387904) then
    match zv2 k key ((b.rows.drop off).take len)with
    |some zs=>some (.t [],M.set id (some { b with rows:=b.rows.take off++(ziS k key zs).map (zsl k key)++b.rows.drop (off+len),ver:=b.ver+1 }))
    |none=>none
   else none
  |none=>none
 |_=>none
def uN(Cs:List (Nat×Nat×Nat×Bool)):za4:=fun f args M=>match Cs.lookup f with
 |some (esz,bytes,frz)=>match args with
  |[.c x]=>if esz=0 then(if bytes=0 then zzr x M else none) else zuh esz bytes frz x M
  |[.c x,.c (.fn g [] [])]=>if esz=0/\bytes≠0/\bytes / 64=g then zqs (bytes / 8 % 8) (bytes % 8) x M else none
  |_=>none
 |none=>none
end
section
variable[zb0]{own:Nat->Prop}{P:Program}{σ:zP}{j:Inj}{M:Mem}{w:World}
theorem zuP{ys:List (List Cl)}{v:Value}(hv:VC σ j (.jc ys) v):∃b l c,v=.slice b l c/\(b=none->ys=[]):=by
 cases hv with
 |jc _ es rows a c b o val hl ha hr h1 h2 =>
  refine⟨a,ys.length,c,rfl,fun hb=>?_⟩;rcases ha with ha|ha
  ·exact ha
  ·rw[hb]at ha;cases ha
theorem zTn(d:Nat)(t e:TypeId)(b:Option Addr)(l c:Nat)(w:World)(h:P.underlying t=some (.slice e)):(Op.equalIn (d+1) t (.slice b l c) (.slice none 0 0)).run P w=.ok b.isNone w:=by
 cases b<;>simp[Op.equalIn,run_underlying h]
theorem zpK(t e:TypeId)(b:Option Addr)(l c:Nat)(w:World)(h:P.underlying t=some (.slice e)):(Op.equal t (.slice b l c) (.slice none 0 0)).run P w=.ok b.isNone w :=
 zTn 9999 t e b l c w h
abbrev gh(esz:Nat):Blk:={ box:=false,esz,rows:=[],gen:=0,fz:=false,ver:=0 }
abbrev cl1(esz:Nat)(ys:List (List Cl)):Blk:={ box:=false,esz,rows:=ys,gen:=ys.length,fz:=false,ver:=ys.length }
theorem zAv{esz bytes:Nat}{ys:List (List Cl)}{E:Env}{i0 i1 i2 i3:Nat}(hE:E.get 0=some (.w (.c (.jc ys))))(hys:ys.all (fun r=>r.length==esz)=true)(uy:0<esz)(ki:roomy ys.length bytes=true) :
  ∃E' fs,zks noX 1 [⟨i0,some 5,none,.lit 0 esz [] []⟩,⟨i1,some 6,none,.mv (.s 0)⟩,⟨i2,some 7,none,.append esz bytes (.s 5) (.s 6)⟩,⟨i3,some 2,none,.mv (.s 7)⟩] E ([some (gh esz)]++qN 1) =
   some (E',[some (gh esz),some (cl1 esz ys)],fs)/\E'.get 2=some (.w (.c (.slice 1 ys.length esz 0 ys.length none))):=by
 have s1:zbm noX 1 ⟨i0,some 5,none,.lit 0 esz [] []⟩ E.get ([some (gh esz)]++qN 1)=some (.w (.c (.slice 1 0 esz 0 0 none)),[some (gh esz),some (gh esz)],.no):=by
  simp[zbm,opF,zdS,uy,zcf,zbg,zg,qN,gh]
 have h4:zcB [some (gh esz),some (gh esz)] esz bytes (.slice 1 0 esz 0 0 none) (.jc ys)=some (.w (.c (.slice 1 ys.length esz 0 ys.length none)),[some (gh esz),some (cl1 esz ys)],.wr [(1,0,whole)]):=by
  simp only[zcB,zeF];rw[if_pos hys];cases ys with
  |nil=>simp only[jp]at ki;simp[look,gh,cl1,uy];exact ki
  |cons y ys=>simp[look,gh,cl1,uy]at ki ⊢;exact ki
 have s2:∀(v:AV) (M1:Mem),zbm noX 1 ⟨i1,some 6,none,.mv (.s 0)⟩ (Env.put E (some 5) v).get M1=some (.w (.c (.jc ys)),M1,.no):=fun v M1=>by
  simp[zbm,opF,Opd.av,Opd.ev,Env.put,Env.get,hE]
 have s3:∀(v:AV),zbm noX 1 ⟨i2,some 7,none,.append esz bytes (.s 5) (.s 6)⟩ (Env.put (Env.put E (some 5) (.w (.c (.slice 1 0 esz 0 0 none)))) (some 6) (.w (.c (.jc ys)))).get [some (gh esz),some (gh esz)]=some (.w (.c (.slice 1 ys.length esz 0 ys.length none)),[some (gh esz),some (cl1 esz ys)],.wr [(1,0,whole)]):=fun v=>by
  simp[zbm,opF,Opd.av,Opd.ev,Env.put,Env.get,h4]
 have s4:∀(y:AV) (E:Env) (x:WV) (M1:Mem),zbm noX 1 ⟨i3,some 2,none,.mv (.s 7)⟩ (Env.put E (some 7) (.w x)).get M1=some (.w x,M1,.no):=fun y E x M1=>by
  simp[zbm,opF,Opd.av,Opd.ev,Env.put,Env.get]
 refine⟨Env.put (Env.put (Env.put (Env.put E (some 5) (.w (.c (.slice 1 0 esz 0 0 none)))) (some 6) (.w (.c (.jc ys)))) (some 7) (.w (.c (.slice 1 ys.length esz 0 ys.length none)))) (some 2) (.w (.c (.slice 1 ys.length esz 0 ys.length none))),[.no,.no,.wr [(1,0,whole)],.no],?_,?_⟩
 ·simp only[zks,s1,s2,s3 .u,s4 .u]
 ·simp[Env.put,Env.get]
theorem zvu{esz:Nat}{ys:List (List Cl)}(frz:Bool):leave frz 0 (.w (.c (.slice 1 ys.length esz 0 ys.length none))) [some (gh esz),some (cl1 esz ys)] =
  some (if frz then(.w (.c (.jc ys)),[]) else(.w (.c (.slice 0 ys.length esz 0 ys.length none)),[some (cl1 esz ys)])):=by
 cases frz with
 |true=>simp[leave,zoS,zn7,zdR,look,gh,cl1,finish,AV.below,WV.below,WV.cells,below,AJ,zH]
 |false=>simp[leave,finish,AV.below,WV.below,WV.cells,below,AJ,zH,AV.ids,WV.ids,zBH,Ds,collect,zfj,zpw,Blk.ids,zku,znn,zpM,zeS,qL,zd3,zck,zhj,cl1]
theorem zrt(vF:P.follows .mixedOrders=true){f:FuncId}{esz bytes:Nat}{frz:Bool}{x:Cl}{v:Value}{res:AV}{M':Mem}(hck:zf2 P f esz bytes=true)(h:zuh esz bytes frz x M=some (res,M')) :
  ∃fn,P.funcs[f]?=some fn/\fn.body.isNone=false/\(fn.name == "runtime.NumGoroutine")=false /\
   ((∀b,w.heap.size<=b->own b)->zM σ w->MR own σ j M w->VC σ j x v->Calls P f #[v] w (Ret own σ j M w res M')):=by
 unfold zf2 at hck;split at hck
 ·rename_i fn hfn;split at hck
  ·rename_i i0 o0 i1 o1 i2 o2 i3 o3 Dl;simp only[jk,kK,beq_iff_eq]at hck;obtain⟨⟨⟨⟨⟨⟨Bp,hnt⟩,Ba⟩,hk0⟩,hk1⟩,hk2⟩,hk3⟩:=hck;refine⟨fn,hfn,by simp[Dl],by simpa using Bp,fun kl hag hm hv=>?_⟩;obtain⟨ys,rfl,rfl,yh,ki,uy,Ct⟩:∃ys,x=.jc ys/\M=[]/\ys.all (fun r=>r.length==esz)=true/\roomy ys.length bytes=true/\0<esz /\
     leave frz 0 (.w (.c (.slice 1 ys.length esz 0 ys.length none))) [some (gh esz),some (cl1 esz ys)]=some (res,M'):=by
    unfold zuh at h;split at h
    ·split at h
     ·rename_i ys;split at h
      ·rename_i hc;simp only[jk,decide_eq_true_eq]at hc;exact⟨ys,rfl,rfl,hc.1.1,hc.1.2,hc.2,by rw[zvu];exact h⟩
      ·cases h
     ·cases h
    ·cases h
   obtain⟨b,l,c,rfl,hbn⟩:=zuP hv;have hresl:fn.results.toList=[.tmp 2]:=by
    split at Ba
    ·rename_i hr;exact hr
    ·cases Ba
   have hF:zhz Fence.wide:=⟨fun _=>trivial,rfl,rfl⟩;have hat0:At own σ j (yf 0 [.c (.jc ys)]).get [] 8 { tmps:=#[.slice b l c]++Array.replicate (fn.ntmps-(#[Value.slice b l c]:Array Value).size) undef,defers:=[] } w:=by
    refine⟨zo7 (vs:=[.slice b l c]) (zac.cons hv zac.nil) (fun k u hk=>?_),by simp[hnt],zj3.nil,hag,hm,kl⟩;have hk0:k=0:=by have:=zC hk;simpa using this
    subst hk0;simp at hk;subst hk;rw[kD (by simp)];rfl
   refine(callsIn_wide (n:=0)).1 (callsIn_of_wp_marks hfn Dl trivial (wpIn_seq ?_));unfold nilCheck at hk0;split at hk0
   ·rename_i ix0 e0 hc0;obtain rfl:e0=esz:=by simpa using hk0
    refine ziY (n:=0) hF znV vF hc0 (E:=yf 0 [.c (.jc ys)]) (E':=(2,.w (.c (.slice 0 0 e0 0 0 none)))::yf 0 [.c (.jc ys)]) (M':=[some (gh e0)]) (fs:=[.no]) (by simp[zks,zbm,opF,Env.put,qN,zg,gh]) (by simp) hat0 fun a1 w1 σ1 j1 AW yS _ hd1=>?_
    refine wpIn_seq (wpIn_seq ?_);unfold zsE at hk1;split at hk1
    ·rename_i ix1 hca;split at hk1
     ·rename_i oa S yt ty pos aft hol;obtain⟨eT,hS⟩:∃e,P.underlying S=some (.slice e):=by
       split at hk1
       ·rename_i e he;exact⟨e,he⟩
       ·cases hk1
      have ho1:o1 = #[oa,⟨some 4,.binOp .eql S (.tmp 3) (.const (.slice none 0 0)) yt,ty,pos,aft,none⟩]:=qj (by simpa using hol);refine wpIn_region ?_;have hsz:o1.size=2:=by rw[ho1];rfl
      rw[hsz];show wpOpsIn _ _ _ _ _ [0,1] _ _;rw[wpOpsIn_cons];refine zoz hF znV hca (av:=.w (.c (.jc ys))) (M':=[some (gh e0)]) (fp:=.no) (n0:=0) (by simp[zbm,opF,Opd.av,Opd.ev,Env.get,yf]) AW fun a2 w2 σ2 j2 BJ yL hd2=>?_
      rw[wpOpsIn_cons];obtain⟨v3,hv3,hr3⟩:=BJ.env 3 (.w (.c (.jc ys))) (by simp[zjC]);obtain⟨b3,l3,c3,rfl,hb3⟩:=zuP hr3;have he3:a2.eval (.tmp 3)=.slice b3 l3 c3:=by simp[Act.eval,k8,hv3]
      have CN:(execOp a2.eval ⟨some 4,.binOp .eql S (.tmp 3) (.const (.slice none 0 0)) yt,ty,pos,aft,none⟩).run P w2=.ok (.value (.bool b3.isNone)) w2:=by
       simp[execOp,hv3,Act.eval,eqGuard,binOp,zpK _ _ _ _ _ _ hS]
      have B9:=BJ.put (d:=some 4) (av:=.w (.c (.bool b3.isNone))) (v:=.bool b3.isNone) (fun x hx=>by cases hx;omega) (VC.bool _ _) BJ.yI BJ.mem za2.refl;rw[<-ztG,<-ztG]at B9;unfold wpOpIn;have ho11:o1[1]?=some ⟨some 4,.binOp .eql S (.tmp 3) (.const (.slice none 0 0)) yt,ty,pos,aft,none⟩:=by rw[ho1];rfl
      simp only[ho11,Region.wanted,if_true];refine⟨fun _ _=>trivial,?_⟩;rw[Oper.semAt_eq _ _ _ (by intro c;simp),CN];show Code.wpIn _ _ _ _ _ _ _;have he4:(a2.put (some 4) (.bool b3.isNone)).eval (.tmp 4)=.bool b3.isNone:=by
       obtain⟨v4,hv4,hr4⟩:=B9.env 4 (.w (.c (.bool b3.isNone))) (by simp[Env.put,Env.get]);have hr4:VC _ _ (.bool b3.isNone) v4:=hr4;have:v4=.bool b3.isNone:=by generalize b3.isNone=t at hr4;cases hr4;rfl
       subst this;simp[Act.eval,k8,hv4]
      have hrc:znS P fn.results.toList=some [.slot 2]:=by rw[hresl];rfl
      have fin:∀{E4:Env} {a4:Act} {w4:World} {σ4:zP} {j4:Inj},At own σ4 j4 E4.get [some (gh e0),some (cl1 e0 ys)] 8 a4 w4->E4.get 2=some (.w (.c (.slice 1 ys.length e0 0 ys.length none)))->za2 own 0 σ j [] w σ4 j4 [some (gh e0),some (cl1 e0 ys)] w4->a4.defers=[] ->
        bodyPostM Fence.wide 0 P fn (Ret own σ j [] w res M') .ret a4 w4:=by
       intro E4 a4 w4 σ4 j4 hat4 kV hst hds;exact zuR (F:=Fence.wide) (n:=0) hm (fun id hid=>by simp at hid) (fun _ h=>h) (fun d hd=>by rw[hds]at hd;cases hd) hat4 hst (by simp) hrc (by simp[zpk,zlQ,zoD,kV]) Ct
      refine wpIn_cond_split he4 (fun ht=>?_) (fun ht=>?_)
      ·
       have hys0:ys=[]:=hb3 (by simpa using ht);subst hys0;refine wpIn_seq ?_;unfold nilCheck at hk2;split at hk2
       ·rename_i ix2 e2 hc2;obtain rfl:e2=e0:=by simpa using hk2
        refine ziY (n:=0) hF znV vF hc2 (E':=Env.put (Env.put (Env.put ((2,.w (.c (.slice 0 0 e2 0 0 none)))::yf 0 [.c (.jc [])]) (some 3) (.w (.c (.jc [])))) (some 4) (.w (.c (.bool b3.isNone)))) (some 2) (.w (.c (.slice 1 0 e2 0 0 none)))) (M':=[some (gh e2),some (cl1 e2 [])]) (fs:=[.no]) (by simp[zks,zbm,opF,Opd.av,Opd.ev,Env.put,qN,zg,gh]) (by simp) B9 fun a4 w4 σ4 j4 hat4 Du _ hd4=>?_
        exact wpIn_ret (fin hat4 (by simp[Env.put,Env.get]) (((yS.trans (yL.le (by simp))).trans (Du.le (by simp)))) (hd4.trans (zfX.trans (hd2.trans hd1))))
       ·cases hk2
      ·
       refine wpIn_skip ?_;show Code.wpIn _ _ _ _ _ _ _;refine wpIn_seq ?_;unfold ztd at hk3;split at hk3
       ·rename_i p0 e p1 p2 e' by' p3 hc3;simp only[jk,beq_iff_eq]at hk3;obtain⟨⟨rfl,rfl⟩,rfl⟩:=hk3;obtain⟨E5,fs5,qY,kV⟩:=zAv (i0:=p0) (i1:=p1) (i2:=p2) (i3:=p3) (E:=Env.put (Env.put ((2,.w (.c (.slice 0 0 e' 0 0 none)))::yf 0 [.c (.jc ys)]) (some 3) (.w (.c (.jc ys)))) (some 4) (.w (.c (.bool b3.isNone)))) (by simp[Env.put,Env.get,yf]) yh uy ki;refine ziY (n:=0) (M:=[some (gh e')]) hF znV vF hc3 qY (by simp) B9 fun a4 w4 σ4 j4 hat4 Du _ hd4=>?_
        exact wpIn_ret (fin hat4 kV (((yS.trans (yL.le (by simp))).trans (Du.le (by simp)))) (hd4.trans (zfX.trans (hd2.trans hd1))))
       ·cases hk3
     ·cases hk1
    ·cases hk1
   ·cases hk0
  ·cases hck
 ·cases hck
theorem zoQ(x:Int):∀l,(zwP x l).Perm (x::l)
 |[]=>uz _
 |y::l=>by
  unfold zwP;split
  ·exact uz _
  ·exact((zoQ x l).cons y).trans (List.Perm.swap x y l)
theorem zni:∀l,(zfI l).Perm l
 |[]=>uz _
 |x::l=>(zoQ x _).trans ((zni l).cons x)
theorem zps{x:Int}:∀{l:List Int},l.Pairwise (·<=·)->(zwP x l).Pairwise (·<=·)
 |[],_=>by simp[zwP]
 |y::l,h=>by
  unfold zwP;obtain⟨h1,h2⟩:=jR.1 h;split
  ·rename_i hxy;refine jR.2 ⟨fun z hz=>?_,h⟩;rcases jG.1 hz with rfl|hz
   ·exact hxy
   ·exact AC hxy (h1 z hz)
  ·rename_i hxy;refine jR.2 ⟨fun z hz=>?_,zps h2⟩;rcases jG.1 ((zoQ x l).mem_iff.1 hz)with rfl|hz
   ·omega
   ·exact h1 z hz
theorem znO:∀l,(zfI l).Pairwise (·<=·)
 |[]=>List.Pairwise.nil
 |x::l=>zps (znO l)
theorem zsM(l:List Int):(zfI l).length=l.length:=(zni l).length_eq
theorem zuM(l:List Int):l.mergeSort (fun x y=>decide (x<=y))=zfI l:=by
 refine List.Perm.eq_of_pairwise (le:=fun a b=>a<=b) (fun a b _ _ h1 h2=>Int.le_antisymm h1 h2) ?_ (znO l) ((List.mergeSort_perm l _).trans (zni l).symm);have:=List.pairwise_mergeSort (le:=fun x y:Int=>decide (x<=y)) (fun a b c h1 h2=>by simp at *;omega) (fun a b=>by simp;omega) l;simpa using this
theorem zsz:∀{r:List (List Cl)} {zs:List Int},zzg r=some zs->r=zgv zs
 |[],zs,h=>by cases h;rfl
 |x::r,zs,h=>by
  unfold zzg at h;split at h
  ·rename_i n;cases hr:zzg r with
   |none=>rw[hr]at h;cases h
   |some l =>
    rw[hr]at h;cases h;rw[zsz hr];rfl
  ·cases h
structure zCh(P:Program)(f:FuncId):Prop where
 fn:∃fn,P.funcs[f]?=some fn/\fn.body.isNone=false/\(fn.name == "runtime.NumGoroutine")=false
 none:∀(p:Option Addr) (cap:Nat) (w:World),Calls P f #[.slice p 0 cap] w fun e w'=>e=.returned (.tuple #[])/\w'=w
 some:∀(blk off cap:Nat) (zs:List Int) (w:World),Go.Sort.Holds (Value.int .i64) w blk off zs.toArray->blk<w.heap.size->zs.length<4611686018427387904 ->
  Calls P f #[.slice (.some ⟨blk,off,.none⟩) zs.length cap] w fun e w'=>e=.returned (.tuple #[])/\∃n os,w'=Go.Sort.grow (Go.Sort.putRow (Value.int .i64) (Go.Sort.ahead w n) blk off (zs.mergeSort fun x y=>decide (x<=y)).toArray) os
theorem MR.more(hm:MR own σ j M w){w':World}(h:∀k,k<w.heap.size->w'.heap[k]?=w.heap[k]?):MR own σ j M w':=by
 refine⟨fun id b hb=>?_,hm.vO,hm.dom,hm.okP⟩;obtain⟨pl,h1,h2,h3⟩:=hm.ym id b hb;exact⟨pl,h1,h2.mono (zP.le_refl _) (Inj.le_refl _) (fun k hk=>h k (hm.uG hb (Inj.yD h1 hk))) (fun _ _ _ h _ _=>h),h3⟩
theorem zx1{f:FuncId}(hS:zCh P f){x:Cl}{res:AV}{M':Mem}(h:zzr x M=some (res,M'))(hag:zM σ w)(hm:MR own σ j M w){v:Value}(hx:VC σ j x v):Calls P f #[v] w (Ret own σ j M w res M'):=by
 unfold zzr at h;split at h
 ·cases h;cases hx;refine Calls.yO (hS.none none 0 w) ?_;rintro e w' ⟨rfl,rfl⟩;exact⟨.tuple #[],σ,j,rfl,⟨#[],rfl,zac.nil⟩,hag,hm,za2.refl⟩
 ·rename_i id g es off len cap;split at h
  ·rename_i h0;subst h0;cases h;cases hx with
   |slice _ _ _ _ _ _ _ pl ad c hj hl Al ha =>
    refine Calls.yO (hS.none ad c w) ?_;rintro e w' ⟨rfl,rfl⟩;exact⟨.tuple #[],σ,j,rfl,⟨#[],rfl,zac.nil⟩,hag,hm,za2.refl⟩
  ·rename_i h0;split at h
   ·rename_i b hb0;obtain⟨hbk,BV⟩:=zaz hb0;subst BV;split at h
    ·rename_i hc;simp only[jk,kK,decide_eq_true_eq,beq_iff_eq]at hc;obtain⟨⟨⟨⟨uC,hfz⟩,As⟩,Ap⟩,CR⟩:=hc;split at h
     ·rename_i zs hzs;cases h;have hz:=zsz hzs;have hzl:zs.length=len:=by
       have:=congrArg List.length hz;simp[zgv]at this;omega
      cases hx with
      |slice _ _ _ _ _ _ _ pl ad c hj hl Al ha =>
       obtain⟨L,rfl,_,rfl,hf2⟩:=ha (by omega);obtain⟨pl',Ak,hbr,kl⟩:=hm.blk id b hbk;rw[hj]at Ak;cases Ak;have hbr:BL σ j b L w:=hbr;obtain⟨C,T,hC,hsz,qg⟩:=hbr.heap;have hes:=hbr.esz;have hLe:L.esz=1:=by rw[hes,Ap]
       have BX:=hbr.fit;have hlt:L.blk<w.heap.size:=(jK.1 hC).1;rw[Ap]at BX;rw[hLe,AY]at hf2 ⊢;have hold:Go.Sort.Holds (Value.int .i64) w L.blk (L.off+off) zs.toArray:=by
        intro i hi;have hi':i<zs.length:=by simpa using hi
        have hri:b.rows[off+i]?=some [.int .i64 zs[i]]:=by
         have h1:((b.rows.drop off).take len)[i]?=(zgv zs)[i]?:=by rw[hz]
         rw[qF (by omega),qi]at h1;rw[h1];simp[zgv,hi']
        obtain⟨v,hv1,hv2⟩:=qg (off+i) _ 0 (.int .i64 zs[i]) hri rfl;rw[if_neg (by simp[uC])]at hv2;cases hv2;refine⟨?_,by simp[World.frozen?,hC]⟩;simp only[World.cell?,hC,kT,jH,if_false];rw[Ap]at hv1;rw[show L.off+off+i=L.off+(off+i)*1+0 by omega,hv1];simp[hi']
       subst hzl;refine Calls.yO (hS.some L.blk (L.off+off) c zs w hold hlt CR) ?_;rintro e w' ⟨rfl,n,os,rfl⟩;rw[zuM];generalize hC':Go.Sort.putCells (Value.int .i64) (L.off+off) (zfI zs).toArray C=C';have Br:C'.size=C.size:=by rw[<-hC'];simp[Go.Sort.putCells]
       have vt:∀p,C'[p]?=if L.off+off<=p/\p<L.off+off+zs.length then(if p<C.size then some (Value.int .i64 ((zfI zs).toArray[p-(L.off+off)]!)) else none) else C[p]?:=by
        intro p;rw[<-hC'];simp only[Go.Sort.putCells,Array.getElem?_mapIdx,vn,zsM];by_cases hp:p<C.size
        ·rw[qU hp];simp only[ui,hp,if_true];split<;>rfl
        ·rw[kZ (by omega)];simp[hp]
       have hb1:(Go.Sort.grow (Go.Sort.putRow (Value.int .i64) (Go.Sort.ahead w n) L.blk (L.off+off) (zfI zs).toArray) os).heap[L.blk]?=some (.cells C' T (0,0)):=by
        rw[Go.Sort.grow];simp only;rw[kD (by simpa using hlt)];simp[Go.Sort.putRow,Go.Sort.mapBlock,Go.Sort.ahead,vh,hC,Go.Sort.onCells,hC']
       have hb2:∀k,k<w.heap.size->k≠L.blk->(Go.Sort.grow (Go.Sort.putRow (Value.int .i64) (Go.Sort.ahead w n) L.blk (L.off+off) (zfI zs).toArray) os).heap[k]?=w.heap[k]?:=by
        intro k hk hne;rw[Go.Sort.grow];simp only;rw[kD (by simpa using hk)];simp[Go.Sort.putRow,Go.Sort.mapBlock,Go.Sort.ahead,vh,fun e=>hne (Eq.symm e),qT hne]
       have Cb:w.heap.size<=(Go.Sort.grow (Go.Sort.putRow (Value.int .i64) (Go.Sort.ahead w n) L.blk (L.off+off) (zfI zs).toArray) os).heap.size:=by simp[Go.Sort.grow]
       have hos:(Go.Sort.grow (Go.Sort.putRow (Value.int .i64) (Go.Sort.ahead w n) L.blk (L.off+off) (zfI zs).toArray) os).os=w.os:=rfl;have BG:(Go.Sort.grow (Go.Sort.putRow (Value.int .i64) (Go.Sort.ahead w n) L.blk (L.off+off) (zfI zs).toArray) os).output=w.output:=rfl;have CK:(Go.Sort.grow (Go.Sort.putRow (Value.int .i64) (Go.Sort.ahead w n) L.blk (L.off+off) (zfI zs).toArray) os).tape=w.tape:=rfl;have hdrn:w.drawn<=(Go.Sort.grow (Go.Sort.putRow (Value.int .i64) (Go.Sort.ahead w n) L.blk (L.off+off) (zfI zs).toArray) os).drawn:=uP _ _;generalize Go.Sort.grow (Go.Sort.putRow (Value.int .i64) (Go.Sort.ahead w n) L.blk (L.off+off) (zfI zs).toArray) os=w' at hb1 hb2 Cb hos BG CK hdrn;generalize AR:b.rows.take off++zgv (zfI zs)++b.rows.drop (off+zs.length)=yd;have hsl:=zsM zs;have hrl:yd.length=b.rows.length:=by rw[<-AR];simp[zgv];omega
       have AS:∀i,yd[i]?=if i<off then b.rows[i]? else if i<off+zs.length then(zgv (zfI zs))[i-off]? else b.rows[i]?:=by
        intro i;have:=zdb b.rows (zgv (zfI zs)) off (by simp[zgv];omega) i;simp only[zgv,kG,hsl]at this;rw[<-AR,zgv,this]
       have hagc:∀b' o v,σ b' o=some v->w'.cell? ⟨b',o,none⟩=some v:=by
        intro b' o v hv';have hold:=hag.cells b' o v hv';by_cases hbb:b'=L.blk
        ·subst hbb;have hlo:o<L.off:=by
          rcases kA o L.off with h|h
          ·exact h
          ·have:=hbr.Bn o h (fun hh=>by rw[hfz]at hh;cases hh);rw[this]at hv';cases hv'
         simp only[World.cell?,hC,kT,jH,if_false]at hold;simp only[World.cell?,hb1,kT,jH,if_false];rw[vt,if_neg (by omega)];exact hold
        ·have:=hb2 b' (hag.lt hv') hbb;simpa [World.cell?,this]using hold
       have hbl:BL σ j { b with rows:=yd,ver:=b.ver+1 } L w':=by
        refine⟨hes,hbr.pos,fun r hr'=>?_,by simpa [hrl,Ap]using BX,⟨C',T,hb1,by rw[Br,hsz],fun i' r n cl hi' hn=>?_⟩,fun o h1 h2=>hbr.Bn o h1 (fun h=>by rw[hfz]at h;cases h)⟩
        ·obtain⟨q,hq⟩:=jX hr';rw[AS]at hq;split at hq
         ·exact hbr.len r (zat hq)
         ·split at hq
          ·have:=zat hq;simp only[zgv,jW]at this;obtain⟨_,_,rfl⟩:=this;exact Ap.symm
          ·exact hbr.len r (zat hq)
        ·simp only at hi' ⊢;simp only[uC,jH,if_false];have hnl:=zC hn;rw[AS]at hi';rw[vt,Ap,AY];by_cases h1:i'<off
         ·rw[if_pos h1]at hi';obtain⟨v,hv1,hv2⟩:=qg i' r n cl hi' hn;rw[if_neg (by simp[uC])]at hv2;have C6:=hbr.len r (zat hi');rw[Ap]at C6 hv1;rw[AY]at hv1;exact⟨v,by rw[if_neg (by omega)];exact hv1,hv2⟩
         ·rw[if_neg h1]at hi';by_cases h2:i'<off+zs.length
          ·rw[if_pos h2]at hi';have hk:i'-off<(zfI zs).length:=by omega
           simp only[zgv,kY,jr hk,ui,jg]at hi';subst hi';obtain rfl:n=0:=by simp at hnl;omega
           cases hn;refine⟨.int .i64 (zfI zs)[i'-off],?_,.int _ _ _⟩;rw[if_pos (by omega),if_pos (by omega)];have e1:L.off+i'+0-(L.off+off)=i'-off:=by omega
           rw[e1];simp[hk]
          ·rw[if_neg h2]at hi';obtain⟨v,hv1,hv2⟩:=qg i' r n cl hi' hn;rw[if_neg (by simp[uC])]at hv2;have C6:=hbr.len r (zat hi');rw[Ap]at C6 hv1;rw[AY]at hv1;exact⟨v,by rw[if_neg (by omega)];exact hv1,hv2⟩
       refine⟨.tuple #[],σ,j,rfl,⟨#[],rfl,zac.nil⟩,⟨hagc,hag.qd⟩,?_,?_⟩
       ·
        have hw1:∀k,k≠L.blk->({ w' with heap:=(w'.heap.extract 0 w.heap.size) }:World).heap[k]?=w.heap[k]?:=by
         intro k hne;rcases kA k w.heap.size with hk|hk
         ·simp only[qx];rw[if_pos (by omega),jJ];exact hb2 k hk hne
         ·rw[kZ (by simp;omega),kZ hk]
        have hbl1:BL σ j { b with rows:=yd,ver:=b.ver+1 } L ({ w' with heap:=(w'.heap.extract 0 w.heap.size) }:World):=by
         obtain⟨a1,a2,a3,a4,⟨C2,T2,q1,q2,q3⟩,a6⟩:=hbl;refine⟨a1,a2,a3,a4,⟨C2,T2,?_,q2,q3⟩,a6⟩;simp only[qx];rw[if_pos (by omega),jJ];exact q1
        refine(hm.write hbk hj (b':={ b with rows:=yd,ver:=b.ver+1 }) rfl hw1 hbl1).more fun k hk=>?_
        simp only[Array.size_extract]at hk;simp only[qx];rw[if_pos (by omega),jJ]
       ·refine⟨zP.le_refl _,fun _ _ _ _ h=>h,Cb,fun b' hb' ho=>?_,fun _ _ _ h=>.inl h,fun id' b' hid hb'=>?_,⟨hos,BG,CK,hdrn⟩⟩
        ·exact hb2 b' hb' (fun e=>ho (e ▸ kl L rfl))
        ·by_cases yM:id=id'
         ·subst yM;rw[hbk]at hb';cases hb';exact⟨_,by simp[hid];rfl,by simp,fun h=>by simp at h⟩
         ·refine⟨b',by rw[jD yM];exact hb',jm _,fun _=>⟨rfl,fun L' hL'=>?_⟩⟩;exact hb2 _ (hm.uG hb' hL') (fun e=>yM (hm.vO id id' b b' L' hbk hb' (by rw[e];exact Inj.yp hj) hL'))
     ·cases h
    ·cases h
   ·cases h
 ·cases h
theorem zsA(k key:Nat):∀{r:List Cl} {l:List Int} (i:Nat),zuC k key i r=some l->r.length=l.length/\∀n,n<l.length->r[n]?=some (zjS (zgk k key (i+n)) (l.getD n 0))
 |[],l,i,h=>by simp[zuC]at h;subst h;exact⟨rfl,fun n hn=>by simp at hn⟩
 |c::r,l,i,h=>by
  have key1:∀(z:Int) (l':List Int),zjS (zgk k key i) z=c->zuC k key (i+1) r=some l'->(c::r).length=(z::l').length/\∀n,n<(z::l').length->(c::r)[n]?=some (zjS (zgk k key (i+n)) ((z::l').getD n 0)):=by
   intro z l' hc hr;obtain⟨h1,h2⟩:=zsA k key (i+1) hr;refine⟨by simp[h1],fun n hn=>?_⟩;cases n with
   |zero=>simp[hc]
   |succ n =>
    have:=h2 n (by simpa using hn);rw[show i+1+n=i+(n+1) by omega]at this;simpa using this
  unfold zuC at h;split at h
  ·split at h
   ·cases h
   ·rename_i hk;simp only[ja]at h;obtain⟨l',h1,rfl⟩:=h;exact key1 _ _ (by simp[zjS,hk]) h1
  ·split at h
   ·rename_i b hk;simp only[ja]at h;obtain⟨l',h1,rfl⟩:=h;exact key1 _ _ (by cases b<;>simp[zjS,hk]) h1
   ·cases h
  ·cases h
theorem zsy(k key:Nat):∀{rs:List (List Cl)} {zs:List (List Int)},zv2 k key rs=some zs->rs.length=zs.length/\∀(i:Nat) (hi:i<zs.length),∃r,rs[i]?=some r/\r.length=zs[i].length/\∀n,n<zs[i].length->r[n]?=some (zjS (zgk k key n) (zs[i].getD n 0))
 |[],zs,h=>by simp[zv2]at h;subst h;exact⟨rfl,fun i hi=>by simp at hi⟩
 |r::rs,zs,h=>by
  unfold zv2 at h;split at h
  ·rename_i x xs h1 h2;cases h;obtain⟨g1,g2⟩:=zsA k key 0 h1;obtain⟨g3,g4⟩:=zsy k key h2;refine⟨by simp[g3],fun i hi=>?_⟩;cases i with
   |zero=>exact⟨r,rfl,g1,fun n hn=>by simpa using g2 n hn⟩
   |succ i=>exact g4 i (by simpa using hi)
  ·cases h
def vZ(b:Bool)(z:Int):Value:=if b then .bool (z !=0) else .int .i64 z
theorem zAB{σ:zP}{j:Inj}{b:Bool}{z:Int}{v:Value}(h:VC σ j (zjS b z) v):v=vZ b z:=by
 cases b with
 |true=>have h:VC σ j (.bool (z !=0)) v:=h;cases h;rfl
 |false=>have h:VC σ j (.int .i64 z) v:=h;cases h;rfl
theorem zDe(σ:zP)(j:Inj)(b:Bool)(z:Int):VC σ j (zjS b z) (vZ b z):=by
 cases b with
 |true=>exact .bool _ _
 |false=>exact .int _ _ _
theorem zzi(b:Bool)(z:Int):(vZ b z).oneCell'=true:=by cases b<;>rfl
def ziq(k key:Nat)(l:List Int):List Value:=(List.range k).map fun i=>vZ (zgk k key i) (l.getD i 0)
def zfg(k key:Nat)(zs:List (List Int)):List Value:=zs.flatMap (ziq k key)
theorem zoV(k key:Nat):∀(zs:List (List Int)),(zfg k key zs).length=zs.length*k
 |[]=>by simp[zfg]
 |z::zs=>by
  have:=zoV k key zs;simp only[zfg,jT,jw,jl]at this ⊢;rw[this];simp[ziq,qn];omega
theorem zmK(k key:Nat):∀(zs:List (List Int)) (i n:Nat) (hi:i<zs.length),n<k->(zfg k key zs)[i*k+n]?=some (vZ (zgk k key n) (zs[i].getD n 0))
 |z::zs,0,n,hi,hn=>by
  simp only[zfg,jT,Nat.zero_mul,jJ];rw[jA (by simp[ziq];exact hn)];simp[ziq,hn]
 |z::zs,i+1,n,hi,hn=>by
  have hl:(ziq k key z).length=k:=by simp[ziq]
  have:=zmK k key zs i n (by simpa using hi) hn;simp only[zfg,jT]at this ⊢;rw[j6 (by rw[hl,qn];omega),hl];rw[show(i+1)*k+n-k=i*k+n by rw[qn];omega,this];simp
structure zut(P:Program)(f g k key:Nat):Prop where
 fn:∃fn,P.funcs[f]?=some fn/\fn.body.isNone=false/\(fn.name == "runtime.NumGoroutine")=false
 pos:0<k
 none:∀(p:Option Addr) (cap:Nat) (w:World),Calls P f #[.slice p 0 cap,.func (.func g) #[] #[]] w fun e w'=>e=.returned (.tuple #[])/\w'=w
 some:∀(blk off cap:Nat) (zs:List (List Int)) (w:World),Go.Sort.Holds id w blk off (zfg k key zs).toArray->blk<w.heap.size->zs.length<4611686018427387904 ->
  Calls P f #[.slice (.some ⟨blk,off,.none⟩) zs.length cap,.func (.func g) #[] #[]] w fun e w'=>e=.returned (.tuple #[])/\∃n os,w'=Go.Sort.grow (Go.Sort.putRow id (Go.Sort.ahead w n) blk off (zfg k key (ziS k key zs)).toArray) os
def zqh(P:Program)(c:Nat×Nat×Nat×Bool):Prop:=(c.2.2.1=0->zCh P c.1)/\(c.2.2.1≠0->zut P c.1 (c.2.2.1 / 64) (c.2.2.1 / 8 % 8) (c.2.2.1 % 8))
theorem zwi{f g k key:Nat}(hS:zut P f g k key){x:Cl}{res:AV}{M':Mem}(h:zqs k key x M=some (res,M'))(hag:zM σ w)(hm:MR own σ j M w){v:Value}(hx:VC σ j x v):Calls P f #[v,.func (.func g) #[] #[]] w (Ret own σ j M w res M'):=by
 unfold zqs at h;split at h
 ·cases h;cases hx;refine Calls.yO (hS.none none 0 w) ?_;rintro e w' ⟨rfl,rfl⟩;exact⟨.tuple #[],σ,j,rfl,⟨#[],rfl,zac.nil⟩,hag,hm,za2.refl⟩
 ·rename_i id0 gg es off len cap;split at h
  ·rename_i h0;subst h0;cases h;cases hx with
   |slice _ _ _ _ _ _ _ pl ad c hj hl Al ha =>
    refine Calls.yO (hS.none ad c w) ?_;rintro e w' ⟨rfl,rfl⟩;exact⟨.tuple #[],σ,j,rfl,⟨#[],rfl,zac.nil⟩,hag,hm,za2.refl⟩
  ·rename_i h0;split at h
   ·rename_i b hb0;obtain⟨hbk,BV⟩:=zaz hb0;subst BV;split at h
    ·rename_i hc;simp only[jk,kK,decide_eq_true_eq,beq_iff_eq]at hc;obtain⟨⟨⟨⟨uC,hfz⟩,As⟩,Ap⟩,CR⟩:=hc;split at h
     ·rename_i zs hzs;cases h;obtain⟨hz0,hz⟩:=zsy k key hzs;have hzl:zs.length=len:=by
       have:=hz0;simp at this;omega
      cases hx with
      |slice _ _ _ _ _ _ _ pl ad c hj hl Al ha =>
       obtain⟨L,rfl,_,rfl,hf2⟩:=ha (by omega);obtain⟨pl',Ak,hbr,kl⟩:=hm.blk id0 b hbk;rw[hj]at Ak;cases Ak;have hbr:BL σ j b L w:=hbr;obtain⟨C,T,hC,hsz,qg⟩:=hbr.heap;have hes:=hbr.esz;have uy:=hS.pos;have hLe:L.esz=k:=by rw[hes,Ap]
       have BX:=hbr.fit;have hlt:L.blk<w.heap.size:=(jK.1 hC).1;rw[Ap]at BX;rw[hLe]at hf2 ⊢;have hF:∀zz:List (List Int),(zfg k key zz).toArray.size=zz.length*k:=fun zz=>by simp[zoV]
       have hmul:(off+zs.length)*k<=b.rows.length*k:=kc _ (by omega);have hadd:(off+zs.length)*k=off*k+zs.length*k:=kX _ _ _;have hri:∀i (hi:i<zs.length),∃r,b.rows[off+i]?=some r/\r.length=zs[i].length/\∀n,n<zs[i].length->r[n]?=some (zjS (zgk k key n) (zs[i].getD n 0)):=by
        intro i hi;obtain⟨r,h1,h2⟩:=hz i hi;rw[qF (by omega),qi]at h1;exact⟨r,h1,h2⟩
       have hzk:∀i (hi:i<zs.length),(zs[i]).length=k:=by
        intro i hi;obtain⟨r,h1,h2,_⟩:=hri i hi;have:=hbr.len _ (zat h1);rw[<-h2];simpa [Ap]using this
       have hold:Go.Sort.Holds id w L.blk (L.off+off*k) (zfg k key zs).toArray:=by
        intro t ht;rw[hF]at ht;have hq:t / k<zs.length:=Nat.div_lt_of_lt_mul (by rw[ub];exact ht);have hm':t % k<k:=uj _ uy;have et:t=t / k*k+t % k:=by rw[ub];exact(vY t k).symm
        have hg:=zmK k key zs (t / k) (t % k) hq hm';rw[<-et]at hg;have hzl':=hzk _ hq;obtain⟨r0,hr0,hr1,hr2⟩:=hri _ hq;obtain⟨v,hv1,hv2⟩:=qg (off+t / k) _ (t % k) (zjS (zgk k key (t % k)) ((zs[t / k]).getD (t % k) 0)) hr0 (hr2 _ (by rw[hzl'];exact hm'));rw[if_neg (by simp[uC])]at hv2;have hv2:=zAB hv2;subst hv2;refine⟨?_,by simp[World.frozen?,hC]⟩;simp only[World.cell?,hC,kT,jH,if_false];rw[Ap]at hv1;have e2:L.off+off*k+t=L.off+(off+t / k)*k+t % k:=by rw[kX];omega
        rw[e2,hv1];have:(zfg k key zs).toArray[t]! = vZ (zgk k key (t % k)) ((zs[t / k]).getD (t % k) 0):=by
         rw[getElem!_def,qW,hg]
        rw[this];rfl
       subst hzl;refine Calls.yO (hS.some L.blk (L.off+off*k) c zs w hold hlt CR) ?_;rintro e w' ⟨rfl,n,os,rfl⟩;have hsl:=zx2 k key zs;generalize hZ:ziS k key zs=zz at hsl;generalize hC':Go.Sort.putCells id (L.off+off*k) (zfg k key zz).toArray C=C';have Br:C'.size=C.size:=by rw[<-hC'];simp[Go.Sort.putCells]
       have vt:∀p,C'[p]?=if L.off+off*k<=p/\p<L.off+off*k+zs.length*k then(if p<C.size then some ((zfg k key zz).toArray[p-(L.off+off*k)]!) else none) else C[p]?:=by
        intro p;rw[<-hC'];simp only[Go.Sort.putCells,Array.getElem?_mapIdx,hF,hsl];by_cases hp:p<C.size
        ·rw[qU hp];simp only[ui,hp,if_true];split<;>rfl
        ·rw[kZ (by omega)];simp[hp]
       have hb1:(Go.Sort.grow (Go.Sort.putRow id (Go.Sort.ahead w n) L.blk (L.off+off*k) (zfg k key zz).toArray) os).heap[L.blk]?=some (.cells C' T (0,0)):=by
        rw[Go.Sort.grow];simp only;rw[kD (by simpa using hlt)];simp[Go.Sort.putRow,Go.Sort.mapBlock,Go.Sort.ahead,vh,hC,Go.Sort.onCells,hC']
       have hb2:∀q,q<w.heap.size->q≠L.blk->(Go.Sort.grow (Go.Sort.putRow id (Go.Sort.ahead w n) L.blk (L.off+off*k) (zfg k key zz).toArray) os).heap[q]?=w.heap[q]?:=by
        intro q hk hne;rw[Go.Sort.grow];simp only;rw[kD (by simpa using hk)];simp[Go.Sort.putRow,Go.Sort.mapBlock,Go.Sort.ahead,vh,fun e=>hne (Eq.symm e),qT hne]
       have Cb:w.heap.size<=(Go.Sort.grow (Go.Sort.putRow id (Go.Sort.ahead w n) L.blk (L.off+off*k) (zfg k key zz).toArray) os).heap.size:=by simp[Go.Sort.grow]
       have hos:(Go.Sort.grow (Go.Sort.putRow id (Go.Sort.ahead w n) L.blk (L.off+off*k) (zfg k key zz).toArray) os).os=w.os:=rfl;have BG:(Go.Sort.grow (Go.Sort.putRow id (Go.Sort.ahead w n) L.blk (L.off+off*k) (zfg k key zz).toArray) os).output=w.output:=rfl;have CK:(Go.Sort.grow (Go.Sort.putRow id (Go.Sort.ahead w n) L.blk (L.off+off*k) (zfg k key zz).toArray) os).tape=w.tape:=rfl;have hdrn:w.drawn<=(Go.Sort.grow (Go.Sort.putRow id (Go.Sort.ahead w n) L.blk (L.off+off*k) (zfg k key zz).toArray) os).drawn:=uP _ _;generalize Go.Sort.grow (Go.Sort.putRow id (Go.Sort.ahead w n) L.blk (L.off+off*k) (zfg k key zz).toArray) os=w' at hb1 hb2 Cb hos BG CK hdrn;generalize AR:b.rows.take off++zz.map (zsl k key)++b.rows.drop (off+zs.length)=yd;have hrl:yd.length=b.rows.length:=by rw[<-AR];simp;omega
       have AS:∀i,yd[i]?=if i<off then b.rows[i]? else if i<off+zs.length then(zz.map (zsl k key))[i-off]? else b.rows[i]?:=by
        intro i;have:=zdb b.rows (zz.map (zsl k key)) off (by simp;omega) i;simp only[kG,hsl]at this;rw[<-AR,this]
       have hagc:∀b' o v,σ b' o=some v->w'.cell? ⟨b',o,none⟩=some v:=by
        intro b' o v hv';have hold:=hag.cells b' o v hv';by_cases hbb:b'=L.blk
        ·subst hbb;have hlo:o<L.off:=by
          rcases kA o L.off with h|h
          ·exact h
          ·have:=hbr.Bn o h (fun hh=>by rw[hfz]at hh;cases hh);rw[this]at hv';cases hv'
         simp only[World.cell?,hC,kT,jH,if_false]at hold;simp only[World.cell?,hb1,kT,jH,if_false];rw[vt,if_neg (by omega)];exact hold
        ·have:=hb2 b' (hag.lt hv') hbb;simpa [World.cell?,this]using hold
       have hbl:BL σ j { b with rows:=yd,ver:=b.ver+1 } L w':=by
        refine⟨hes,hbr.pos,fun r hr'=>?_,by simpa [hrl,Ap]using BX,⟨C',T,hb1,by rw[Br,hsz],fun i' r n cl hi' hn=>?_⟩,fun o h1 h2=>hbr.Bn o h1 (fun h=>by rw[hfz]at h;cases h)⟩
        ·obtain⟨q,hq⟩:=jX hr';rw[AS]at hq;split at hq
         ·exact hbr.len r (zat hq)
         ·split at hq
          ·have:=zat hq;simp only[jW]at this;obtain⟨_,_,rfl⟩:=this;simp[zsl,Ap]
          ·exact hbr.len r (zat hq)
        ·simp only at hi' ⊢;simp only[uC,jH,if_false];have hnl:=zC hn;rw[AS]at hi';rw[vt,Ap];by_cases h1:i'<off
         ·rw[if_pos h1]at hi';obtain⟨v,hv1,hv2⟩:=qg i' r n cl hi' hn;rw[if_neg (by simp[uC])]at hv2;have C6:=hbr.len r (zat hi');rw[Ap]at C6 hv1;have:(i'+1)*k<=off*k:=kc _ h1;rw[qn]at this;exact⟨v,by rw[if_neg (by omega)];exact hv1,hv2⟩
         ·rw[if_neg h1]at hi';by_cases h2:i'<off+zs.length
          ·rw[if_pos h2]at hi';have hk:i'-off<zz.length:=by omega
           simp only[kY,jr hk,ui,jg]at hi';subst hi';have hnk:n<k:=by simpa [zsl]using hnl
           have ecl:cl=zjS (zgk k key n) ((zz[i'-off]).getD n 0):=by
            simp[zsl,hnk]at hn;simpa using hn.symm
           subst ecl;refine⟨vZ (zgk k key n) ((zz[i'-off]).getD n 0),?_,zDe _ _ _ _⟩;have hg:=zmK k key zz (i'-off) n hk hnk;have e0:i'=off+(i'-off):=by omega
           have e1:i'*k=off*k+(i'-off)*k:=by rw[<-kX,<-e0]
           have e2:(i'-off+1)*k<=zs.length*k:=kc _ (by omega);rw[qn]at e2;have e3:(i'+1)*k<=b.rows.length*k:=kc _ (by omega);rw[qn]at e3;rw[if_pos (by omega),if_pos (by omega)];rw[show L.off+i'*k+n-(L.off+off*k)=(i'-off)*k+n by omega,getElem!_def,qW,hg]
          ·rw[if_neg h2]at hi';obtain⟨v,hv1,hv2⟩:=qg i' r n cl hi' hn;rw[if_neg (by simp[uC])]at hv2;have C6:=hbr.len r (zat hi');rw[Ap]at C6 hv1;have:(off+zs.length)*k<=i'*k:=kc _ (by omega);exact⟨v,by rw[if_neg (by omega)];exact hv1,hv2⟩
       refine⟨.tuple #[],σ,j,rfl,⟨#[],rfl,zac.nil⟩,⟨hagc,hag.qd⟩,?_,?_⟩
       ·
        have hw1:∀k,k≠L.blk->({ w' with heap:=(w'.heap.extract 0 w.heap.size) }:World).heap[k]?=w.heap[k]?:=by
         intro k hne;rcases kA k w.heap.size with hk|hk
         ·simp only[qx];rw[if_pos (by omega),jJ];exact hb2 k hk hne
         ·rw[kZ (by simp;omega),kZ hk]
        have hbl1:BL σ j { b with rows:=yd,ver:=b.ver+1 } L ({ w' with heap:=(w'.heap.extract 0 w.heap.size) }:World):=by
         obtain⟨a1,a2,a3,a4,⟨C2,T2,q1,q2,q3⟩,a6⟩:=hbl;refine⟨a1,a2,a3,a4,⟨C2,T2,?_,q2,q3⟩,a6⟩;simp only[qx];rw[if_pos (by omega),jJ];exact q1
        refine(hm.write hbk hj (b':={ b with rows:=yd,ver:=b.ver+1 }) rfl hw1 hbl1).more fun k hk=>?_
        simp only[Array.size_extract]at hk;simp only[qx];rw[if_pos (by omega),jJ]
       ·refine⟨zP.le_refl _,fun _ _ _ _ h=>h,Cb,fun b' hb' ho=>?_,fun _ _ _ h=>.inl h,fun id' b' hid hb'=>?_,⟨hos,BG,CK,hdrn⟩⟩
        ·exact hb2 b' hb' (fun e=>ho (e ▸ kl L rfl))
        ·by_cases yM:id0=id'
         ·subst yM;rw[hbk]at hb';cases hb';exact⟨_,by simp[hid];rfl,by simp,fun h=>by simp at h⟩
         ·refine⟨b',by rw[jD yM];exact hb',jm _,fun _=>⟨rfl,fun L' hL'=>?_⟩⟩;exact hb2 _ (hm.uG hb' hL') (fun e=>yM (hm.vO id0 id' b b' L' hbk hb' (by rw[e];exact Inj.yp hj) hL'))
     ·cases h
    ·cases h
   ·cases h
 ·cases h
theorem zvt(Bg:zb0.base=P.funcs.size)(vF:P.follows .mixedOrders=true){Cs:List (Nat×Nat×Nat×Bool)}(hC:∀c∈Cs,(c.2.1==0||zf2 P c.1 c.2.1 c.2.2.1)=true)(hS:∀c∈Cs,c.2.1=0->zqh P c):FnS P (uN Cs):=by
 intro f args M res M' h vK;unfold uN at h;split at h
 ·rename_i esz bytes frz hl;have Ax:(f,esz,bytes,frz)∈Cs:=by
   clear h hC hS;induction Cs with
   |nil=>simp at hl
   |cons c Cs ih =>
    obtain⟨g,d⟩:=c;rw[List.lookup_cons]at hl;split at hl
    ·rename_i hb;cases hl;simp at hb;subst hb;exact jq ..
    ·exact js _ (ih hl)
  split at h
  ·rename_i x;split at h
   ·rename_i h0;split at h
    ·rename_i hb0;have hSf:=(hS _ Ax h0).1 hb0;obtain⟨fn,h1,h2,h3⟩:=hSf.fn;refine⟨fun _=>⟨fn,h1,h2,h3,fun own σ j w vs kl hag hm hvs=>?_⟩,fun hge=>by
      have:=(jK.1 h1).1;omega⟩
     obtain⟨v,vs',hv0,hv,hs⟩:=hvs.kU;have hvs':=hs.yc;subst hvs';have:vs = #[v]:=qj (by simpa using hv0);subst this;exact zx1 hSf h hag hm hv
    ·cases h
   ·rename_i h0;have hck:=hC _ Ax;have hck:zf2 P f esz bytes=true:=by simpa [h0]using hck
    obtain⟨fn,h1,h2,h3,_⟩:=zrt (own:=fun _=>True) (σ:=fun _ _=>none) (j:=zb1) (w:=default) (v:=default) vF hck h;refine⟨fun _=>⟨fn,h1,h2,h3,fun own σ j w vs kl hag hm hvs=>?_⟩,fun hge=>by
     have:=(jK.1 h1).1;omega⟩
    obtain⟨v,vs',hv0,hv,hs⟩:=hvs.kU;have hvs':=hs.yc;subst hvs';have:vs = #[v]:=qj (by simpa using hv0);subst this;obtain⟨_,_,_,_,hc⟩:=zrt (own:=own) (σ:=σ) (j:=j) (w:=w) (v:=v) vF hck h;exact hc kl hag hm hv
  ·rename_i x g;split at h
   ·rename_i h0;obtain⟨h0,h00,rfl⟩:=h0;have hSf:=(hS _ Ax h0).2 h00;obtain⟨fn,h1,h2,h3⟩:=hSf.fn;refine⟨fun _=>⟨fn,h1,h2,h3,fun own σ j w vs kl hag hm hvs=>?_⟩,fun hge=>by
     have:=(jK.1 h1).1;omega⟩
    obtain⟨v,vs',hv0,hv,hs⟩:=hvs.kU;obtain⟨u,vs'',hu0,hu,hs'⟩:=hs.kU;have hvs':=hs'.yc;subst hvs';subst hu0;have hu:VC σ j (.fn (bytes / 64) [] []) u:=hu;cases hu with
    |fn _ f fi ca fi' ca' l1 l2 q1 q2 =>
     have e1:fi' = #[]:=yG (by simpa using l1.symm);have e2:ca' = #[]:=yG (by simpa using l2.symm);subst e1 e2;have:vs = #[v,.func (.func (bytes / 64)) #[] #[]]:=qj (by simpa using hv0);subst this;exact zwi hSf h hag hm hv
   ·cases h
  ·cases h
 ·cases h
end
section
variable[zb0]
theorem MR.nil{own:Nat->Prop}{σ:zP}{w:World}:MR own σ zb1 [] w :=
 ⟨fun id b h=>by simp at h,fun id id' b b' k h=>by simp at h,fun id g pl h=>by simp[zb1]at h,fun id g pl h=>by simp[zb1]at h⟩
end
theorem zqU{α:Type}{f:Nat}{c:α}:∀{l:List (Nat×α)},l.lookup f=some c->(f,c)∈l
 |[],h=>by simp at h
 |(g,d)::l,h=>by
  rw[List.lookup_cons]at h;split at h
  ·rename_i hb;cases h;simp at hb;subst hb;exact jq ..
  ·exact js _ (zqU h)
@[reducible] def zww [G:GlobP](P:Program)(T:FuncId->Option CFn):zb0:={ toGlobP:=G,base:=P.funcs.size,okc:=fun v ps a b n=>P.funcs.size<=v/\zAN P T v ps a b n,le:=fun _ _ _ _ _ h=>h.1 }
variable[GlobP]
def zql(P:Program)(L:List (Nat×CFn)):Bool:=L.all fun p=>match P.funcs[p.1]? with
 |some fn=>match fn.body with
  |some b=>(List.range (zeV b)).all fun i=>(L.lookup (P.funcs.size+16*p.1+i)).isSome
  |none=>true
 |none=>true
theorem zk9{P:Program}{an:Ann}{L:List (Nat×CFn)}(h:(L.map fun p=>zcF P an true p.1)=L.map fun p=>some p.2){f:FuncId}{c:CFn}(hl:L.lookup f=some c):zcF P an true f=some c/\(f,c)∈L:=by
 have hm:=zqU hl;obtain⟨k,hk⟩:=jX hm;have:=congrArg (·[k]?) h;simp only[kY,hk,ui]at this;exact⟨AD this,hm⟩
theorem zpU{P:Program}{an:Ann}{b:Bool}{v:FuncId}{c:CFn}(h:zho P an b v=some c):c.rnd.isSome=true:=by
 unfold zho at h;split at h
 ·split at h
  ·split at h
   ·split at h
    ·split at h
     ·cases h;rfl
     ·cases h
    ·cases h
   ·cases h
  ·cases h
 ·cases h
theorem zzm{P:Program}{an:Ann}{L:List (Nat×CFn)}(h:(L.map fun p=>zcF P an true p.1)=L.map fun p=>some p.2)(hV:zql P L=true)(f:FuncId)(c:CFn)(hl:L.lookup f=some c) :
  (f<P.funcs.size->@zC5 (zww P fun f=>L.lookup f) P f c)/\(P.funcs.size<=f->c.rnd.isSome=true):=by
 letI:=zww P fun f=>L.lookup f
 obtain⟨hc,hm⟩:=zk9 h hl;unfold zcF at hc;refine⟨fun hlt=>?_,fun hge=>?_⟩
 ·rw[if_pos hlt]at hc;refine zuf hc fun fn body i x hf hb hn hx=>⟨jV (uP _ (16*f)) (uP _ i),?_⟩
  have h1:=jI.1 hV _ hm;simp only[hf,hb]at h1;have h2:=jI.1 h1 i (by have:=zC hx;rw[zfr]at this;simpa using this);obtain⟨c',hc'⟩:=Option.isSome_iff_exists.1 h2;obtain⟨h3,_⟩:=zk9 h hc';unfold zcF at h3;rw[if_neg (Nat.not_lt.2 (jV (uP _ (16*f)) (uP _ i)))]at h3;exact zro h3 hc' hf hb hn hx
 ·rw[if_neg (Nat.not_lt.2 hge)]at hc;exact zpU hc
def zaH(L:List (Nat×CFn))(Cs:List (Nat×Nat×Nat×Bool))(n:Nat):za4:=zfk (fun f=>L.lookup f) (uN Cs) n
theorem zsT{P:Program}(vF:P.follows .mixedOrders=true){an:Ann}{L:List (Nat×CFn)}{Cs:List (Nat×Nat×Nat×Bool)}(hL:(L.map fun p=>zcF P an true p.1)=L.map fun p=>some p.2)(hV:zql P L=true)
  (hC:(Cs.all fun c=>c.2.1==0||zf2 P c.1 c.2.1 c.2.2.1)=true) (hS:∀c∈Cs,c.2.1=0->zqh P c) (n:Nat):@FnS (zww P fun f=>L.lookup f) P (zaH L Cs n):=by
 letI:=zww P fun f=>L.lookup f
 exact zrA vF (fun f c hl=>zzm hL hV f c hl) (fun v ps a b n h=>h.2) (zvt rfl vF (fun c hc=>jI.1 hC c hc) hS) n
end Go.Eng
namespace Go.Eng
open Go
def za4.le(c d:za4):Prop:=∀f a M r,c f a M=some r->d f a M=some r
theorem zo1{c d:za4}(h:c.le d){f:FuncId}{args:List WV}{M:Mem}{r:AV×Mem×FP}(hr:zcG c f args M=some r):zcG d f args M=some r:=by
 unfold zcG at hr ⊢;dsimp only at hr ⊢;split at hr
 ·rename_i h1;rw[if_pos h1];split at hr
  ·rename_i as Ms h2 h3;split at hr
   ·cases hr
   ·rename_i r0 Ms' h4;simp only[h2,h3,h _ _ _ _ h4];exact hr
  ·cases hr
 ·cases hr
theorem ztf{c d:za4}(h:c.le d){m:zbz}{fv:WV}{args:List WV}{M:Mem}{r:AV×Mem×FP}(hr:zx c m fv args M=some r):zx d m fv args M=some r:=by
 unfold zx at hr ⊢;split at hr
 ·split at hr
  ·rename_i hm;rw[if_pos hm];split at hr
   ·cases hr
   ·rename_i as h2;split at hr
    ·rename_i h1;simp only[h2,h1,if_true];dsimp only at hr;split at hr
     ·rename_i h3;rw[if_pos h3];exact zo1 h hr
     ·rename_i h3;rw[if_neg h3];split at hr
      ·cases hr
      ·rename_i r0 M2 fp h4;simp only[zo1 h h4];exact hr
    ·cases hr
  ·rename_i hm;rw[if_neg hm];split at hr
   ·rename_i h1;rw[if_pos h1];exact zo1 h hr
   ·cases hr
 ·cases hr
theorem zzW{c d:za4}(h:c.le d){n0:Nat}{E:Nat->Option AV}{M:Mem}{co:CO}{r:AV×Mem×FP}(hr:opF c n0 E M co=some r):opF d n0 E M co=some r:=by
 cases co with
 |call m f as =>
  simp only[opF]at hr ⊢;split at hr
  ·rename_i fv vs h1 h2;exact ztf h hr
  ·cases hr
 |_=>exact hr
theorem zuH{c d:za4}(h:c.le d){n0:Nat}{o:zaG}{E:Nat->Option AV}{M:Mem}{r:AV×Mem×FP}(hr:zbm c n0 o E M=some r):zbm d n0 o E M=some r:=by
 unfold zbm at hr ⊢;split at hr
 ·exact zzW h hr
 ·split at hr
  ·exact zzW h hr
  ·exact hr
  ·cases hr
theorem zp9{c d:za4}(h:c.le d){n0:Nat}:∀{os:List zaG} {E:Env} {M:Mem} {r:Env×Mem×List FP},zks c n0 os E M=some r->zks d n0 os E M=some r
 |[],E,M,r,hr=>hr
 |o::os,E,M,r,hr=>by
  simp only[zks]at hr ⊢;split at hr
  ·rename_i v M' fp h1;rw[zuH h h1];dsimp only;split at hr
   ·rename_i E2 M2 fs h2;rw[zp9 h h2];exact hr
   ·cases hr
  ·cases hr
theorem z7B{f g:Env->Mem->Option (EX×Env×Mem)}(h:∀E M r,f E M=some r->g E M=some r){live:Option (List Nat)}{n0:Nat}:∀{n m:Nat} {E:Env} {M:Mem} {r:EX×Env×Mem},n<=m->iter f live n0 n E M=some r->iter g live n0 m E M=some r
 |0,m,E,M,r,hn,hr=>by simp[iter]at hr
 |n+1,0,E,M,r,hn,hr=>by omega
 |n+1,m+1,E,M,r,hn,hr=>by
  simp only[iter]at hr ⊢;cases hf:f E M with
  |none=>rw[hf]at hr;cases hr
  |some x =>
   rw[hf]at hr;rw[h _ _ _ hf];obtain⟨ex,E',M'⟩:=x;cases ex with
   |normal=>exact z7B h (by omega) hr
   |exit i=>exact hr
   |ret=>exact hr
theorem zcR{c d:za4}(h:c.le d){n m:Nat}(hn:n<=m):∀{cc:CC} {E:Env} {M:Mem} {r:EX×Env×Mem},zaV c n cc E M=some r->zaV d m cc E M=some r
 |.skip,E,M,r,hr=>hr
 |.region nA ops prs v8,E,M,r,hr=>by
  simp only[zaV]at hr ⊢;split at hr
  ·rename_i E' M' fs h1;rw[zp9 h h1];exact hr
  ·cases hr
 |.seq a b,E,M,r,hr=>by
  simp only[zaV]at hr ⊢;cases ha:zaV c n a E M with
  |none=>rw[ha]at hr;cases hr
  |some x =>
   rw[ha]at hr;rw[zcR h hn ha];obtain⟨ex,E',M'⟩:=x;cases ex with
   |normal=>exact zcR h hn hr
   |exit i=>exact hr
   |ret=>exact hr
 |.cond x a b,E,M,r,hr=>by
  simp only[zaV]at hr ⊢;split at hr
  ·rename_i t ht;split at hr
   ·rename_i h1;rw[if_pos h1];exact zcR h hn hr
   ·rename_i h1;rw[if_neg h1];exact zcR h hn hr
  ·cases hr
 |.block id b,E,M,r,hr=>by
  simp only[zaV]at hr ⊢;cases ha:zaV c n b E M with
  |none=>rw[ha]at hr;cases hr
  |some x=>rw[ha]at hr;rw[zcR h hn ha];exact hr
 |.loop live b,E,M,r,hr=>by
  simp only[zaV]at hr ⊢;exact z7B (fun E M r hr=>zcR h hn hr) hn hr
 |.exit id,E,M,r,hr=>hr
 |.ret,E,M,r,hr=>hr
 |.rng f v caps,E,M,r,hr=>by
  simp only[zaV]at hr ⊢;split at hr
  ·rename_i g fi ca h1;split at hr
   ·rename_i a M' fp h2;rw[ztf h h2];exact hr
   ·cases hr
  ·cases hr
theorem zyb{c d:za4}(h:c.le d){n m:Nat}(hn:n<=m){f:FuncId}{ps:List Nat}{pre code:CC}{args:List WV}{M:Mem}{r:AV×Mem}(hr:zoC c n f ps pre code args M=some r):zoC d m f ps pre code args M=some r:=by
 unfold zoC at hr ⊢;split at hr
 ·split at hr
  ·rename_i h1;rw[if_pos h1];split at hr
   ·rename_i cells h2;split at hr
    ·rename_i E0 h3;split at hr
     ·rename_i E1 M1 h4;simp only[h2,h3,zcR h hn h4];split at hr
      ·rename_i M2 h5;split at hr
       ·rename_i ex E3 M3 h6;simp only[zcR h hn h6];exact hr
       ·cases hr
      ·cases hr
     ·cases hr
    ·cases hr
   ·cases hr
  ·cases hr
 ·cases hr
theorem zrz{T:FuncId->Option CFn}{X:za4}:∀n,za4.le (zfk T X n) (zfk T X (n+1))
 |0=>fun f a M r h=>by simp[zfk]at h
 |n+1=>fun f a M r h=>by
  have ih:=zrz (T:=T) (X:=X) n;simp only[zfk]at h;rw[zfk];split at h
  ·exact h
  ·rename_i fn hT;split at h
   ·exact zyb ih (kW n) h
   ·rename_i hr;split at h
    ·rename_i hl;rw[if_pos hl];cases hx:zaV (zfk T X n) n fn.code (yf 0 a) M with
     |none=>rw[hx]at h;cases h
     |some x=>rw[hx]at h;rw[zcR ih (kW n) hx];exact h
    ·cases h
theorem zAD{T:FuncId->Option CFn}{X:za4}{n m:Nat}(h:n<=m):za4.le (zfk T X n) (zfk T X m):=by
 induction h with
 |refl=>exact fun _ _ _ _ h=>h
 |step _ ih=>exact fun f a M r h=>zrz _ f a M r (ih f a M r h)
def zCa{α:Type}(f:Nat->Option α):Prop:=∀n m r,n<=m->f n=some r->f m=some r
open Classical in
noncomputable def lim{α:Type}(f:Nat->Option α):Option α:=if h:∃r n,f n=some r then some h.choose else none
theorem zt0{α:Type}{f:Nat->Option α}(hf:zCa f){r:α}:lim f=some r<->∃n,f n=some r:=by
 constructor
 ·intro h;unfold lim at h;split at h
  ·rename_i hx;cases h;exact hx.choose_spec
  ·cases h
 ·rintro⟨n,hn⟩;have hx:∃r n,f n=some r:=⟨r,n,hn⟩;unfold lim;rw[dif_pos hx];obtain⟨m,hm⟩:=hx.choose_spec;have h1:=hf n (max n m) _ (uX ..) hn;have h2:=hf m (max n m) _ (uO ..) hm;rw[h1]at h2;exact h2.symm
section
variable(L:List (Nat×CFn))(Cs:List (Nat×Nat×Nat×Bool))
noncomputable def R:za4:=fun f a M=>lim fun n=>zaH L Cs n f a M
noncomputable def X(cc:CC)(E:Env)(M:Mem):Option (EX×Env×Mem):=lim fun n=>zaV (zaH L Cs n) n cc E M
noncomputable def Y(b:CC)(live:Option (List Nat))(n0:Nat)(E:Env)(M:Mem):Option (EX×Env×Mem):=lim fun n=>iter (zaV (zaH L Cs n) n b) live n0 n E M
end
section
variable{L:List (Nat×CFn)}{Cs:List (Nat×Nat×Nat×Bool)}
theorem zgu{n m:Nat}(h:n<=m):za4.le (zaH L Cs n) (zaH L Cs m):=zAD h
theorem zCS{f:FuncId}{a:List WV}{M:Mem}:zCa fun n=>zaH L Cs n f a M:=fun _ _ r h hr=>zgu h _ _ _ _ hr
theorem zCL{cc:CC}{E:Env}{M:Mem}:zCa fun n=>zaV (zaH L Cs n) n cc E M:=fun _ _ _ h hr=>zcR (zgu h) h hr
theorem zCJ{b:CC}{live:Option (List Nat)}{n0:Nat}{E:Env}{M:Mem}:zCa fun n=>iter (zaV (zaH L Cs n) n b) live n0 n E M:=fun _ _ _ h hr=>z7B (fun _ _ _ hr=>zcR (zgu h) h hr) h hr
theorem zah{f:FuncId}{a:List WV}{M:Mem}{r:AV×Mem}:R L Cs f a M=some r<->∃n,zaH L Cs n f a M=some r:=zt0 zCS
theorem zdL{cc:CC}{E:Env}{M:Mem}{r:EX×Env×Mem}:X L Cs cc E M=some r<->∃n,zaV (zaH L Cs n) n cc E M=some r:=zt0 zCL
theorem zpD{b:CC}{live:Option (List Nat)}{n0:Nat}{E:Env}{M:Mem}{r:EX×Env×Mem}:Y L Cs b live n0 E M=some r<->∃n,iter (zaV (zaH L Cs n) n b) live n0 n E M=some r:=zt0 zCJ
theorem zDi(n:Nat):za4.le (zaH L Cs n) (R L Cs):=fun _ _ _ _ h=>zah.2 ⟨n,h⟩
theorem zry{f:FuncId}{args:List WV}{M:Mem}{r:AV×Mem×FP}(hr:zcG (R L Cs) f args M=some r):∃n,zcG (zaH L Cs n) f args M=some r:=by
 unfold zcG at hr ⊢;dsimp only at hr ⊢;split at hr
 ·rename_i h1;split at hr
  ·rename_i as Ms h2 h3;split at hr
   ·cases hr
   ·rename_i r0 Ms' h4;obtain⟨n,hn⟩:=zah.1 h4;exact⟨n,by rw[if_pos h1];simp only[h2,h3,hn];exact hr⟩
  ·cases hr
 ·cases hr
theorem zAC{m:zbz}{fv:WV}{args:List WV}{M:Mem}{r:AV×Mem×FP}(hr:zx (R L Cs) m fv args M=some r):∃n,zx (zaH L Cs n) m fv args M=some r:=by
 unfold zx at hr ⊢;split at hr
 ·split at hr
  ·rename_i hm;split at hr
   ·cases hr
   ·rename_i as h2;split at hr
    ·rename_i h1;dsimp only at hr;split at hr
     ·rename_i h3;obtain⟨n,hn⟩:=zry hr;exact⟨n,by rw[if_pos hm];simp only[h2,h1,if_true];rw[if_pos h3];exact hn⟩
     ·rename_i h3;split at hr
      ·cases hr
      ·rename_i r0 M2 fp h4;obtain⟨n,hn⟩:=zry h4;exact⟨n,by rw[if_pos hm];simp only[h2,h1,if_true];rw[if_neg h3];simp only[hn];exact hr⟩
    ·cases hr
  ·rename_i hm;split at hr
   ·rename_i h1;obtain⟨n,hn⟩:=zry hr;exact⟨n,by rw[if_neg hm,if_pos h1];exact hn⟩
   ·cases hr
 ·cases hr
theorem zCe{n0:Nat}{E:Nat->Option AV}{M:Mem}{co:CO}{r:AV×Mem×FP}(hr:opF (R L Cs) n0 E M co=some r):∃n,opF (zaH L Cs n) n0 E M co=some r:=by
 cases co with
 |call m f as =>
  simp only[opF]at hr ⊢;split at hr
  ·exact zAC hr
  ·cases hr
 |_=>exact⟨0,hr⟩
theorem zBh{n0:Nat}{o:zaG}{E:Nat->Option AV}{M:Mem}{r:AV×Mem×FP}(hr:zbm (R L Cs) n0 o E M=some r):∃n,zbm (zaH L Cs n) n0 o E M=some r:=by
 unfold zbm at hr ⊢;split at hr
 ·exact zCe hr
 ·split at hr
  ·exact zCe hr
  ·exact⟨0,hr⟩
  ·cases hr
theorem zzL{n0:Nat}:∀{os:List zaG} {E:Env} {M:Mem} {r:Env×Mem×List FP},zks (R L Cs) n0 os E M=some r->∃n,zks (zaH L Cs n) n0 os E M=some r
 |[],E,M,r,hr=>⟨0,hr⟩
 |o::os,E,M,r,hr=>by
  simp only[zks]at hr;split at hr
  ·rename_i v M' fp h1;split at hr
   ·rename_i E2 M2 fs h2;obtain⟨n,hn⟩:=zBh h1;obtain⟨m,hm⟩:=zzL h2;refine⟨max n m,?_⟩;simp only[zks,zuH (zgu (uX n m)) hn,zp9 (zgu (uO n m)) hm];exact hr
   ·cases hr
  ·cases hr
theorem zi0{α:Type}{a b:Option α}(h:∀x,a=some x<->b=some x):a=b:=by
 cases a with
 |none=>cases b with
  |none=>rfl
  |some y=>have:=(h y).2 rfl;cases this
 |some x=>exact((h x).1 rfl).symm
theorem zCK(E:Env)(M:Mem):X L Cs .skip E M=some (.normal,E,M):=zdL.2 ⟨0,rfl⟩
theorem zCN(id:Nat)(E:Env)(M:Mem):X L Cs (.exit id) E M=some (.exit id,E,M):=zdL.2 ⟨0,rfl⟩
theorem zDo(E:Env)(M:Mem):X L Cs .ret E M=some (.ret,E,M):=zdL.2 ⟨0,rfl⟩
theorem zAM(nA:Nat)(ops:List zaG)(prs:List (Nat×Nat))(v8:Option (List Nat))(E:Env)(M:Mem):X L Cs (.region nA ops prs v8) E M=match zks (R L Cs) M.length ops E (M++qN nA)with
  |some (E',M',fs)=>if prs.all (zyi (M.length+nA) fs) then some (.normal,E'.kept v8,M') else none
  |none=>none:=by
 refine zi0 fun x=>⟨fun h=>?_,fun h=>?_⟩
 ·obtain⟨n,hn⟩:=zdL.1 h;simp only[zaV]at hn;split at hn
  ·rename_i E' M' fs h1;rw[zp9 (zDi n) h1];exact hn
  ·cases hn
 ·split at h
  ·rename_i E' M' fs h1;obtain⟨n,hn⟩:=zzL h1;exact zdL.2 ⟨n,by simp only[zaV,hn];exact h⟩
  ·cases h
theorem zDn(a b:CC)(E:Env)(M:Mem):X L Cs (.seq a b) E M=match X L Cs a E M with
  |some (.normal,E',M')=>X L Cs b E' M'
  |r=>r:=by
 refine zi0 fun x=>⟨fun h=>?_,fun h=>?_⟩
 ·obtain⟨n,hn⟩:=zdL.1 h;simp only[zaV]at hn;cases ha:zaV (zaH L Cs n) n a E M with
  |none=>rw[ha]at hn;cases hn
  |some y =>
   rw[ha]at hn;rw[zdL.2 ⟨n,ha⟩];obtain⟨ex,E',M'⟩:=y;cases ex with
   |normal=>exact zdL.2 ⟨n,hn⟩
   |exit i=>exact hn
   |ret=>exact hn
 ·cases ha:X L Cs a E M with
  |none=>rw[ha]at h;cases h
  |some y =>
   rw[ha]at h;obtain⟨n,hn⟩:=zdL.1 ha;obtain⟨ex,E',M'⟩:=y;cases ex with
   |normal =>
    obtain⟨m,hm⟩:=zdL.1 h;exact zdL.2 ⟨max n m,by simp only[zaV,zcR (zgu (uX n m)) (uX n m) hn];exact zcR (zgu (uO n m)) (uO n m) hm⟩
   |exit i=>exact zdL.2 ⟨n,by simp only[zaV,hn];exact h⟩
   |ret=>exact zdL.2 ⟨n,by simp only[zaV,hn];exact h⟩
theorem zCO(c:Opd)(a b:CC)(E:Env)(M:Mem):X L Cs (.cond c a b) E M=match c.ev E.get with
  |some (.c (.bool t))=>if t then X L Cs a E M else X L Cs b E M
  |_=>none:=by
 refine zi0 fun x=>⟨fun h=>?_,fun h=>?_⟩
 ·obtain⟨n,hn⟩:=zdL.1 h;simp only[zaV]at hn;split at hn
  ·rename_i t ht;split at hn
   ·rename_i h1;simp only[ht];rw[if_pos h1];exact zdL.2 ⟨n,hn⟩
   ·rename_i h1;simp only[ht];rw[if_neg h1];exact zdL.2 ⟨n,hn⟩
  ·cases hn
 ·split at h
  ·rename_i t ht;split at h
   ·rename_i h1;obtain⟨n,hn⟩:=zdL.1 h;exact zdL.2 ⟨n,by simp only[zaV,ht];rw[if_pos h1];exact hn⟩
   ·rename_i h1;obtain⟨n,hn⟩:=zdL.1 h;exact zdL.2 ⟨n,by simp only[zaV,ht];rw[if_neg h1];exact hn⟩
  ·cases h
theorem zBU(id:Nat)(b:CC)(E:Env)(M:Mem):X L Cs (.block id b) E M=match X L Cs b E M with
  |some (.exit id',E',M')=>if id'=id then some (.normal,E',M') else some (.exit id',E',M')
  |r=>r:=by
 refine zi0 fun x=>⟨fun h=>?_,fun h=>?_⟩
 ·obtain⟨n,hn⟩:=zdL.1 h;simp only[zaV]at hn;cases ha:zaV (zaH L Cs n) n b E M with
  |none=>rw[ha]at hn;cases hn
  |some y=>rw[ha]at hn;rw[zdL.2 ⟨n,ha⟩];exact hn
 ·cases ha:X L Cs b E M with
  |none=>rw[ha]at h;cases h
  |some y =>
   rw[ha]at h;obtain⟨n,hn⟩:=zdL.1 ha;exact zdL.2 ⟨n,by simp only[zaV,hn];exact h⟩
theorem zCM(live:Option (List Nat))(b:CC)(E:Env)(M:Mem):X L Cs (.loop live b) E M=Y L Cs b live M.length (canon M.length live E M).1 (canon M.length live E M).2:=by
 refine zi0 fun x=>⟨fun h=>?_,fun h=>?_⟩
 ·obtain⟨n,hn⟩:=zdL.1 h;exact zpD.2 ⟨n,by simpa only[zaV]using hn⟩
 ·obtain⟨n,hn⟩:=zpD.1 h;exact zdL.2 ⟨n,by simpa only[zaV]using hn⟩
theorem zrL(b:CC)(live:Option (List Nat))(n0:Nat)(E:Env)(M:Mem):Y L Cs b live n0 E M=match X L Cs b E M with
  |some (.normal,E',M')=>Y L Cs b live n0 (canon n0 live E' M').1 (canon n0 live E' M').2
  |r=>r:=by
 refine zi0 fun x=>⟨fun h=>?_,fun h=>?_⟩
 ·obtain⟨n,hn⟩:=zpD.1 h;cases n with
  |zero=>simp[iter]at hn
  |succ n =>
   simp only[iter]at hn;cases ha:zaV (zaH L Cs (n+1)) (n+1) b E M with
   |none=>rw[ha]at hn;cases hn
   |some y =>
    rw[ha]at hn;rw[zdL.2 ⟨n+1,ha⟩];obtain⟨ex,E',M'⟩:=y;cases ex with
    |normal=>exact zpD.2 ⟨n+1,z7B (fun _ _ _ h=>h) (kW n) hn⟩
    |exit i=>exact hn
    |ret=>exact hn
 ·cases ha:X L Cs b E M with
  |none=>rw[ha]at h;cases h
  |some y =>
   rw[ha]at h;obtain⟨n,hn⟩:=zdL.1 ha;obtain⟨ex,E',M'⟩:=y;cases ex with
   |normal =>
    obtain⟨m,hm⟩:=zpD.1 h;refine zpD.2 ⟨max n m+1,?_⟩;have h1:=zcR (zgu (L:=L) (Cs:=Cs) (show n<=max n m+1 by omega)) (show n<=max n m+1 by omega) hn;simp only[iter,h1];exact z7B (fun _ _ _ hr=>zcR (zgu (show m<=max n m+1 by omega)) (show m<=max n m+1 by omega) hr) (show m<=max n m by omega) hm
   |exit i =>
    refine zpD.2 ⟨n+1,?_⟩;simp only[iter,zcR (zgu (kW n)) (kW n) hn];exact h
   |ret =>
    refine zpD.2 ⟨n+1,?_⟩;simp only[iter,zcR (zgu (kW n)) (kW n) hn];exact h
theorem zNb(f:Opd)(vf:FuncId)(caps:List Nat)(E:Env)(M:Mem):X L Cs (.rng f vf caps) E M=match f.ev E.get with
  |some (.c (.fn g fi ca))=>match zx (R L Cs) ⟨true⟩ (.c (.fn g fi ca)) [.c (.yld M.length vf (zeN E caps).1)] (M++[some (ghost (zeN E caps).2)])with
   |some (_,M',_)=>match kL M' M.length with
    |some s=>match v9 s,vj M' M.length s (-1)with
     |some ex,some M2=>some (ex,E,M2)
     |_,_=>none
    |none=>none
   |none=>none
  |_=>none:=by
 refine zi0 fun x=>⟨fun h=>?_,fun h=>?_⟩
 ·obtain⟨n,hn⟩:=zdL.1 h;simp only[zaV]at hn;split at hn
  ·rename_i g fi ca h1;split at hn
   ·rename_i a M' fp h2;simp only[h1,ztf (zDi n) h2];exact hn
   ·cases hn
  ·cases hn
 ·split at h
  ·rename_i g fi ca h1;split at h
   ·rename_i a M' fp h2;obtain⟨n,hn⟩:=zAC h2;exact zdL.2 ⟨n,by simp only[zaV,h1,hn];exact h⟩
   ·cases h
  ·cases h
theorem zUa{f:FuncId}{fn:CFn}(hL:L.lookup f=some fn)(hr:fn.rnd=none)(args:List WV)(M:Mem):R L Cs f args M=if args.length=fn.nargs then
   match X L Cs fn.code (yf 0 args) M with
   |some (.normal,E,M') |some (.ret,E,M')=>match zpk E M' fn.res with
    |some r=>leave fn.frz M.length r M'
    |none=>none
   |_=>none
  else none:=by
 refine zi0 fun x=>⟨fun h=>?_,fun h=>?_⟩
 ·obtain⟨n,hn⟩:=zah.1 h;cases n with
  |zero=>simp[zaH,zfk]at hn
  |succ n =>
   simp only[zaH,zfk,hL,hr]at hn;split at hn
   ·rename_i hl;rw[if_pos hl];cases ha:zaV (zfk (fun f=>L.lookup f) (uN Cs) n) n fn.code (yf 0 args) M with
    |none=>rw[ha]at hn;cases hn
    |some y=>rw[ha]at hn;rw[zdL.2 ⟨n,ha⟩];exact hn
   ·cases hn
 ·split at h
  ·rename_i hl;cases ha:X L Cs fn.code (yf 0 args) M with
   |none=>rw[ha]at h;cases h
   |some y =>
    rw[ha]at h;obtain⟨n,hn⟩:=zdL.1 ha;refine zah.2 ⟨n+1,?_⟩;have hn:zaV (zfk (fun f=>L.lookup f) (uN Cs) n) n fn.code (yf 0 args) M=some y:=hn;simp only[zaH,zfk,hL,hr,if_pos hl,hn];exact h
  ·cases h
theorem zOg{f:FuncId}{fn:CFn}{ps:List Nat}{pre:CC}(hL:L.lookup f=some fn)(hr:fn.rnd=some (ps,pre)){id:Nat}{sh:List (Nat×Bool×Nat)}{as:List WV}{M M1 M2 M3 M4 M5:Mem}{cells:List Cl}{E0 E1 E3:Env}{ex:EX}{r:AV}
  (h1:as.length=ps.length) (h2:kL M id=some 0) (h3:zxb M id=some cells) (h4:A0 sh cells=some E0) (h5:X L Cs pre (zv3 ps as++E0) M=some (.normal,E1,M1)) (h6:vj M1 id 0 1=some M2)
  (h7:X L Cs fn.code E1 M2=some (ex,E3,M3)) (h8:vj M3 id 1 (zxZ ex)=some M4) (h9:finish M.length (.w (.c (.bool (ex==.normal)))) M4=some (r,M5)):R L Cs f (.c (.yld id f sh)::as) M=some (r,M5):=by
 obtain⟨n,hn⟩:=zdL.1 h5;obtain⟨m,hm⟩:=zdL.1 h7;refine zah.2 ⟨max n m+1,?_⟩;have e1:=zcR (zgu (L:=L) (Cs:=Cs) (uX n m)) (uX n m) hn;have e2:=zcR (zgu (L:=L) (Cs:=Cs) (uO n m)) (uO n m) hm;show zfk (fun f=>L.lookup f) (uN Cs) (max n m+1) f (.c (.yld id f sh)::as) M=_;simp only[zfk,hL,hr,zoC];rw[if_pos (by simp[h1,h2])];have e1:zaV (zfk (fun f=>L.lookup f) (uN Cs) (max n m)) (max n m) pre (zv3 ps as++E0) M=_:=e1;have e2:zaV (zfk (fun f=>L.lookup f) (uN Cs) (max n m)) (max n m) fn.code E1 M2=_:=e2;simp only[h3,h4,e1,h6,e2,h8,h9]
theorem zrP{f:FuncId}(hL:L.lookup f=none)(args:List WV)(M:Mem):R L Cs f args M=uN Cs f args M:=by
 refine zi0 fun x=>⟨fun h=>?_,fun h=>?_⟩
 ·obtain⟨n,hn⟩:=zah.1 h;cases n with
  |zero=>simp[zaH,zfk]at hn
  |succ n=>simpa only[zaH,zfk,hL]using hn
 ·exact zah.2 ⟨1,by simpa only[zaH,zfk,hL]using h⟩
end
abbrev I(n:Int):Cl:=.int .i64 n
abbrev W(n:Int):WV:=.c (.int .i64 n)
abbrev Bo(b:Bool):WV:=.c (.bool b)
theorem zTd(x:Int)(h:-9223372036854775808<=x)(h':x<=9223372036854775807):IntKind.i64.wrap x=x:=by
 simp[IntKind.wrap,IntKind.signed,IntKind.bits];omega
theorem qH(x:Int)(h:-9223372036854775808<=x:=by omega)(h':x<=9223372036854775807:=by omega):IntKind.i64.wrap x=x:=zTd x h h'
theorem holes0(M:Mem):M++qN 0=M:=by simp[qN]
theorem zvr(M:Mem)(n:Nat)(s:List Nat):collect M n [] s=s:=by cases n<;>rfl
theorem zug(M:Mem)(n id:Nat)(todo seen:List Nat):collect M (n+1) (id::todo) seen=if seen.contains id then collect M n todo seen else collect M n (zpw M id++todo) (seen++[id]):=rfl
theorem zz1(a b:Int):zyw true a b=max a b:=by simp only[zyw,if_true];split<;>omega
theorem zz0(a b:Int):zyw false a b=min a b:=by simp only[zyw,jH,if_false];split<;>omega
theorem zy3{i n:Nat}(h:i<n):zmk (i:Int) n=some i:=by
 unfold zmk;rw[if_pos (by omega)];simp
abbrev own(es:Nat)(l:List (List Cl)):Blk:={ box:=false,esz:=es,rows:=l,gen:=l.length,fz:=false,ver:=l.length }
abbrev sl(id es:Nat)(l:List (List Cl)):Cl:=.slice id l.length es 0 l.length none
section
variable[GlobP]{L:List (Nat×CFn)}{Cs:List (Nat×Nat×Nat×Bool)}
theorem zhJ{b:CC}{live:Option (List Nat)}{n0:Nat}{E:Env}{M:Mem}{r:EX×Env×Mem}(h:X L Cs b E M=some r)(hn:r.1≠.normal):Y L Cs b live n0 E M=some r:=by
 rw[zrL,h];obtain⟨ex,E',M'⟩:=r;cases ex with
 |normal=>exact absurd rfl hn
 |exit i=>rfl
 |ret=>rfl
theorem zP2{b:CC}{live:Option (List Nat)}{n0:Nat}{E E':Env}{M M':Mem}{s:Env×Mem}(h:X L Cs b E M=some (.normal,E',M'))(hc:canon n0 live E' M'=s):Y L Cs b live n0 E M=Y L Cs b live n0 s.1 s.2:=by
 rw[zrL,h,<-hc]
end
def eqL{α:Type}(f:α->α->Bool):List α->List α->Bool
 |[],[]=>true
 |x::xs,y::ys=>match eqL f xs ys with
  |true=>f x y
  |false=>false
 |_,_=>false
def zDB:Int->Int->Bool
 |.ofNat a,.ofNat b=>Nat.beq a b
 |.negSucc a,.negSucc b=>Nat.beq a b
 |_,_=>false
def zDy(a b:Bool):Bool:=match a,b with
 |true,true=>true
 |false,false=>true
 |_,_=>false
def zDz:Option Nat->Option Nat->Bool
 |none,none=>true
 |some a,some b=>Nat.beq a b
 |_,_=>false
def shE(a b:Nat×Bool×Nat):Bool:=Nat.beq a.1 b.1&&(zDy a.2.1 b.2.1&&Nat.beq a.2.2 b.2.2)
def clE:Nat->Cl->Cl->Bool
 |0,_,_=>false
 |n+1,.bool a,.bool b=>zDy a b
 |n+1,.int k a,.int k' b=>(zDB a b)&&decide (k=k')
 |n+1,.str a,.str b=>decide (a.data.toList=b.data.toList)
 |n+1,.ptr a b c d,.ptr a' b' c' d'=>Nat.beq a a'&&(Nat.beq b b'&&(Nat.beq c c'&&Nat.beq d d'))
 |n+1,.uZ r k,.uZ r' k'=>Nat.beq k k'&&eqL (clE n) r r'
 |n+1,.qc,.qc=>true
 |n+1,.slice a b c d e f,.slice a' b' c' d' e' f'=>Nat.beq a a'&&(Nat.beq b b'&&(Nat.beq c c'&&(Nat.beq d d'&&(Nat.beq e e'&&zDz f f'))))
 |n+1,.jc a,.jc b=>eqL (eqL (clE n)) a b
 |n+1,.jb,.jb=>true
 |n+1,.fn f a b,.fn f' a' b'=>Nat.beq f f'&&(eqL (clE n) a a'&&eqL (clE n) b b')
 |n+1,.ul,.ul=>true
 |n+1,.iface t a b,.iface t' a' b'=>Nat.beq t t'&&(zDy a a'&&eqL (clE n) b b')
 |n+1,.qC,.qC=>true
 |n+1,.yld a b c,.yld a' b' c'=>Nat.beq a a'&&(Nat.beq b b'&&eqL shE c c')
 |n+1,.qX,.qX=>true
 |n+1,.map a g,.map a' g'=>Nat.beq a a'&&zDy g g'
 |n+1,.mit a,.mit a'=>Nat.beq a a'
 |n+1,.bsl a b c d e f g,.bsl a' b' c' d' e' f' g'=>Nat.beq a a'&&(Nat.beq b b'&&(Nat.beq c c'&&(Nat.beq d d'&&(Nat.beq e e'&&(Nat.beq f f'&&Nat.beq g g')))))
 |_,_,_=>false
def wvE:WV->WV->Bool
 |.c x,.c y=>clE 12 x y
 |.a x,.a y=>eqL (clE 12) x y
 |_,_=>false
def zDC:Option Blk->Option Blk->Bool
 |none,none=>true
 |some a,some b=>zDy a.box b.box&&(Nat.beq a.esz b.esz&&(Nat.beq a.gen b.gen&&(zDy a.fz b.fz&&(Nat.beq a.ver b.ver&&eqL (eqL (clE 12)) a.rows b.rows))))
 |_,_=>false
def zDA(M N:Mem):Bool:=eqL zDC M N
theorem zMe(r:AV)(M:Mem):finish M.length r M=some (r,M):=by simp[finish]
attribute [simp] zvr yf zCK zCN zDo zAM zDn zCO zBU zCM zks zbm opF Opd.av Opd.ev Env.put Env.get zBR zCG zhN holes0 Env.kept Env.v8 zpk zlQ zoD finish leave
 AV.below WV.below Eng.below AJ zH Blk.below zke evs zoU zz1 zz0 unC zx zcG callee zl2 zku ziU zpM zeS zfe qL An znn zhj zez zck yB back zgx
 WV.ids WV.cells AV.ids zBH Ds zd3 zpw Blk.ids zg qN zdZ zhT storeAt zfJ Eng.look Eng.cut Bh zaI zt9 zyi FP.apart FP.Au FP.old FP.isNo zt5 zmk zdR yT zn7 zla zoS WV.sls AV.sls slC zcl
 zdv zt8 zdS zcf zbg zfj zug zcB zeF roomy canon qz whole ztI WV.plain AV.plain zBL zBB sl own zus znj sliceB zcy zgN zxn zue zbM zi2 ztH zCC zoY ziB B4
abbrev o1(i d:Nat)(x:CO):zaG:=⟨i,some d,none,x⟩
abbrev o0(i:Nat)(x:CO):zaG:=⟨i,none,none,x⟩
abbrev mS(i d n:Nat):zaG:=⟨i,some d,none,.mv (.s n)⟩
abbrev kI(n:Int):Opd:=.k (.c (.int .i64 n))
abbrev kB(b:Bool):Opd:=.k (.c (.bool b))
abbrev rG(n:Nat)(ops:List zaG)(k:List Nat):CC:=.region n ops [] (some k)
abbrev sQ(a b:CC):CC:=.seq a b
attribute [simp] o1 o0 mS kI kB rG sQ
inductive Ins where
 |m (n:Nat)
 |q (d n:Nat)
 |p (d n:Nat)
 |v (n:Int)
 |l (n:Nat)
 |t (k n:Nat)
 |f (k n:Nat)
 |fl (k n:Nat)
 |c (f:Nat) (xs:List Nat)
 |d (f:Nat) (xs:List Opd)
 |a (e x y:Nat)
 |aa (e x y:Nat)
 |ai (e x:Nat) (n:Int)
 |nn (x:Nat)
 |n (x:Nat)
 |e (t k:Nat)
 |b (o:BinOp) (x y:Nat)
 |bb (o:BinOp) (x y:Nat)
 |bn (o:BinOp) (x y:Nat)
 |i (o:BinOp) (x:Nat) (n:Int)
 |ii (o:BinOp) (x:Nat) (n:Int)
 |k (o:BinOp) (x:Nat) (n:Int)
 |inc (x:Nat)
 |u (x:Nat)
 |y (x y:Nat)
 |r (x y:Nat)
 |x (d k e n:Nat)
 |w (k x y:Nat)
 |o (x:CO)
 |od (d:Nat) (x:CO)
 |z (x:CO)
 |j (i d:Nat)
 |g (x:Nat) (b:Bool)
 |h
@[simp] def asm:Nat->Nat->Option (Nat×Bool)->List Ins->List zaG
  |_,_,_,[]=>[]
  |i,d,g,.m n::r=>⟨i,some d,g,.mv (.s n)⟩::asm (i+1) (d+1) g r
  |i,d,g,.q k n::r=>⟨i,some k,g,.mv (.s n)⟩::asm (i+1) d g r
  |i,d,g,.p k n::r=>⟨i,some d,g,.mv (.s n)⟩::⟨i+1,some k,g,.mv (.s d)⟩::asm (i+2) (d+1) g r
  |i,d,g,.v n::r=>⟨i,some d,g,.mv (.k (.c (.int .i64 n)))⟩::asm (i+1) (d+1) g r
  |i,d,g,.l n::r=>⟨i,some d,g,.load false 1 (.s n)⟩::asm (i+1) (d+1) g r
  |i,d,g,.t k n::r=>⟨i,some d,g,.load true k (.s n)⟩::asm (i+1) (d+1) g r
  |i,d,g,.f k n::r=>⟨i,some d,g,.B0 k (.s n)⟩::asm (i+1) (d+1) g r
  |i,d,g,.fl k n::r=>⟨i,some d,g,.B0 k (.s n)⟩::⟨i+1,some (d+1),g,.load false 1 (.s d)⟩::asm (i+2) (d+2) g r
  |i,d,g,.c f xs::r=>⟨i,some d,g,.call ⟨true⟩ (.k (.c (.fn f [] []))) (xs.map .s)⟩::asm (i+1) (d+1) g r
  |i,d,g,.d f xs::r=>⟨i,some d,g,.call ⟨true⟩ (.k (.c (.fn f [] []))) xs⟩::asm (i+1) (d+1) g r
  |i,d,g,.a e x y::r=>⟨i,some d,g,.BC e (.s x) (.s y)⟩::asm (i+1) (d+1) g r
  |i,d,g,.aa e x y::r=>⟨i,some d,g,.mv (.s x)⟩::⟨i+1,some (d+1),g,.mv (.s y)⟩::⟨i+2,some (d+2),g,.BC e (.s d) (.s (d+1))⟩::asm (i+3) (d+3) g r
  |i,d,g,.ai e x n::r=>⟨i,some d,g,.BC e (.s x) (.k (.c (.int .i64 n)))⟩::asm (i+1) (d+1) g r
  |i,d,g,.nn x::r=>⟨i,some d,g,.mv (.s x)⟩::⟨i+1,some (d+1),g,.len (.s d)⟩::asm (i+2) (d+2) g r
  |i,d,g,.n x::r=>⟨i,some d,g,.len (.s x)⟩::asm (i+1) (d+1) g r
  |i,d,g,.e t k::r=>⟨i,some d,g,.extract t k⟩::asm (i+1) (d+1) g r
  |i,d,g,.b o x y::r=>⟨i,some d,g,.bin o (.s x) (.s y)⟩::asm (i+1) (d+1) g r
  |i,d,g,.bb o x y::r=>⟨i,some d,g,.mv (.s x)⟩::⟨i+1,some (d+1),g,.mv (.s y)⟩::⟨i+2,some (d+2),g,.bin o (.s d) (.s (d+1))⟩::asm (i+3) (d+3) g r
  |i,d,g,.bn o x y::r=>⟨i,some d,g,.mv (.s x)⟩::⟨i+1,some (d+1),g,.mv (.s y)⟩::⟨i+2,some (d+2),g,.len (.s (d+1))⟩::⟨i+3,some (d+3),g,.bin o (.s d) (.s (d+2))⟩::asm (i+4) (d+4) g r
  |i,d,g,.i o x n::r=>⟨i,some d,g,.bin o (.s x) (.k (.c (.int .i64 n)))⟩::asm (i+1) (d+1) g r
  |i,d,g,.ii o x n::r=>⟨i,some d,g,.mv (.s x)⟩::⟨i+1,some (d+1),g,.bin o (.s d) (.k (.c (.int .i64 n)))⟩::asm (i+2) (d+2) g r
  |i,d,g,.k o x n::r=>⟨i,some d,g,.mv (.s x)⟩::⟨i+1,some (d+1),g,.len (.s d)⟩::⟨i+2,some (d+2),g,.bin o (.s (d+1)) (.k (.c (.int .i64 n)))⟩::asm (i+3) (d+3) g r
  |i,d,g,.inc x::r=>⟨i,some d,g,.mv (.s x)⟩::⟨i+1,some (d+1),g,.bin .add (.s d) (.k (.c (.int .i64 1)))⟩::⟨i+2,some x,g,.mv (.s (d+1))⟩::asm (i+3) (d+2) g r
  |i,d,g,.u x::r=>⟨i,some d,g,.un .not (.s x)⟩::asm (i+1) (d+1) g r
  |i,d,g,.y x y::r=>⟨i,some d,g,.pick (.s x) (.s y) (.k (.c (.bool false)))⟩::asm (i+1) (d+1) g r
  |i,d,g,.r x y::r=>⟨i,some d,g,.pick (.s x) (.k (.c (.bool true))) (.s y)⟩::asm (i+1) (d+1) g r
  |i,d,g,.x k s e n::r=>⟨i,some k,g,.box s e (.s n)⟩::asm (i+1) d g r
  |i,d,g,.w k x y::r=>⟨i,none,g,.store k (.s x) (.s y)⟩::asm (i+1) d g r
  |i,d,g,.o x::r=>⟨i,some d,g,x⟩::asm (i+1) (d+1) g r
  |i,d,g,.od k x::r=>⟨i,some k,g,x⟩::asm (i+1) d g r
  |i,d,g,.z x::r=>⟨i,none,g,x⟩::asm (i+1) d g r
  |_,_,g,.j i d::r=>asm i d g r
  |i,d,_,.g x b::r=>asm i d (some (x,b)) r
  |i,d,_,.h::r=>asm i d none r
abbrev rH(n d:Nat)(ops:List Ins)(k:List Nat):CC:=.region n (asm 0 d none ops) [] (some k)
abbrev rP(n d:Nat)(ops:List Ins)(ps:List (Nat×Nat))(k:List Nat):CC:=.region n (asm 0 d none ops) ps (some k)
abbrev fN(n t:Nat)(r:List RC)(c:CC):CFn:={ frz:=true,rnd:=none,nargs:=n,ntmps:=t,res:=r,code:=c }
abbrev fF(z:Bool)(v:Option (List Nat×CC))(n t:Nat)(r:List RC)(c:CC):CFn:={ frz:=z,rnd:=v,nargs:=n,ntmps:=t,res:=r,code:=c }
abbrev cD(n:Nat)(a b:CC):CC:=.cond (.s n) a b
attribute [simp] rH rP fN fF cD
inductive Sh where
 |int (k:IntKind)
 |bool
 |str
 |slice (s:Sh)
 |st (l:List Sh)
 deriving Inhabited
mutual
def Sh.n:Sh->Nat
 |.int _ |.bool |.str |.slice _=>1
 |.st l=>Sh.ns l
def Sh.ns:List Sh->Nat
 |[]=>0
 |s::l=>s.n+Sh.ns l
end
mutual
def zfo:Sh->List Cl->Prop
 |.int k,cs=>∃n,cs=[.int k n]/\k.min<=n/\n<=k.max
 |.bool,cs=>∃b,cs=[.bool b]
 |.str,cs=>∃s,cs=[.str s]/\s.size<=maxLen
 |.slice s,cs=>∃rows,cs=[.jc rows]/\rows.length<=maxLen/\∀r∈rows,zfo s r
 |.st l,cs=>znD l cs
def znD:List Sh->List Cl->Prop
 |[],cs=>cs=[]
 |s::l,cs=>∃c d,cs=c++d/\zfo s c/\znD l d
end
def zl5(P:Program)(f:TypeId->Option Sh):List Field->Nat->Option (List Sh)
 |[],_=>some []
 |x::xs,off=>match f x.type with
  |some s=>if x.offset=off/\P.cellsOf x.type=s.n then(zl5 P f xs (off+s.n)).map (s :: ·) else none
  |none=>none
def zey(P:Program):Nat->TypeId->Option Sh
 |0,_=>none
 |d+1,t=>match P.underlying t with
  |some (.int k)=>some (.int k)
  |some .bool=>some .bool
  |some .string=>some .str
  |some (.slice e)=>match zey P d e with
   |some s=>if P.cellsOf e=s.n/\0<s.n then some (.slice s) else none
   |none=>none
  |some (.struct fs)=>match zl5 P (zey P d) fs.toList 0 with
   |some l=>if P.cellsOf t=Sh.ns l then some (.st l) else none
   |none=>none
  |some (.array n e)=>match zey P d e with
   |some s=>if P.cellsOf e=s.n/\P.cellsOf t=n*s.n then some (.st (List.replicate n s)) else none
   |none=>none
  |_=>none
def zlM(P:Program)(d:Nat):List TypeId->Option (List Sh)
 |[]=>some []
 |t::ts=>match zey P d t,zlM P d ts with
  |some s,some l=>some (s::l)
  |_,_=>none
section
variable{H:Type}{enc:TypeId×Value->H}{P:Program}{W:World}{spare:Nat->Bool}{held:Bool}
def zcC(W:World):zP:=fun b o=>W.cell? ⟨b,o,none⟩
theorem zml [zb0](hG:GK (zcC W)):zM (zcC W) W:=⟨fun _ _ _ h=>h,hG⟩
theorem zqT{β:Type}{f:Nat->Option β}{n:Nat}{ys:List β}(h:(List.range n).mapM f=some ys):ys.length=n/\∀i,i<n->∃y,ys[i]?=some y/\f i=some y:=by
 have hl:ys.length=n:=by simpa using mapM_some_length h
 refine⟨hl,fun i hi=>?_⟩;have key:∀(l:List Nat) (ys:List β),l.mapM f=some ys->∀(k x:Nat),l[k]?=some x->∃y,ys[k]?=some y/\f x=some y:=by
  intro l;induction l with
  |nil=>intro ys h k x hk;simp at hk
  |cons a l ih =>
   intro ys h k x hk;rw[Ab]at h;cases ha:f a with
   |none=>rw[ha]at h;simp at h
   |some b =>
    rw[ha]at h;cases hr:l.mapM f with
    |none=>rw[hr]at h;simp at h
    |some bs =>
     rw[hr]at h;simp at h;subst h;cases k with
     |zero=>simp at hk;subst hk;exact⟨b,rfl,ha⟩
     |succ k=>simpa using ih bs hr k x (by simpa using hk)
 exact key _ _ h i i (by simp[hi])
theorem zrv{a:Addr}{n:Nat}{cs:List Value}(h:W.cells? 0 a n=some cs):cs.length=n/\∀i,i<n->∃v,cs[i]?=some v/\W.cell? (a.add i)=some v:=by
 unfold World.cells? at h;rw[if_pos (ju _)]at h;exact zqT h
theorem zxa{a:Addr}{v:Value}(h:W.cell? a=some v):a.spot=none:=by
 unfold World.cell? at h;split at h
 ·cases hs:a.spot with
  |none=>rfl
  |some s=>rw[hs]at h;simp at h
 ·cases h
theorem zpb{d:Nat}{n:Nat}(ih:∀{t:TypeId} {cs:List Value} {x:DataW H×List MemPlace} {s:Sh},DataW.trod enc P W 0 spare held n t cs=some x->zey P d t=some s->∃cl,VCs (zcC W) zb1 cl cs/\zfo s cl) :
  ∀{fs:List Field} {off:Nat} {l:List Sh} {cs:List Value} {xs:List (DataW H×List MemPlace)},zl5 P (zey P d) fs off=some l->(fs.mapM fun f=>DataW.trod enc P W 0 spare held n f.type ((cs.drop f.offset).take (P.cellsOf f.type)))=some xs->cs.length=off+Sh.ns l ->
   ∃cl,VCs (zcC W) zb1 cl (cs.drop off)/\znD l cl
 |[],off,l,cs,xs,hf,hx,hl=>by
  simp only[zl5,jg]at hf;subst hf;simp only[Sh.ns,um]at hl;exact⟨[],by rw[ur (by omega)];exact VCs.nil,rfl⟩
 |f::fs,off,l,cs,xs,hf,hx,hl=>by
  simp only[zl5]at hf;split at hf
  ·rename_i s hs;split at hf
   ·rename_i hc;obtain⟨Dv,yC⟩:=hc;simp only[ja]at hf;obtain⟨l',hl',rfl⟩:=hf;rw[Ab]at hx;simp only[Sh.ns]at hl;cases h1:DataW.trod enc P W 0 spare held n f.type ((cs.drop f.offset).take (P.cellsOf f.type))with
    |none=>rw[h1]at hx;simp at hx
    |some y =>
     rw[h1]at hx;cases h2:(fs.mapM fun f=>DataW.trod enc P W 0 spare held n f.type ((cs.drop f.offset).take (P.cellsOf f.type)))with
     |none=>rw[h2]at hx;simp at hx
     |some ys =>
      obtain⟨c1,hv1,hs1⟩:=ih h1 hs;obtain⟨c2,hv2,hs2⟩:=zpb ih hl' h2 (by omega);refine⟨c1++c2,?_,c1,c2,rfl,hs1,hs2⟩;have e:cs.drop off=(cs.drop off).take s.n++cs.drop (off+s.n):=by rw[<-yv,j7]
      rw[e];rw[Dv,yC]at hv1;exact hv1.append hv2
   ·cases hf
  ·cases hf
theorem zsB{d:Nat}{n:Nat}{e:TypeId}{s:Sh}(ih:∀{t:TypeId} {cs:List Value} {x:DataW H×List MemPlace} {s:Sh},DataW.trod enc P W 0 spare held n t cs=some x->zey P d t=some s->∃cl,VCs (zcC W) zb1 cl cs/\zfo s cl)(hs:zey P d e=some s) :
  ∀{m k:Nat} {cs:List Value},(∀i,i<m->∃x,DataW.trod enc P W 0 spare held n e ((cs.drop ((k+i)*s.n)).take s.n)=some x)->cs.length=(k+m)*s.n->∃cl,VCs (zcC W) zb1 cl (cs.drop (k*s.n))/\znD (List.replicate m s) cl
 |0,k,cs,h,hl=>⟨[],by rw[ur (by simp at hl;omega)];exact VCs.nil,rfl⟩
 |m+1,k,cs,h,hl=>by
  obtain⟨x,hx⟩:=h 0 (by omega);obtain⟨c1,hv1,hs1⟩:=ih hx hs;obtain⟨c2,hv2,hs2⟩:=zsB ih hs (m:=m) (k:=k+1) (cs:=cs) (fun i hi=>by
   obtain⟨y,hy⟩:=h (i+1) (by omega);exact⟨y,by rw[show k+1+i=k+(i+1) by omega];exact hy⟩) (by rw[hl];congr 1;omega)
  refine⟨c1++c2,?_,c1,c2,rfl,hs1,hs2⟩;have e:cs.drop (k*s.n)=(cs.drop (k*s.n)).take s.n++cs.drop ((k+1)*s.n):=by
   rw[qn,<-yv,j7]
  rw[e];exact(by simpa using hv1:VCs (zcC W) zb1 c1 ((cs.drop (k*s.n)).take s.n)).append hv2
theorem zx4{a:Addr}{len cap sz:Nat}{Q:List Cl->Prop}(uy:0<sz)(hl:len<=cap)(h:∀i,i<len->∃cs cl,W.cells? 0 (a.add (i*sz)) sz=some cs/\VCs (zcC W) zb1 cl cs/\Q cl) :
  ∃rows:List (List Cl),rows.length=len/\(∀r∈rows,Q r)/\VC (zcC W) zb1 (.jc rows) (.slice (some a) len cap):=by
 have hch:∃f:Nat->List Value×List Cl,∀i,i<len->W.cells? 0 (a.add (i*sz)) sz=some (f i).1/\VCs (zcC W) zb1 (f i).2 (f i).1/\Q (f i).2:=by
  refine⟨fun i=>if hi:i<len then((h i hi).choose,(h i hi).choose_spec.choose) else([],[]),fun i hi=>?_⟩;simp only[hi,dif_pos];exact(h i hi).choose_spec.choose_spec
 obtain⟨f,hf⟩:=hch;have hlen:∀i,i<len->(f i).1.length=sz/\(f i).2.length=sz:=fun i hi=>by
  have h1:=(zrv (hf i hi).1).1;exact⟨h1,by rw[(hf i hi).2.1.1,h1]⟩
 have DU:∀i,i<len->∀n,n<sz->∃v,(f i).1[n]?=some v/\W.cell? ((a.add (i*sz)).add n)=some v:=fun i hi n hn=>(zrv (hf i hi).1).2 n hn
 have hsp:len=0\/∃b o,a=⟨b,o,none⟩:=by
  rcases yZ len with h0|h0
  ·exact Or.inl h0
  ·obtain⟨v,_,hv⟩:=DU 0 h0 0 uy;have:=zxa hv;obtain⟨b,o,s⟩:=a;have:s=none:=by simpa [Addr.add]using this
   exact Or.inr ⟨b,o,by rw[this]⟩
 refine⟨(List.range len).map fun i=>(f i).2,by simp,?_,?_⟩
 ·intro r hr;obtain⟨i,hi,rfl⟩:=jW.1 hr;exact(hf i (by simpa using hi)).2.2
 ·have qg:∀(i:Nat) (row:List Cl),((List.range len).map fun i=>(f i).2)[i]?=some row->i<len/\row=(f i).2:=fun i row hi=>by
   simp only[kY,ja]at hi;obtain⟨k,hk,rfl⟩:=hi;obtain⟨h1,h2⟩:=kr.1 hk;simp at h1 h2;subst h2;exact⟨h1,rfl⟩
  have hv:=VC.jc (σ:=zcC W) zb1 sz ((List.range len).map fun i=>(f i).2) (some a) cap a.block a.off (fun i n=>((f i).1[n]?).getD undef) (by simpa using hl) ?_ ?_ ?_ ?_
  ·simpa using hv
  ·rcases hsp with h0 |⟨b,o,rfl⟩
   ·exact Or.inl (by subst h0;rfl)
   ·exact Or.inr rfl
  ·intro row hr;obtain⟨i,hi,rfl⟩:=jW.1 hr;exact(hlen i (by simpa using hi)).2
  ·intro i row n cl hi hn;obtain⟨hil,rfl⟩:=qg i row hi;have hns:n<sz:=by have:=(kr.1 hn).1;rw[(hlen i hil).2]at this;exact this
   obtain⟨v,h1,h2⟩:=DU i hil n hns;rw[h1];rcases hsp with h0 |⟨b,o,rfl⟩
   ·omega
   ·show W.cell? ⟨b,o+i*sz+n,none⟩=some v;rw[<-h2];by_cases e1:i*sz=0<;>by_cases e2:n=0<;>simp[Addr.add,e1,e2]
  ·intro i row n cl hi hn;obtain⟨hil,rfl⟩:=qg i row hi;have hns:n<sz:=by have:=(kr.1 hn).1;rw[(hlen i hil).2]at this;exact this
   obtain⟨v,h1,_⟩:=DU i hil n hns;rw[h1];exact(hf i hil).2.1.2 n cl v hn h1
theorem zxm:∀{n d:Nat} {t:TypeId} {cs:List Value} {x:DataW H×List MemPlace} {s:Sh},DataW.trod enc P W 0 spare held n t cs=some x->zey P d t=some s->∃cl,VCs (zcC W) zb1 cl cs/\zfo s cl
 |0,d,t,cs,x,s,h,hs=>by simp[DataW.trod]at h
 |n+1,0,t,cs,x,s,h,hs=>by simp[zey]at hs
 |n+1,d+1,t,cs,x,s,h,hs=>by
  have ih:∀{t:TypeId} {cs:List Value} {x:DataW H×List MemPlace} {s:Sh},DataW.trod enc P W 0 spare held n t cs=some x->zey P d t=some s->∃cl,VCs (zcC W) zb1 cl cs/\zfo s cl:=fun h hs=>zxm h hs
  simp only[zey]at hs;split at hs
  ·rename_i k hu;cases hs;obtain⟨m,rfl,_,hw⟩:=DataW.trod_int hu h;simp only[Lit.wf,jk,decide_eq_true_eq]at hw;exact⟨[.int k m],VCs.cons (.int _ _ _) VCs.nil,m,rfl,hw⟩
  ·rename_i hu;cases hs;obtain⟨b,rfl,_⟩:=DataW.trod_bool hu h;exact⟨[.bool b],VCs.cons (.bool _ _) VCs.nil,b,rfl⟩
  ·rename_i hu;cases hs;obtain⟨b,rfl,_,hb⟩:=DataW.trod_string hu h;exact⟨[.str b],VCs.cons (.str _ _) VCs.nil,b,rfl,hb⟩
  ·rename_i e hu;split at hs
   ·rename_i s' hse;split at hs
    ·rename_i hc;obtain⟨yC,uy⟩:=hc;cases hs;rcases DataW.trod_slice hu h with⟨rfl,_⟩ |⟨a,len,cap,elems,rest,m,hm,rfl,_,_,hl,Al,hel,hx,_,_⟩
     ·exact⟨[.jc []],VCs.cons (.jc _ s'.n [] none 0 0 0 (fun _ _=>undef) (jm _) (Or.inl rfl) (fun _ h=>by simp at h) (fun _ _ _ _ h=>by simp at h) (fun _ _ _ _ h=>by simp at h)) VCs.nil,[],rfl,ju _,fun _ h=>by simp at h⟩
     ·obtain rfl:n=m:=by omega
      rw[yC]at hx;obtain⟨rows,h1,h2,h3⟩:=zx4 (W:=W) (a:=a) (Q:=zfo s') uy hl (fun i hi=>by
       have h4:=hx i hi;rw[jr (by omega)]at h4;obtain⟨cs',h5,h6⟩:=Option.bind_eq_some_iff.1 h4;obtain⟨cl,h7,h8⟩:=ih h6 hse;exact⟨cs',cl,h5,h7,h8⟩)
      exact⟨[.jc rows],VCs.cons h3 VCs.nil,rows,rfl,by omega,h2⟩
    ·cases hs
   ·cases hs
  ·rename_i fs hu;split at hs
   ·rename_i l hf;split at hs
    ·rename_i hc;cases hs;simp only[DataW.trod,hu]at h;split at h
     ·rename_i hl;obtain⟨xs,h1,_⟩:=ja.1 h;obtain⟨cl,h2,h3⟩:=zpb ih hf h1 (by rw[hl,hc];simp);exact⟨cl,by simpa using h2,h3⟩
     ·cases h
    ·cases hs
   ·cases hs
  ·rename_i m e hu;split at hs
   ·rename_i s' hse;split at hs
    ·rename_i hc;cases hs;obtain⟨hce,hct⟩:=hc;obtain⟨xs,k,hk,_,hl,hxs,hx⟩:=DataW.trod_array hu h;obtain rfl:n=k:=by omega
     rw[hce]at hx;obtain⟨cl,h2,h3⟩:=zsB (k:=0) (m:=m) ih hse (fun i hi=>by
      have:=hx i hi;rw[jr (by omega)]at this;exact⟨_,by simpa using this⟩) (by rw[hl,hct];simp)
     exact⟨cl,by simpa using h2,h3⟩
    ·cases hs
   ·cases hs
  ·cases hs
def zAK:Sh->List Cl->WV
 |.st _,cs=>.a cs
 |_,[x]=>.c x
 |_,cs=>.a cs
def zot:List Sh->List WV->Prop
 |[],xs=>xs=[]
 |s::l,xs=>∃cl ys,xs=zAK s cl::ys/\zfo s cl/\zot l ys
theorem zCH{d:Nat}{t:TypeId}{v:Value}{dt:DataW H}{ps:List MemPlace}{s:Sh}{r:Reach}{base:Nat}(hs:zey P d t=some s)(h:DataW.Trod enc P W 0 spare held t v dt ps)(hok:Value.okWide P W r base t v) :
  ∃cl,WVR (zcC W) zb1 (zAK s cl) v/\zfo s cl:=by
 obtain⟨n,hn⟩:=h;obtain⟨cl,h1,h2⟩:=zxm hn hs;refine⟨cl,?_,h2⟩;cases d with
 |zero=>simp[zey]at hs
 |succ d =>
  simp only[zey]at hs;have single:∀x,cl=[x]->(∀a,v≠.agg a)->(∀a,v≠.tuple a)->WVR (zcC W) zb1 (.c x) v:=by
   intro x hx ha ht;subst hx;obtain⟨u,us,h3,h4,h5⟩:=h1.kU;have h5:=h5.yc;subst h5;have:v.cells = #[v]:=by
    cases v<;>first |rfl |exact absurd rfl (ha _) |exact absurd rfl (ht _)
   rw[this]at h3;simp at h3;subst h3;exact h4
  split at hs
  ·rename_i k hu;cases hs;simp only[zfo]at h2;obtain⟨m,rfl,_⟩:=h2;exact single _ rfl (fun a ha=>by subst ha;simp[Value.okWide,Cell.okWide,Cell.ok,hu]at hok) (fun a ha=>by subst ha;simp[Value.okWide,Cell.okWide,Cell.ok,hu]at hok)
  ·rename_i hu;cases hs;simp only[zfo]at h2;obtain⟨m,rfl⟩:=h2;exact single _ rfl (fun a ha=>by subst ha;simp[Value.okWide,Cell.okWide,Cell.ok,hu]at hok) (fun a ha=>by subst ha;simp[Value.okWide,Cell.okWide,Cell.ok,hu]at hok)
  ·rename_i hu;cases hs;simp only[zfo]at h2;obtain⟨m,rfl,_⟩:=h2;exact single _ rfl (fun a ha=>by subst ha;simp[Value.okWide,Cell.okWide,Cell.ok,hu]at hok) (fun a ha=>by subst ha;simp[Value.okWide,Cell.okWide,Cell.ok,hu]at hok)
  ·rename_i e hu;split at hs
   ·split at hs
    ·cases hs;simp only[zfo]at h2;obtain⟨m,rfl,_⟩:=h2;exact single _ rfl (fun a ha=>by subst ha;simp[Value.okWide,Cell.okWide,Cell.ok,hu]at hok) (fun a ha=>by subst ha;simp[Value.okWide,Cell.okWide,Cell.ok,hu]at hok)
    ·cases hs
   ·cases hs
  ·rename_i fs hu;split at hs
   ·split at hs
    ·cases hs;simp only[Value.okWide,hu]at hok;obtain⟨cs,rfl,_⟩:=hok;exact⟨cs,rfl,h1⟩
    ·cases hs
   ·cases hs
  ·rename_i m e hu;split at hs
   ·split at hs
    ·cases hs;simp only[Value.okWide,hu]at hok;obtain⟨cs,rfl,_⟩:=hok;exact⟨cs,rfl,h1⟩
    ·cases hs
   ·cases hs
  ·cases hs
theorem zxL{d:Nat}{r:Reach}{base:Nat}:∀{ts:List TypeId} {l:List Sh} {vs:List Value} {ds:List (DataW H)} {ps:List MemPlace},zlM P d ts=some l->DataW.TrodAll enc P W 0 spare held ts vs ds ps ->
  (∀(j:Nat) t v,ts[j]?=some t->vs[j]?=some v->Value.okWide P W r base t v)->∃xs,zac (zcC W) zb1 xs vs/\zot l xs
 |[],l,[],[],ps,hs,h,hv=>by
  simp only[zlM,jg]at hs;subst hs;exact⟨[],zac.nil,rfl⟩
 |t::ts,l,v::vs,d::ds,ps,hs,h,hv=>by
  obtain⟨p,q,h1,h2,_⟩:=h;simp only[zlM]at hs;split at hs
  ·rename_i s l' h3 h4;cases hs;obtain⟨cl,h5,h6⟩:=zCH h3 h1 (hv 0 t v rfl rfl);obtain⟨xs,h7,h8⟩:=zxL h4 h2 (fun j t v ht hv'=>hv (j+1) t v (by simpa using ht) (by simpa using hv'));exact⟨zAK s cl::xs,zac.cons h5 h7,cl,xs,rfl,h6,h8⟩
  ·cases hs
end
open Go Go.ChangeShapes
section
variable[zb0]
theorem zsd{P:Program}{cf:za4}(hcf:FnS P cf){f:FuncId}(hf:f<zb0.base){args:List WV}{vs:Array Value}{w:World}{σ:zP}{j:Inj}{M M':Mem}(h:cf f args M=some (.w (.c (.bool true)),M'))(vK:Mem.full M)
  (hag:zM σ w) (hm:MR (fun b=>w.heap.size<=b) σ j M w) (hvs:zac σ j args vs.toList) :
  Calls P f vs w fun e w'=>e=.returned (.bool true)/\zd9 w w'/\∀i,i<w.heap.size->w'.heap[i]?=w.heap[i]?:=by
 obtain⟨_,_,_,_,hc⟩:=(hcf f args M _ _ h vK).1 hf;refine Calls.yO (hc (fun b=>w.heap.size<=b) σ j w vs (fun _ h=>h) hag hm hvs) ?_;rintro e w' ⟨v,σ',j',rfl,hr,_,_,hst⟩;have hr:VC σ' j' (.bool true) v:=hr;cases hr;exact⟨rfl,hst.side,fun i hi=>hst.frame i hi (by omega)⟩
end
section
variable{H:Type}{enc:TypeId×Value->H}{P:Program}
theorem zwm{w w':World}(h:∀i,i<w.heap.size->w'.heap[i]?=w.heap[i]?){p:MemPlace}(hp:p.block<w.heap.size):w.sameAt w' p:=by
 cases p with
 |cell b off =>
  have e:=h b hp;show w'.cell? ⟨b,off,none⟩=w.cell? ⟨b,off,none⟩;unfold World.cell?;rw[e]
 |map b=>exact h b hp
theorem zpc{w w':World}(h:∀i,i<w.heap.size->w'.heap[i]?=w.heap[i]?){base:Nat}{sp:Nat->Bool}{hd:Bool}:∀{ts:List TypeId} {vs:List Value} {ds:List (DataW H)} {ps:List MemPlace},
  (∀p∈ps,p.block<w.heap.size)->DataW.TrodAll enc P w base sp hd ts vs ds ps->DataW.TrodAll enc P w' base sp hd ts vs ds ps
 |[],[],[],_,_,h2=>h2
 |_::_,_::_,_::_,_,hl,⟨p,q,⟨n,h1⟩,h2,e⟩=>by
  subst e;exact⟨p,q,⟨n,DataW.trod_carry n _ _ _ h1 fun x hx=>zwm h (hl x (ko _ hx))⟩,zpc h (fun x hx=>hl x (qA _ hx)) h2,rfl⟩
theorem zpd{w:World}{base:Nat}{sp:Nat->Bool}{hd:Bool}:∀{ts:List TypeId} {vs:List Value} {ds:List (DataW H)} {ps:List MemPlace},DataW.TrodAll enc P w base sp hd ts vs ds ps->ds.length=ts.length
 |[],[],[],_,_=>rfl
 |_::_,_::_,_::_,_,⟨_,_,_,h2,_⟩=>by simp[zpd h2]
 |[],_::_,_,_,h |[],[],_::_,_,h |_::_,[],_,_,h |_::_,_::_,[],_,h=>by simp[DataW.TrodAll]at h
theorem zAf{w w':World}(hs:zd9 w w')(hold:∀i,i<w.heap.size->w'.heap[i]?=w.heap[i]?){may:MemPlace->Prop}:w.keptBut w' may:=by
 refine⟨hs.os,hs.output,fun i hi=>?_⟩;rw[hold i hi];cases hx:w.heap[i]? with
 |none=>rfl
 |some o=>cases o<;>simp
theorem zzI{f:Func}{s:ChangeSpec}{apart fresh handsOn again:Bool}{W W':World}{args:Array Value}{v:Value}{ds gs:List (DataW H)}{before pa pv:List MemPlace}
  (hW:DataW.Whole enc P f.params.toList s.vars apart W args.toList ds gs before) (hold:∀i,i<W.heap.size->W'.heap[i]?=W.heap[i]?) (hk:W.keptBut W' (·∈before)) (hps:before=pa++pv)
  (Ba:∀(b:Nat) (sp:Nat->Bool) (hd:Bool),DataW.TrodAll enc P W' b sp hd f.resultTypes.toList (v.resultList f.resultTypes.size) (s.fn H (ds++gs)).results [])
  (Cg:∀sp:Nat->Bool,(∀p∈before,sp p.block=true)->DataW.TrodAll enc P W' 0 sp true f.params.toList args.toList (s.fn H (ds++gs)).args pa)
  (CJ:∀sp:Nat->Bool,(∀p∈before,sp p.block=true)->DataW.TrodVars enc P W' sp s.vars (s.fn H (ds++gs)).vars pv)
  (hok:∀(j:Nat) (t:TypeId) (r:Value),f.resultTypes[j]?=some t->(v.resultList f.resultTypes.size)[j]?=some r->Value.okWide P W' .any 0 t r) :
  s.post enc P f apart fresh handsOn again W args v W':=by
 have hlt:∀p∈before,p.block<W.heap.size:=fun p hp=>hW.lt p hp
 have Ax:∀p∈before,p∈[]\/p∈pa++pv:=fun p hp=>.inr (hps ▸ hp)
 refine⟨ds,gs,before,[],pa,pv,hW,Ba _ _ _,Cg _ fun p hp=>decide_eq_true (hlt p hp),CJ _ fun p hp=>decide_eq_true (hlt p hp),World.keptBut_mono (fun p hp=>⟨hp,?_⟩) hk,fun _=>?_⟩
 ·rcases Ax p hp with h|h
  ·cases h
  ·exact .inr (jB.1 h)
 ·have hW2:=hW;obtain⟨_,_,_,_,_,hz,hn⟩:=hW2;have yh:∀p∈before,(fun _:Nat=>true) p.block=true:=fun _ _=>rfl
  refine⟨hok,_,_,([]++pa)++pv,⟨[]++pa,pv,trodAll_append (Cg _ yh) (Ba _ _ _),CJ _ yh,rfl,fun b off hp=>?_,fun ha=>?_⟩,fun p hp _=>?_⟩
  ·have hp':MemPlace.cell b off∈before:=by rw[hps];simpa using hp
   have h1:=hz b off hp';have h2:=hold b (hlt _ hp');unfold World.frozen? at h1 ⊢;rw[h2];exact h1
  ·have h1:=hn ha;rw[hps]at h1;simpa using h1
  ·rw[hps];simpa using hp
theorem zzA [GlobP](vF:P.follows .mixedOrders=true){an:Ann}{L:List (Nat×CFn)}{Cs:List (Nat×Nat×Nat×Bool)}(hL:(L.map fun p=>zcF P an true p.1)=L.map fun p=>some p.2)(hV:zql P L=true)
  (hC:(Cs.all fun c=>c.2.1==0||zf2 P c.1 c.2.1 c.2.2.1)=true) (hS:∀c∈Cs,c.2.1=0->zqh P c) {fid:FuncId} (hfid:fid<P.funcs.size) {f:Func} {s:ChangeSpec} {l:List Sh} {d:Nat} {tb:TypeId}
  (hsh:zlM P d f.params.toList=some l) (Ba:f.resultTypes = #[tb]) (htb:P.underlying tb=some .bool) (CJ:s.vars=[])
  (hfn:∀ds:List (DataW H),ds.length=f.params.toList.length->s.fn H ds={ results:=[.lit (.bool true)],args:=ds })
  (hlaid:laidOutB P=true) (hmaps:mapsRowed P=true) (hts:f.params.toList.all (· < P.types.size)=true)
  (vK:((List.range P.types.size).all fun t=>match P.underlying t with |some (.slice e)=>decide (0<P.cellsOf e) |_=>true)=true)
  (qY:∀xs,zot l xs->∃M',R L Cs fid xs []=some (.w (.c (.bool true)),M'))
  {W:World} {base:Nat} {args:Array Value} {ds gs:List (DataW H)} {before:List MemPlace}
  (hG:GK (zcC W)) (hval:∀(j:Nat) t v,f.params[j]?=some t->args[j]?=some v->Value.okWide P W .any base t v) (hW:DataW.Whole enc P f.params.toList s.vars false W args.toList ds gs before) :
  Calls P fid args W fun e W'=>∃v,e=.returned v/\s.post enc P f false true false false W args v W':=by
 letI:=zww P fun f=>L.lookup f
 have hW':=hW;obtain⟨p,q,hA,hV',hb,hfz,hnd⟩:=hW;rw[CJ]at hV';have hg:gs=[]/\q=[]:=by
  cases gs with
  |nil=>exact⟨rfl,hV'⟩
  |cons g gs=>exact absurd hV' (by simp[DataW.TrodVars])
 obtain⟨rfl,rfl⟩:=hg;obtain⟨xs,hx1,hx2⟩:=zxL hsh hA (fun j t v ht hv=>hval j t v (by simpa using ht) (by simpa using hv));obtain⟨M',hr⟩:=qY xs hx2;obtain⟨n,hn⟩:=zah.1 hr;refine(zsd (zsT vF hL hV hC hS n) (f:=fid) hfid hn (fun id hid=>by simp at hid) (zml (W:=W) hG) MR.nil hx1).mono fun e W' ⟨he,hsd,hold⟩=>?_
 subst he;have hlen:=zpd hA;have e0:s.fn H (ds++[])={ results:=[.lit (.bool true)],args:=ds }:=by rw[qG];exact hfn ds hlen
 have hlt:∀p'∈p,p'.block<W.heap.size:=fun p' hp=>hA.lt p' hp
 refine⟨_,rfl,zzI (pa:=p) (pv:=[]) hW' hold (zAf hsd hold) hb (fun b sp hd=>?_) (fun sp hsp=>?_) (fun sp _=>?_) ?_⟩
 ·rw[e0,Ba];exact⟨[],[],⟨1,by simp[DataW.trod,htb,Value.cells,Value.resultList]⟩,rfl,rfl⟩
 ·rw[e0];exact DataW.TrodAll.respare (T:=(· < P.types.size)) (kids_rows hlaid hmaps) (slices_full_of P vK) (fun t ht=>by simpa using jI.1 hts t ht) (zpc hold hlt hA) (fun x hx=>hsp x (by rw[hb];exact ko _ hx))
 ·rw[CJ,e0];rfl
 ·intro j t r hj hr;rw[Ba]at hj hr;cases j with
  |zero =>
   simp[Value.resultList]at hj hr;subst hj;subst hr;simp[Value.okWide,Cell.okWide,Cell.ok,htb]
  |succ j=>simp at hj
end
theorem zmE{α β:Type}{f g:α->β}{l:List α}{n i:Nat}(h1:((l.drop i).take n).map f=((l.drop i).take n).map g)(h2:(l.drop (i+n)).map f=(l.drop (i+n)).map g):(l.drop i).map f=(l.drop i).map g:=by
 rw[<-j7 n (l.drop i),uD,uD,h1,yv,h2]
theorem zsc{α β:Type}{f g:α->β}{l:List α}{i:Nat}(h:l.length<=i):(l.drop i).map f=(l.drop i).map g:=by
 rw[uq h];rfl
def zpx{α σ ρ:Type}(f:Nat->σ->α->σ ⊕ ρ):Nat->σ->List α->σ ⊕ ρ
 |_,s,[]=>.inl s
 |i,s,x::xs=>match f i s x with
  |.inl s'=>zpx f (i+1) s' xs
  |.inr r=>.inr r
def zM6{α σ:Type}(f:Nat->σ->α->σ):Nat->σ->List α->σ
 |_,s,[]=>s
 |i,s,x::xs=>zM6 f (i+1) (f i s x) xs
theorem zMd{α σ:Type}(f:σ->α->σ):∀(l:List α) (i:Nat) (s:σ),zM6 (fun _=>f) i s l=l.foldl f s
 |[],_,_=>rfl
 |x::l,i,s=>by simp only[zM6,List.foldl];exact zMd f l (i+1) (f s x)
abbrev bx(n:Nat)(row:List Cl):Option Blk:=some { box:=true,esz:=n,rows:=[row],gen:=0,fz:=false,ver:=0 }
abbrev bxv(v:Nat)(n:Nat)(row:List Cl):Option Blk:=some { box:=true,esz:=n,rows:=[row],gen:=0,fz:=false,ver:=v }
abbrev gb(es:Nat):Option Blk:=some { box:=false,esz:=es,rows:=[],gen:=0,fz:=false,ver:=0 }
abbrev Pt(k:Nat):WV:=.c (.ptr k 0 0 0)
section
variable[GlobP]{L:List (Nat×CFn)}{Cs:List (Nat×Nat×Nat×Bool)}{b:CC}{live:Option (List Nat)}{n0:Nat}
theorem ZfM{b':CC}(h:b=b')(E:Env)(M:Mem):Y L Cs b live n0 E M=match X L Cs b' E M with
  |some (.normal,E',M')=>Y L Cs b live n0 (canon n0 live E' M').1 (canon n0 live E' M').2
  |r=>r:=by
 rw[<-h];exact zrL b live n0 E M
theorem zBT{α σ ρ:Type}(l:List α)(E:Nat->σ->Env)(M:Nat->σ->Mem)(inv:Nat->σ->Prop)(f:Nat->σ->α->σ ⊕ ρ)(out:ρ->EX×Env×Mem)(e:σ->EX×Env×Mem)
  (hs:∀(i:Nat) (h:i<l.length) s,inv i s->match f i s l[i]with
   |.inl s'=>inv (i+1) s'/\Y L Cs b live n0 (E i s) (M i s)=Y L Cs b live n0 (E (i+1) s') (M (i+1) s')
   |.inr r=>Y L Cs b live n0 (E i s) (M i s)=some (out r))
  (he:∀s,inv l.length s->Y L Cs b live n0 (E l.length s) (M l.length s)=some (e s)) {s0:σ} (h0:inv 0 s0) :
  Y L Cs b live n0 (E 0 s0) (M 0 s0)=some (match zpx f 0 s0 l with |.inl s=>e s |.inr r=>out r):=by
 have key:∀(r:List α) (i:Nat) (s:σ),l.drop i=r->i<=l.length->inv i s->Y L Cs b live n0 (E i s) (M i s)=some (match zpx f i s r with |.inl s=>e s |.inr r=>out r):=by
  intro r;induction r with
  |nil =>
   intro i s hd hi hv;have:i=l.length:=by
    have:=congrArg List.length hd;simp at this;omega
   subst this;exact he s hv
  |cons x r ih =>
   intro i s hd hi hv;have hil:i<l.length:=by
    have:=congrArg List.length hd;simp at this;omega
   have hd':l.drop (i+1)=r:=by
    rw[jy hil]at hd;exact(j9 hd).2
   have hx:l[i]=x:=by
    rw[jy hil]at hd;exact(j9 hd).1
   have:=hs i hil s hv;rw[hx]at this;simp only[zpx];split at this
   ·rename_i s' hf;rw[this.2,ih (i+1) s' hd' hil this.1]
   ·rename_i r' hf;rw[this]
 exact key l 0 s0 rfl (ju _) h0
theorem zPH{α σ:Type}(l:List α)(E:Nat->σ->Env)(M:Nat->σ->Mem)(inv:Nat->σ->Prop)(f:Nat->σ->α->σ)(e:σ->EX×Env×Mem)
  (hs:∀(i:Nat) (h:i<l.length) s,inv i s->inv (i+1) (f i s l[i])/\Y L Cs b live n0 (E i s) (M i s)=Y L Cs b live n0 (E (i+1) (f i s l[i])) (M (i+1) (f i s l[i])))
  (he:∀s,inv l.length s->Y L Cs b live n0 (E l.length s) (M l.length s)=some (e s)) {s0:σ} (h0:inv 0 s0) :
  Y L Cs b live n0 (E 0 s0) (M 0 s0)=some (e (zM6 f 0 s0 l)):=by
 have h:=zBT (ρ:=Unit) l E M inv (fun i s x=>.inl (f i s x)) (fun _=>(.normal,[],[])) e (fun i h s hv=>hs i h s hv) he h0;have h2:∀(r:List α) (i:Nat) (s:σ),zpx (ρ:=Unit) (fun i s x=>.inl (f i s x)) i s r=.inl (zM6 f i s r):=by
  intro r;induction r with
  |nil=>intro i s;rfl
  |cons x r ih=>intro i s;simp only[zpx,zM6];exact ih _ _
 rw[h,h2]
theorem zxf{α:Type}(l:List α)(E:Nat->Env)(M:Mem)(p:α->Bool)(out:Nat->EX×Env×Mem)(e:EX×Env×Mem)
  (hs:∀(i:Nat) (h:i<l.length),p l[i]=false->Y L Cs b live n0 (E i) M=Y L Cs b live n0 (E (i+1)) M)
  (hh:∀(i:Nat) (h:i<l.length),p l[i]=true->Y L Cs b live n0 (E i) M=some (out i))
  (he:Y L Cs b live n0 (E l.length) M=some e) :
  Y L Cs b live n0 (E 0) M=some (match l.findIdx? p with |some i=>out i |none=>e):=by
 have h:=zBT (σ:=Unit) (ρ:=Nat) l (fun i _=>E i) (fun _ _=>M) (fun _ _=>True) (fun i s x=>if p x then .inr i else .inl s) out (fun _=>e)
  (fun i h s _=>by
   cases hp:p l[i]with
   |true=>simpa using hh i h hp
   |false=>simpa using hs i h hp) (fun s _=>he) (s0:=()) trivial
 have h2:∀(r:List α) (i:Nat),(match zpx (σ:=Unit) (ρ:=Nat) (fun i s x=>if p x then .inr i else .inl s) i () r with |.inl _=>e |.inr r=>out r)=(match r.findIdx? p with |some k=>out (i+k) |none=>e):=by
  intro r;induction r with
  |nil=>intro i;simp[zpx]
  |cons x r ih =>
   intro i;simp only[zpx,yb];cases hp:p x with
   |true=>simp
   |false =>
    simp only[jH,if_false];rw[ih (i+1)];cases r.findIdx? p<;>simp[kS,Nat.add_comm,Nat.add_left_comm]
 rw[h];have h3:=h2 l 0;simp only[jJ]at h3
 congr 1
 cases hf:zpx (σ:=Unit) (ρ:=Nat) (fun i s x=>if p x then .inr i else .inl s) 0 () l with
 |inl s=>rw[hf]at h3;exact h3
 |inr r=>rw[hf]at h3;exact h3
theorem zpE{α:Type}(l:List α)(E:Nat->Env)(M:Mem)(p:α->Bool)(out e:EX×Env×Mem)
  (hs:∀(i:Nat) (h:i<l.length),p l[i]=false->Y L Cs b live n0 (E i) M=Y L Cs b live n0 (E (i+1)) M)
  (hh:∀(i:Nat) (h:i<l.length),p l[i]=true->Y L Cs b live n0 (E i) M=some out)
  (he:Y L Cs b live n0 (E l.length) M=some e) :
  Y L Cs b live n0 (E 0) M=some (if l.any p then out else e):=by
 rw[zxf l E M p (fun _=>out) e hs hh he];cases h:l.findIdx? p with
 |none =>
  have:l.any p=false:=by
   rw[vo];intro x hx;have:=kj.1 h x hx;simp[this]
  simp[this]
 |some k =>
  have:l.any p=true:=by
   obtain⟨hk,h1,_⟩:=jU.1 h;exact jS.2 ⟨_,jf hk,h1⟩
  simp[this]
end
end Go.Eng
