/- This text proves parts of an evaluator's soundness: what the evaluator answers, the model's run does; no condition. -/
import Derived.Test.YtdndkdliiojpiaaGreatKEg2
import Derived.Sort.Grow
import Derived.Sort.AssemblyPlain
import Derived.MapKept
import Derived.Below
import Derived.RowKit3
import Derived.ChangeShapes
import Derived.ChangeSame
import Derived.ReadAgain
import Derived.OpenShut
set_option linter.unusedVariables false
set_option linter.unusedSimpArgs false
set_option linter.unusedSectionVars false
namespace Go.Eng
open Go
variable[zb0]
theorem zqP:∀{N:Nat} {l:List Nat},l.Nodup->(∀x∈l,x<N)->l.length<=N
 |0,l,_,h=>by
  cases l with
  |nil=>exact jm _
  |cons x xs=>exact absurd (h x (jy ..)) (Nat.not_lt_zero _)
 |N+1,l,hn,h=>by
  by_cases hm:N∈l
  ·have h1:=zqP (N:=N) (hn.erase N) (fun x hx=>by
    have h2:=(hn.mem_erase_iff).1 hx;have:=h x h2.2;omega)
   rw[List.length_erase_of_mem hm]at h1;omega
  ·have:=zqP (N:=N) hn (fun x hx=>by
    have h1:=h x hx;have:x≠N:=by rintro rfl;exact hm hx
    omega)
   omega
theorem zCI{N:Nat}{l:List Nat}(hn:l.Nodup)(h:∀x∈l,x<N)(hl:l.length=N){i:Nat}(hi:i<N):i∈l:=by
 by_cases hm:i∈l
 ·exact hm
 ·have:=zqP (N:=N) (qN.2 ⟨hm,hn⟩) (fun x hx=>by
   rcases jQ.1 hx with rfl|hx
   ·exact hi
   ·exact h x hx)
  simp only[jk]at this;omega
section
variable{own:Nat->Prop}{P:Program}{cf:za4}{ntmps:Nat}{F:Fence}{n:Nat}{Q:Exit->Act->World->Prop}
theorem zgF{ops:List Oper}{m:Oper->zbz}:∀{is:List Nat} {cs:List zaG},zcL P ops m ntmps is=some cs->cs.length=is.length/\∀(p:Nat) (c:zaG),cs[p]?=some c->∃i,is[p]?=some i/\zdT P ops m ntmps i=some c
 |[],cs,h=>by simp only[zcL,jh]at h;subst h;exact⟨rfl,by simp⟩
 |i::is,cs,h=>by
  simp only[zcL]at h;split at h
  ·rename_i c cs' h1 h2;cases h;obtain⟨e1,e2⟩:=zgF h2;refine⟨by simp[e1],fun p c' hc=>?_⟩;cases p with
   |zero=>simp at hc;subst hc;exact⟨i,rfl,h1⟩
   |succ p=>simpa using e2 p c' (by simpa using hc)
  ·cases h
theorem zgG{ops:Array Oper}{m:Oper->zbz}{i:Nat}{c:zaG}(h:zdT P ops.toList m ntmps i=some c):c.ix=i/\i<ops.size:=by
 obtain⟨o,ho,hi,_⟩:=zjR h;exact⟨hi,(jH.1 ho).1⟩
theorem zpV{ops:Array Oper}{m:Oper->zbz}{is:List Nat}{cs:List zaG}(h:zcL P ops.toList m ntmps is=some cs):cs.map (·.ix)=is:=by
 obtain⟨e1,e2⟩:=zgF h;apply uf;intro p;rw[kF];cases hc:cs[p]? with
 |none =>
  have:is[p]?=none:=by rw[List.getElem?_eq_none_iff]at hc ⊢;omega
  rw[this];rfl
 |some c =>
  obtain⟨i,hi,hci⟩:=e2 p c hc;rw[hi];simp[(zgG hci).1]
theorem zsD(hF:zhz F)(hcf:FnS P cf){ops:Array Oper}{m:Oper->zbz}{n0 k:Nat}{σ0:zP}{j0:Inj}{M0:Mem}{w0:World}{E2:zhy}{M2:Mem}{ds:List Deferred}
  (hQ:∀a' w' σ' j',At own σ' j' E2 M2 ntmps a' w'->za2 own k σ0 j0 M0 w0 σ' j' M2 w'->a'.defers=ds->Q .normal a' w') :
  ∀{is:List Nat} {cs:List zaG} {fs:List FP} {E:zhy} {M:Mem} {a:Act} {w:World} {σ:zP} {j:Inj},zcL P ops.toList m ntmps is=some cs->zlh cf n0 cs E M=some (E2,M2,fs)->k<=M.length ->
   At own σ j E M ntmps a w->za2 own k σ0 j0 M0 w0 σ j M w->a.defers=ds->wpOpsIn F n P ops Q is a w
 |[],cs,fs,E,M,a,w,σ,j,hc,hr,hk,hat,hst,hds=>by
  simp only[zcL,jh]at hc;subst hc;simp only[zlh,jh,jt]at hr;obtain⟨rfl,rfl,_⟩:=hr;exact hQ a w σ j hat hst hds
 |i::is,cs,fs,E,M,a,w,σ,j,hc,hr,hk,hat,hst,hds=>by
  simp only[zcL]at hc;split at hc
  ·rename_i c cs' h1 h2;cases hc;rw[wpOpsIn_cons];cases fs with
   |nil =>
    simp only[zlh]at hr;split at hr
    ·split at hr
     ·cases hr
     ·cases hr
    ·cases hr
   |cons fp fs =>
    obtain⟨v,M',q1,q2⟩:=zgh.1 hr;refine zoz hF hcf h1 q1 hat fun a' w' σ' j' CN Dc hds'=>?_
    exact zsD hF hcf hQ h2 q2 (jO hk (z4L q1)) CN (hst.trans (Dc.le hk)) (hds'.trans hds)
  ·cases hc
theorem zpo{bef:List Nat}{a:zaG}{i:Nat}:∀{r:List zaG} {j p:Nat} {b:zaG},r[p]?=some b->(bef.getD b.ix 0).testBit a.ix=false->¬(a.cls=.pure\/b.cls=.pure\/(a.cls=.load/\b.cls=.load))->(i,j+p)∈znU bef a i j r
 |[],j,p,b,h,_,_=>by simp at h
 |x::r,j,0,b,h,hb,hk=>by
  simp only[v7,jh]at h;subst h;simp only[znU,hb,jE,if_false];simp only[not_or,not_and]at hk;obtain⟨k1,k2,k3⟩:=hk;cases ha:a.cls<;>cases hx:x.cls<;>simp_all
 |x::r,j,p+1,b,h,hb,hk=>by
  have:=zpo (i:=i) (r:=r) (j:=j+1) (p:=p) (by simpa using h) hb hk;have e:j+(p+1)=j+1+p:=by omega
  rw[e];simp only[znU];split
  ·exact this
  ·split<;>first |exact this |exact jI _ this
theorem zuW{bef:List Nat}{base:Nat}{C1:List FP}:∀{cs:List zaG} {fs:List FP} {i:Nat},zqg bef cs=true->(zxr bef i cs).all (zyi base C1)=true->(∀p:Nat,fs[p]?=C1[i+p]?) ->
  (cs.zip fs).Pairwise (fun x y=>(bef.getD y.1.ix 0).testBit x.1.ix=true\/zA7 base x.1 x.2 y.1 y.2)
 |[],fs,i,_,_,_=>by simp
 |a::r,[],i,_,_,_=>by simp
 |a::r,f::fr,i,hc,hp,hfs=>by
  simp only[zqg,jl]at hc;simp only[zxr,qO,jl]at hp;have hfr:∀p:Nat,fr[p]?=C1[(i+1)+p]?:=fun p=>by
   have:=hfs (p+1);rw[show i+(p+1)=i+1+p from by omega]at this;simpa using this
  refine kx.2 ⟨fun y hy=>?_,zuW hc.2 hp.2 hfr⟩;obtain⟨p,hp2⟩:=jW hy;have hp2:(r.zip fr)[p]?=some y:=hp2;rw[List.getElem?_zip_eq_some]at hp2;obtain⟨hb,hfb⟩:=hp2;cases ht:(bef.getD y.1.ix 0).testBit a.ix with
  |true=>exact .inl rfl
  |false =>
   right;have h1:=jz.1 hc.1 y.1 (kJ hb);simp only[ht,uB]at h1;refine⟨h1,?_⟩;by_cases hk:(a.cls=.pure\/y.1.cls=.pure\/(a.cls=.load/\y.1.cls=.load))
   ·rcases hk with h|h|h
    ·exact .inl h
    ·exact .inr (.inl h)
    ·exact .inr (.inr (.inl h))
   ·have hm:=zpo (i:=i) (j:=i+1) hb ht hk;have:=jz.1 hp.1 _ hm;simp only[zyi]at this;rw[<-hfr p,hfb]at this;have h0:C1[i]?=some f:=by have:=hfs 0;simpa using this.symm
    rw[h0]at this;simp only[jl]at this;exact .inr (.inr (.inr this))
theorem zuY{n0:Nat}:∀{os:List zaG} {E E2:zhy} {M M2:Mem} {fs:List FP},zlh cf n0 os E M=some (E2,M2,fs)->fs.length=os.length/\M.length<=M2.length
 |[],E,E2,M,M2,fs,h=>by simp only[zlh,jh,jt]at h;obtain⟨_,rfl,rfl⟩:=h;exact⟨rfl,jm _⟩
 |o::os,E,E2,M,M2,fs,h=>by
  simp only[zlh]at h;split at h
  ·rename_i v M' fp h1;split at h
   ·rename_i E3 M3 fs3 h2;cases h;obtain⟨e1,e2⟩:=zuY h2;exact⟨by simp[e1],jO (z4L h1) e2⟩
   ·cases h
  ·cases h
theorem za2.of_same{k:Nat}{σ:zP}{j:Inj}{M M':Mem}{w w':World}(hM:∀(id:Nat) (b:Blk),M[id]?=some (some b)->M'[id]?=some (some b))(hw:w'.heap=w.heap)(hs:zd9 w w'):za2 own k σ j M w σ j M' w' :=
 ⟨zP.le_refl _,fun _ _ _ _ h=>h,by rw[hw];exact jm _,fun _ _ _=>by rw[hw],fun _ _ _ h=>.inl h,fun id b _ hb=>⟨b,hM id b hb,jm _,fun _=>⟨rfl,fun _ _=>by rw[hw]⟩⟩,hs⟩
theorem ziY(hF:zhz F)(hcf:FnS P cf)(vq:P.follows .mixedOrders=true){an:Ann}{id:Nat}{ops:Array Oper}{draw:Bool}{nA:Nat}{cs:List zaG}{prs:List (Nat×Nat)}
  (hc:zeP P an ntmps id ops.toList draw=some (nA,cs,prs)) {E E':Env} {M M':Mem} {fs:List FP} (hr:zks cf M.length cs E (M++qH nA)=some (E',M',fs)) (hp:prs.all (zyi (M.length+nA) fs)=true)
  {σ:zP} {j:Inj} {a:Act} {w:World} (hat:At own σ j E.get M ntmps a w)
  (hQ:∀a' w' σ' j',At own σ' j' E'.get M' ntmps a' w'->za2 own M.length σ j M w σ' j' M' w'->M.length<=M'.length->a'.defers=a.defers->Q .normal a' w'):(Code.region id ops draw).wpIn F n P Q a w:=by
 have hG:=zxv hr;obtain⟨hfl,hlen⟩:=zuY hG;simp only[jv]at hlen;have hholes:(qH nA).length=nA:=by simp[qH]
 have AM:∀w1:World,w1.heap=w.heap->At own σ j E.get (M++qH nA) ntmps a w1:=fun w1 hw =>
  ⟨hat.env,hat.size,hat.marks.heap hw,hat.yB.same hw,(hat.mem.qH nA).same hw,fun b hb=>hat.own b (by rw[<-hw];exact hb)⟩
 have yJ:∀w1:World,w1.heap=w.heap->zd9 w w1->za2 own M.length σ j M w σ j (M++qH nA) w1:=fun w1 hw=>za2.of_same (fun id b hb=>by rw[jq (zC hb)];exact hb) hw
 have hQ':∀a' w' σ' j',At own σ' j' E'.get M' ntmps a' w'->za2 own M.length σ j M w σ' j' M' w'->a'.defers=a.defers->Q .normal a' w':=fun a' w' σ' j' h1 h2 h3=>hQ a' w' σ' j' h1 h2 (by omega) h3
 unfold zeP at hc;dsimp only at hc;cases draw with
 |false =>
  simp only[jE,if_false]at hc;split at hc
  ·rename_i cs' hcs;cases hc;refine wpIn_region ?_;have hrange:List.range ops.toList.length=List.range ops.size:=by simp
   rw[hrange]at hcs;exact zsD hF hcf hQ' hcs hG (by simp) (AM w rfl) (yJ w rfl (zd9.refl _)) rfl
  ·cases hc
 |true =>
  simp only[if_true]at hc;split at hc
  ·rename_i cs' hcs;split at hc
   ·rename_i hok;cases hc;simp only[jl,decide_eq_true_eq]at hok;obtain⟨⟨⟨o1,o2⟩,o3⟩,o4⟩:=hok;refine wpIn_region_any vq ?_;obtain⟨l1,l2⟩:=zgF hcs;have hix:=zpV hcs;have hzl:(cs.zip fs).map (·.1)=cs:=by rw[List.map_fst_zip];omega
    have hzr:(cs.zip fs).map (·.2)=fs:=by rw[List.map_snd_zip];omega
    have hzi:(cs.zip fs).map (·.1.ix)=schedule ops.toList ops.toList.length []:=by
     have:(cs.zip fs).map (·.1.ix)=((cs.zip fs).map (·.1)).map (·.ix):=by rw[yi];rfl
     rw[this,hzl,hix]
    have hnd:=zgy o2;have vT:∀c∈cs,∃i,i∈schedule ops.toList ops.toList.length []/\zdT P ops.toList an.mode ntmps i=some c:=fun c hcm=>by
     obtain⟨p,hp⟩:=jW hcm;obtain⟨i,hi,hci⟩:=l2 p c hp;exact⟨i,kJ hi,hci⟩
    have vh:∀i,i<ops.size->i∈schedule ops.toList ops.toList.length []:=by
     have Da:∀i∈schedule ops.toList ops.toList.length [],i<ops.size:=by
      intro i hi;rw[<-hix]at hi;obtain⟨c,hcm,rfl⟩:=jZ.1 hi;obtain⟨i',_,hci⟩:=vT c hcm;rw[(zgG hci).1];exact(zgG hci).2
     intro i hi;exact zCI hnd Da (by rw[o1];simp) hi
    refine zAL hF hcf (base:=M.length+zgO ops.toList ops.toList.length) (by omega) hQ' ops.size (Array.replicate ops.size false) (cs.zip fs) E.get _ a _ σ j ?_ (by simp) (fun i hi=>?_) (by rw[hzi];exact hnd) (fun x hx=>?_) (zuW o4 hp (fun p=>by simp)) (fun i hi h=>?_) ?_ (by rw[hzl,hzr];exact hG) (by simp[qH]) (AM _ rfl) (yJ _ rfl ⟨rfl,rfl,rfl,by first |exact jm _ |exact fun _=>kL _⟩) rfl
    ·simp only[List.length_zip,hfl,Nat.min_self];rw[l1,o1];simp
    ·rw[hzi];have:=vh i hi;simp only[yH]at this ⊢;simp[Array.getD,hi,this]
    ·have hxm:x.1∈cs:=by rw[<-hzl];exact jZ.2 ⟨x,hx,rfl⟩
     obtain⟨i,_,hci⟩:=vT _ hxm;have:=zgG hci;exact⟨by rw[this.1];exact this.2,_,by rw[this.1];exact hci⟩
    ·simp[Array.getD,hi]at h
    ·rw[hzi];exact(zpe o3).mono fun d hd=>by cases hd
   ·cases hc
  ·cases hc
end
end Go.Eng
namespace Go.Eng
open Go
variable[zb0]
section
variable{own:Nat->Prop}{P:Program}{σ:zP}{j:Inj}{M:Mem}{a:Act}{w:World}{ntmps:Nat}
theorem zjB{id l:Nat}{r:Loop}{f:FuncId}{sh:List (Nat×Bool×Nat)}{b:Blk}(hm:MR own σ j M w)(hj:j id 0=some (.rnd l r f sh))(hl:look M id 0=some b):M[id]?=some (some b)/\b.gen=0/\RB σ j b l r f sh w:=by
 obtain⟨h1,h2⟩:=zaz hl;obtain⟨pl,h3,h4,_⟩:=hm.vL id b h1;rw[<-h2,hj]at h3;cases h3;exact⟨h1,h2.symm,h4⟩
theorem zsJ{id:Nat}{s:Int}(h:kM M id=some s):∃b cells,look M id 0=some b/\b.rows=[.int .i64 s::cells]/\zxb M id=some cells:=by
 grind [kM,zxb]
theorem zg0{id:Nat}{s s':Int}{M':Mem}(h:zsR M id s s'=some M'):∃b cells,look M id 0=some b/\b.rows=[.int .i64 s::cells]/\M'=M.set id (some { b with rows:=[.int .i64 s'::cells],ver:=b.ver+1 }):=by
 grind [zsR]
theorem znk{id l:Nat}{r:Loop}{f:FuncId}{sh:List (Nat×Bool×Nat)}{s s':Int}{M':Mem}{pd:Option Code}(hag:zM σ w)(hm:MR own σ j M w)(hj:j id 0=some (.rnd l r f sh))(h:zsR M id s s'=some M')(hpd:s'≠-1->pd=zqM s') :
  zM σ (w.putObj l (.loop { r with state:=zfS s',pending:=pd }))/\MR own σ j M' (w.putObj l (.loop { r with state:=zfS s',pending:=pd })) /\
  za2 own M.length σ j M w σ j M' (w.putObj l (.loop { r with state:=zfS s',pending:=pd })):=by
 obtain⟨b,cells,hlk,u6,rfl⟩:=zg0 h;obtain⟨hb,hg,hrb⟩:=zjB hm hj hlk;obtain⟨s0,DG,pd0,vs,h1,h2,h3,h4,h5⟩:=hrb.st;rw[u6]at h1;cases h1;have hll:l<w.heap.size:=(jH.1 h2).1;have A7:∀k,k≠l->(w.putObj l (.loop { r with state:=zfS s',pending:=pd })).heap[k]?=w.heap[k]?:=fun k hk=>World.putObj_heap_other hk
 have hjb:j id b.gen=some (.rnd l r f sh):=by grind
 have hne:∀k x q,k≠id->M[k]?=some (some x)->j.atk k x.gen=some q->q≠l:=fun k x q hk hx hq e=>hk (hm.vo k id x b q hx hb hq (by grind [Inj.C3]))
 have get:∀k x,(M.set id (some { b with rows:=[.int .i64 s'::cells],ver:=b.ver+1 }))[k]?=some (some x)->(k=id/\x={ b with rows:=[.int .i64 s'::cells],ver:=b.ver+1 })\/(k≠id/\M[k]?=some (some x)):=by
  grind
 refine⟨?_,⟨fun k x hx=>?_,fun k k' x x' q hx hx' hq hq'=>?_,fun k g pl hk=>?_,hm.okP⟩,?_⟩
 ·refine⟨?_,hag.kY⟩;intro k o v hv;have hold:=hag.cells k o v hv
  grind [World.cell?]
 ·rcases get k x hx with⟨rfl,rfl⟩ |⟨hk,hx⟩
  ·obtain⟨pl,hpl,_,ho⟩:=hm.vL k b hb;rw[hjb]at hpl;cases hpl;exact⟨_,hjb,(⟨hrb.box,hrb.ok,s',cells,pd,vs,rfl,World.putObj_heap_same hll,hpd,h4,h5⟩:RB σ j { b with rows:=[.int .i64 s'::cells],ver:=b.ver+1 } l r f sh _),ho⟩
  ·obtain⟨pl,hpl,hbr,ho⟩:=hm.vL k x hx;exact⟨pl,hpl,hbr.mono (zP.le_refl _) (Inj.le_refl _) (fun q e=>A7 q (hne k x q hk hx (Inj.yf hpl e))) (fun _ _ _ h _ _=>h),ho⟩
 ·rcases get k x hx with⟨rfl,rfl⟩ |⟨hk,hx1⟩<;>rcases get k' x' hx' with⟨rfl,rfl⟩ |⟨hk',BO⟩
  ·rfl
  ·exact hm.vo k k' b x' q hb BO hq hq'
  ·exact hm.vo k k' x b q hx1 hb hq hq'
  ·exact hm.vo k k' x x' q hx1 BO hq hq'
 ·obtain⟨x,hx,hgx⟩:=hm.dom k g pl hk
  grind
 ·have hown:own l:=hm.CB hb (Inj.C3 hjb);refine⟨zP.le_refl _,fun _ _ _ _ h=>h,by simp,fun k _ ho=>A7 k (fun e=>ho (e ▸ hown)),fun _ _ _ h=>.inl h,fun k x hk hx=>?_,⟨rfl,rfl,rfl,fun _=>jm _⟩⟩
  grind
theorem zvy{tmps:Array Value}:∀{sh:List (Nat×Bool×Nat)} {cells:List Cl} {vs:List Value} {E0:Env},AP sh cells=some E0->VCs σ j cells vs->zCb tmps sh vs->zcs σ j E0.get tmps
 |[],cells,vs,E0,h,hv,hc=>by
  simp only[AP,jh]at h;intro n x hx
  grind [Env.get]
 |(n,g,k)::sh,cells,vs,E0,h,hv,hc=>by
  simp only[AP]at h;split at h
  ·rename_i v E h1 h2;cases h;obtain⟨hc1,hc2⟩:=hc;have ih:=zvy h2 (hv.drop k) hc2;intro m x hx;simp only[Env.get]at hx;split at hx
   ·rename_i hm;cases hx;subst hm;cases g with
    |true =>
     simp only[zaI,if_true,jh]at h1;subst h1;exact⟨_,hc1,_,rfl,by simpa using hv.take k⟩
    |false =>
     obtain⟨rfl,hc1⟩:=hc1;simp only[zaI,jE,if_false]at h1;cases cells with
     |nil=>grind
     |cons y ys =>
      cases h1;obtain⟨u,us,rfl,hu,_⟩:=hv.kO;exact⟨u,by grind,hu⟩
   ·exact ih m x hx
  grind
theorem zrw{tmps:Array Value}{E:Env}(hE:zcs σ j E.get tmps):∀caps:List Nat,∃vs,VCs σ j (zeN E caps).2 vs/\zCb tmps (zeN E caps).1 vs
 |[]=>⟨[],VCs.nil,trivial⟩
 |n::ns=>by
  obtain⟨vs,h1,h2⟩:=zrw hE ns;simp only[zeN];split
  ·rename_i x hx;obtain⟨u,hu,hr⟩:=hE n _ hx;exact⟨u::vs,VCs.cons hr h1,⟨rfl,by grind⟩,by grind⟩
  ·rename_i cs hx;obtain⟨u,hu,arr,rfl,hr⟩:=hE n _ hx;have hl:cs.length=arr.toList.length:=hr.1;refine⟨arr.toList++vs,hr.append h1,?_,?_⟩
   ·simp_all
   grind
  grind
theorem zqN{E0:Env}:∀{ps:List Nat} {as:List WV} {vs:List Value} {tmps:Array Value},ps.Nodup->(∀p∈ps,p<tmps.size)->as.length=ps.length->zac σ j as vs->zcs σ j E0.get tmps ->
  zcs σ j (zv3 ps as++E0).get ((ps.zip vs).foldl (fun t (x:Nat×Value)=>t.setIfInBounds x.1 x.2) tmps)/\((ps.zip vs).foldl (fun t (x:Nat×Value)=>t.setIfInBounds x.1 x.2) tmps).size=tmps.size /\
   ∀k,k∉ps->((ps.zip vs).foldl (fun t (x:Nat×Value)=>t.setIfInBounds x.1 x.2) tmps)[k]?=tmps[k]?
 |[],as,vs,tmps,hn,hp,hl,hv,hE=>by
  simp_all [zv3]
 |p::ps,as,vs,tmps,hn,hp,hl,hv,hE=>by
  cases as with
  |nil=>grind
  |cons x as =>
   obtain⟨v,vs',rfl,h1,h2⟩:=hv.kO;obtain⟨hnp,hn'⟩:=qN.1 hn;have key:∀(E1:Env),zcs σ j E1.get (tmps.setIfInBounds p v)->zcs σ j (zv3 ps as++E1).get ((ps.zip vs').foldl (fun t (x:Nat×Value)=>t.setIfInBounds x.1 x.2) (tmps.setIfInBounds p v)) /\
     ((ps.zip vs').foldl (fun t (x:Nat×Value)=>t.setIfInBounds x.1 x.2) (tmps.setIfInBounds p v)).size=(tmps.setIfInBounds p v).size/\∀k,k∉ps->((ps.zip vs').foldl (fun t (x:Nat×Value)=>t.setIfInBounds x.1 x.2) (tmps.setIfInBounds p v))[k]?=(tmps.setIfInBounds p v)[k]? :=
    fun E1 hE1=>zqN hn' (fun q hq=>by grind) (by grind) h2 hE1
   have hpt:p<tmps.size:=hp p (jy ..);have hE1:zcs σ j (Env.get (E0.filter (fun(x:Nat×AV)=>x.1 !=p))) (tmps.setIfInBounds p v):=by
    intro m y hy;have:m≠p/\E0.get m=some y:=by
     clear key hE;induction E0 with
     |nil=>grind [Env.get]
     |cons e E0 ih =>
      simp only[uq]at hy;split at hy
      ·rename_i hep;simp only[Env.get]at hy ⊢
       grind
      ·rename_i hep;obtain⟨q1,q2⟩:=ih hy;refine⟨q1,?_⟩;simp only[Env.get];rw[if_neg]
       ·exact q2
       grind
    obtain⟨u,hu,hr⟩:=hE m y this.2
    grind
   obtain⟨q1,q2,q3⟩:=key _ hE1;refine⟨?_,by simp_all,fun k hk=>?_⟩
   ·intro m y hy;simp only[zv3,ji,Env.get]at hy;simp only[List.zip_cons_cons,ka];split at hy
    ·rename_i hm;cases hy;subst hm;exact⟨v,by grind,h1⟩
    ·rename_i hm;refine q1 m y ?_;have gen:∀(Z:Env),Env.get (Z++E0) m=some y->Env.get (Z++E0.filter (fun(x:Nat×AV)=>x.1 !=p)) m=some y:=by
      intro Z;induction Z with
      |nil =>
       simp only[je];clear key q1 q2 q3 hE hE1 hy;induction E0 with
       |nil=>grind
       |cons e E0 ih =>
        intro h;simp only[Env.get]at h;simp only[uq];split at h
        ·simp_all [qX,if_pos,Env.get]
        ·rename_i hem;split
         ·simp_all [Env.get,if_neg]
         grind
      |cons z Z ih =>
       intro h;simp only[ji,Env.get]at h ⊢
       grind
     grind
   simp_all [jQ,not_or,List.zip_cons_cons,ka,uC,qX]
theorem zxR(ps:Array Nat)(vs:Array Value)(tmps:Array Value):(ps.zip vs).foldl (fun(tmps:Array Value) (x:Nat×Value)=>tmps.setIfInBounds x.1 x.2) tmps=(ps.toList.zip vs.toList).foldl (fun t (x:Nat×Value)=>t.setIfInBounds x.1 x.2) tmps:=by
 rw[<-Array.foldl_toList];simp
theorem zd9.Cg{w w':World}{o:Obj}(h:w'.heap=w.heap.push o)(ho:w'.os=w.os)(hp:w'.output=w.output)(hno:∀C T f,o≠.cells C T f)(ht:w'.tape=w.tape:=by rfl)(hd:w.drawn<=w'.drawn:=by first |exact jm _ |exact kL _):zd9 w w':=by
 exact⟨ho,hp,ht,fun _=>hd⟩
theorem zBE{r:Loop}{f:FuncId}{caps:List Nat}{E:Env}(hst:r.state=.ready)(hpd:r.pending=none)(hok:zb0.ok f r)(hE:zcs σ j E.get r.tmps)(hag:zM σ w)(hm:MR own σ j M w)(hown:∀b,w.heap.size<=b->own b) :
  ∃j',j' M.length 0=some (.rnd (w.heap.size+1) r f (zeN E caps).1)/\zM σ ((w.alloc (.deferred (some []))).alloc (.loop r))/\MR (fun k=>own k/\k≠w.heap.size) σ j' (M++[some (ghost (zeN E caps).2)]) ((w.alloc (.deferred (some []))).alloc (.loop r)) /\
   za2 own M.length σ j M w σ j' (M++[some (ghost (zeN E caps).2)]) ((w.alloc (.deferred (some []))).alloc (.loop r)):=by
 generalize hw1:(w.alloc (.deferred (some []))).alloc (.loop r)=w1;have yF:w1.heap=(w.heap.push (.deferred (some []))).push (.loop r):=by rw[<-hw1];rfl
 have hold:∀k,k<w.heap.size->w1.heap[k]?=w.heap[k]?:=fun k hk=>by
  grind
 have hl:w1.heap[w.heap.size+1]?=some (.loop r):=by
  grind
 have BU:zd9 w w1:=by
  rw[<-hw1];exact(zd9.Cg (w':=w.alloc (.deferred (some []))) rfl rfl rfl (by grind)).trans (zd9.Cg (w':=(w.alloc (.deferred (some []))).alloc (.loop r)) rfl rfl rfl (by grind))
 have Bc:(M++qH 1)[M.length]?=some none:=by simp[qH]
 have hlt:M.length<(M++qH 1).length:=by grind
 have AD:(M++qH 1).set M.length (some (ghost (zeN E caps).2))=M++[some (ghost (zeN E caps).2)]:=by simp[qH]
 obtain⟨vs,hvs,hcv⟩:=zrw hE caps;have hm0:MR (fun k=>own k/\k≠w.heap.size) σ j (M++qH 1) w:=(hm.BS (fun b hb ho=>⟨ho,by omega⟩)).qH 1;have vg:j M.length 0=none:=by
  cases h:j M.length 0 with
  |none=>rfl
  |some pl=>exact absurd (hm.lt h) (vM _)
 have hle:=Inj.Aq (pl:=.rnd (w.heap.size+1) r f (zeN E caps).1) vg;obtain⟨_,hm1⟩:=hm0.renew (w':=w1) (id:=M.length) (b':=ghost (zeN E caps).2) (pl':=.rnd (w.heap.size+1) r f (zeN E caps).1) hlt (fun b hb=>by grind)
  (fun k b q _ hb hq=>by
   have:=hm0.uh hb hq;exact⟨hold q this,fun e=>by cases e;omega⟩)
  (⟨rfl,hok,0,(zeN E caps).2,none,vs,rfl,by rw[hl];obtain⟨st,pd,_⟩:=r;cases hst;cases hpd;rfl,fun _=>rfl,hvs.mono (zP.le_refl _) hle,hcv⟩:RB σ _ (ghost (zeN E caps).2) _ r f _ w1)
  (fun k e=>by cases e;grind)
 rw[AD]at hm1;refine⟨_,Inj.ve _ _ _ _,hag.AS (fun b o v hv=>hold b (hag.lt hv)),hm1,zP.le_refl _,fun id g pl _ h=>hle id g pl h,by grind,fun k hk _=>hold k hk,fun _ _ _ h=>.inl h,fun id b hid hb=>⟨b,?_,jm _,fun _=>⟨rfl,fun q hq=>hold q (hm.uh hb hq)⟩⟩,BU⟩
 grind
end
end Go.Eng
namespace Go.Eng
open Go
section
variable[GlobP]
def zae(K:FuncId->Array Tmp->Code->Code->Nat->Prop)(P:Program)(an:Ann)(ntmps:Nat):Code->CC->Prop
 |.skip,.skip=>True
 |.region id ops draw,.region nA cs prs _=>zeP P an ntmps id ops.toList draw=some (nA,cs,prs)
 |.seq a b,.seq a' b'=>zae K P an ntmps a a'/\zae K P an ntmps b b'
 |.cond c a b,.cond c' a' b'=>za5 c=some c'/\zae K P an ntmps a a'/\zae K P an ntmps b b'
 |.block id b,.block id' b'=>id=id'/\zae K P an ntmps b b'
 |.loop b,.loop _ b'=>zae K P an ntmps b b'
 |.exit id,.exit id'=>id=id'
 |.ret,.ret=>True
 |.label _,.skip=>True
 |.scope b,.seq b' c'=>c'=.skip/\zae K P an ntmps b b'
 |.rangeFunc g ps a b,.rng f v _=>za5 g=some f/\K v ps a b ntmps
 |_,_=>False
def noK:FuncId->Array Tmp->Code->Code->Nat->Prop:=fun _ _ _ _ _=>False
def zAN(P:Program)(T:FuncId->Option CFn)(v:FuncId)(ps:Array Tmp)(a b:Code)(n:Nat):Prop :=
 ∃c pre an,T v=some c/\c.rnd=some (ps.toList,pre)/\zae noK P an n a pre/\zae noK P an n b c.code/\ps.toList.Nodup/\∀p∈ps.toList,p<n
end
variable[zb0]
theorem zae.mono{K K':FuncId->Array Tmp->Code->Code->Nat->Prop}{P:Program}{an:Ann}{ntmps:Nat}(hK:∀v ps a b,K v ps a b ntmps->K' v ps a b ntmps):∀{c:Code} {cc:CC},zae K P an ntmps c cc->zae K' P an ntmps c cc
 |.skip,cc,h=>by cases cc<;>simp only[zae]at h ⊢
 |.region ..,cc,h=>by cases cc<;>simp only[zae]at h ⊢;grind
 |.seq a b,cc,h=>by cases cc<;>simp only[zae]at h ⊢;exact⟨zae.mono hK h.1,zae.mono hK h.2⟩
 |.cond c a b,cc,h=>by cases cc<;>simp only[zae]at h ⊢;exact⟨h.1,zae.mono hK h.2.1,zae.mono hK h.2.2⟩
 |.block id b,cc,h=>by cases cc<;>simp only[zae]at h ⊢;exact⟨h.1,zae.mono hK h.2⟩
 |.loop b,cc,h=>by cases cc<;>simp only[zae]at h ⊢;exact zae.mono hK h
 |.exit id,cc,h=>by cases cc<;>simp only[zae]at h ⊢;grind
 |.ret,cc,h=>by cases cc<;>simp only[zae]at h ⊢
 |.label l,cc,h=>by cases cc<;>simp only[zae]at h ⊢
 |.rangeFunc g ps a b,cc,h=>by cases cc<;>simp only[zae]at h ⊢;grind
 |.goto l,cc,h=>by cases cc<;>simp only[zae]at h
 |.scope b,cc,h=>by cases cc<;>simp only[zae]at h ⊢;exact⟨h.1,zae.mono hK h.2⟩
theorem zfr:∀c:Code,(rfs c).length=zeV c
 |.seq a b=>by simp[rfs,zeV,zfr a,zfr b]
 |.cond c a b=>by simp[rfs,zeV,zfr a,zfr b]
 |.block id b=>by simp[rfs,zeV,zfr b]
 |.loop b=>by simp[rfs,zeV,zfr b]
 |.scope b=>by simp[rfs,zeV,zfr b]
 |.rangeFunc g ps a b=>by simp[rfs,zeV]
 |.skip=>rfl
 |.region ..=>rfl
 |.exit _=>rfl
 |.ret=>rfl
 |.label _=>rfl
 |.goto _=>rfl
 |.refuse _=>rfl
theorem zdt{K:FuncId->Array Tmp->Code->Code->Nat->Prop}{P:Program}{an:Ann}{ntmps:Nat}:∀{vf:Option FuncId} {c:Code} {cc:CC},zbj P an ntmps vf c=some cc ->
  (∀v i x,vf=some v->(rfs c)[i]?=some x->K (v+i) x.1 x.2.1 x.2.2 ntmps)->zae K P an ntmps c cc
 |vf,.skip,cc,h,hK=>by simp only[zbj,jh]at h;subst h;trivial
 |vf,.region id ops draw,cc,h,hK=>by
  simp only[zbj]at h;split at h
  ·rename_i h1;cases h;exact h1
  grind
 |vf,.seq a b,cc,h,hK=>by
  simp only[zbj]at h;split at h
  ·rename_i a' b' h1 h2;cases h;refine⟨zdt h1 fun v i x hv hx=>hK v i x hv (by grind [rfs,List.getElem?_append_left,zC]),zdt h2 fun v i x hv hx=>?_⟩;simp only[ja]at hv;obtain⟨v0,hv0,rfl⟩:=hv
   simp_all [zeV,rfs,jX,zfr,kU]
  grind
 |vf,.cond c a b,cc,h,hK=>by
  simp only[zbj]at h;split at h
  ·rename_i c' a' b' h0 h1 h2;cases h;refine⟨h0,zdt h1 fun v i x hv hx=>hK v i x hv (by grind [rfs,List.getElem?_append_left,zC]),zdt h2 fun v i x hv hx=>?_⟩;simp only[ja]at hv;obtain⟨v0,hv0,rfl⟩:=hv
   simp_all [zeV,rfs,jX,zfr,kU]
  grind
 |vf,.block id b,cc,h,hK=>by
  simp only[zbj,ja]at h;obtain⟨b',h1,rfl⟩:=h;exact⟨rfl,zdt h1 hK⟩
 |vf,.loop b,cc,h,hK=>by
  simp only[zbj,ja]at h;obtain⟨b',h1,rfl⟩:=h;have:=zdt h1 hK;exact this
 |vf,.exit id,cc,h,hK=>by simp only[zbj,jh]at h;subst h;exact rfl
 |vf,.ret,cc,h,hK=>by simp only[zbj,jh]at h;subst h;trivial
 |vf,.label l,cc,h,hK=>by simp only[zbj,jh]at h;subst h;trivial
 |vf,.goto l,cc,h,hK=>by simp[zbj]at h
 |vf,.scope b,cc,h,hK=>by
  simp only[zbj,ja]at h;obtain⟨b',h1,rfl⟩:=h;exact⟨rfl,zdt h1 hK⟩
 |vf,.refuse b,cc,h,hK=>by simp[zbj]at h
 |vf,.rangeFunc g ps a b,cc,h,hK=>by
  simp only[zbj]at h;split at h
  ·rename_i v f a' b' hf h1 h2;cases h;have:=hK v 0 (ps,a,b) rfl rfl;exact⟨hf,this⟩
  grind
theorem zfQ{K:FuncId->Array Tmp->Code->Code->Nat->Prop}{P:Program}{an:Ann}{ntmps:Nat}:∀{c:Code} {cc:CC} {l:List Nat} {ex:List (Nat×List Nat)} {rt:List Nat},zae K P an ntmps c cc->zae K P an ntmps c (annot cc l ex rt)
 |c,.skip,l,ex,rt,h=>by grind [annot]
 |c,.region nA cs prs k,l,ex,rt,h=>by cases c<;>simp only[zae,annot]at h ⊢;grind
 |c,.seq a b,l,ex,rt,h=>by
  cases c<;>simp only[zae,annot]at h ⊢
  ·exact⟨zfQ h.1,zfQ h.2⟩
  ·obtain⟨rfl,h⟩:=h;exact⟨rfl,zfQ h⟩
 |c,.cond x a b,l,ex,rt,h=>by cases c<;>simp only[zae,annot]at h ⊢;exact⟨h.1,zfQ h.2.1,zfQ h.2.2⟩
 |c,.block i b,l,ex,rt,h=>by cases c<;>simp only[zae,annot]at h ⊢;exact⟨h.1,zfQ h.2⟩
 |c,.loop k b,l,ex,rt,h=>by cases c<;>simp only[zae,annot]at h ⊢;exact zfQ h
 |c,.exit i,l,ex,rt,h=>by grind [annot]
 |c,.ret,l,ex,rt,h=>by grind [annot]
 |c,.rng f v caps,l,ex,rt,h=>by grind [annot]
theorem zn1{E:Env}{n:Nat}{v:AV}:∀{l:List Nat},(E.uV l).get n=some v->E.get n=some v
 |[],h=>by grind [Env.uV,Env.get]
 |m::l,h=>by
  simp only[Env.uV]at h;split at h
  ·simp only[Env.get]at h;split at h
   ·grind
   ·exact zn1 h
  ·exact zn1 h
theorem zAg{E:Env}{n:Nat}{v:AV}{k:Option (List Nat)}(h:(E.kept k).get n=some v):E.get n=some v:=by
 cases k with
 |none=>exact h
 |some l=>exact zn1 h
theorem zBK{E:Env}{n:Nat}{v:AV}(h:E.get n=some v):(n,v)∈E:=by
 induction E with
 |nil=>grind [Env.get]
 |cons x E ih =>
  grind [Env.get,List.mem_cons_self,List.mem_cons_of_mem]
section
variable{own:Nat->Prop}{P:Program}{cf:za4}{ntmps:Nat}{F:Fence}{n:Nat}{Q:Exit->Act->World->Prop}{σ:zP}{j:Inj}{M:Mem}{a:Act}{w:World}
theorem At.sub{E E':zhy}(h:At own σ j E M ntmps a w)(hs:∀n v,E' n=some v->E n=some v):At own σ j E' M ntmps a w :=
 ⟨fun n x hx=>h.env n x (hs n x hx),h.size,h.marks,h.yB,h.mem,h.own⟩
def zw5(k:Nat)(j:Inj):Inj:=fun id g=>if id<k then j id g else none
theorem zw3{E:Env}{k:Nat}(h:At own σ j E.get M ntmps a w)(hk:k<=M.length):∃j',At own σ j' E.get (kD k E M) ntmps a w/\za2 own k σ j M w σ j' (kD k E M) w/\k<=(kD k E M).length:=by
 unfold kD;split
 ·grind [za2.refl]
 ·split
  ·rename_i hb;simp only[jl]at hb;let ρ:Nat->Option Nat:=fun id=>if id<k then some id else none
   have hkb:zbs ρ k:=fun id hid=>by grind
   have By:zi8 ρ j (zw5 k j):=by
    intro id id' g pl h1 h2
    grind [zw5]
   have get:∀(id:Nat) (b:Blk),(M.take k)[id]?=some (some b)->id<k/\M[id]?=some (some b):=by
    grind
   have put:∀(id:Nat) (b:Blk),id<k->M[id]?=some (some b)->(M.take k)[id]?=some (some b):=by
    grind
   have cutk:∀id g,id<k->zw5 k j id g=j id g:=fun id g hid=>by grind [zw5]
   refine⟨zw5 k j,⟨fun m x hx=>?_,h.size,h.marks,h.yB,⟨fun id b hb'=>?_,fun id id' b b' q hb1 hb2 hL hL'=>?_,fun id g pl hj=>?_,fun id g pl hj=>by
    simp only[zw5]at hj;split at hj
    ·exact h.mem.okP _ _ _ hj
    grind⟩,h.own⟩,?_,by grind⟩
   ·obtain⟨v,hv,hr⟩:=h.env m x hx;refine⟨v,hv,znm By (zqH hkb ?_) hr⟩;have:=jz.1 hb.1 _ (zBK hx)
    grind
   ·obtain⟨hid,hb1⟩:=get id b hb';obtain⟨pl,h1,h2,h3⟩:=h.mem.vL id b hb1;refine⟨pl,by grind,zkp By (zqG hkb ?_) h2,h3⟩;have:=hb.2;simp only[zH,jz]at this;exact this (some b) (kJ hb')
   ·obtain⟨hid,hb1⟩:=get id b hb1;obtain⟨yw,hb2⟩:=get id' b' hb2;have hL:j.atk id b.gen=some q:=by grind [Inj.atk]
    have hL':j.atk id' b'.gen=some q:=by grind [Inj.atk]
    exact h.mem.vo id id' b b' q hb1 hb2 hL hL'
   ·simp only[zw5]at hj;split at hj
    ·obtain⟨b,hb1,hg⟩:=h.mem.dom id g pl hj
     grind
    grind
   ·exact⟨zP.le_refl _,fun id g pl hid hj=>by grind,jm _,fun _ _ _=>rfl,fun _ _ _ h=>.inl h,fun id b hid hb1=>⟨b,put id b hid hb1,jm _,fun _=>⟨rfl,fun _ _=>rfl⟩⟩,zd9.refl _⟩
  grind [za2.refl]
theorem zrx{E:Env}{k:Nat}{live:Option (List Nat)}(h:At own σ j E.get M ntmps a w)(hk:k<=M.length) :
  ∃j',At own σ j' (canon k live E M).1.get (canon k live E M).2 ntmps a w/\za2 own k σ j M w σ j' (canon k live E M).2 w/\k<=(canon k live E M).2.length:=by
 cases live with
 |none=>exact⟨j,h,za2.refl,hk⟩
 |some l=>exact zw3 (E:=E.uV l) (h.sub fun n v hv=>zn1 hv) hk
def zrk:EX->Exit
 |.normal=>.normal
 |.exit id=>.exit id
 |.ret=>.ret
def zzd(own:Nat->Prop)(k:Nat)(σ:zP)(j:Inj)(M:Mem)(w:World)(ntmps:Nat)(ds:List Deferred)(ex:EX)(E':Env)(M':Mem):Exit->Act->World->Prop :=
 fun e a' w'=>e=zrk ex/\∃AT σ' j',(∀b,AT b->own b)/\(∀d∈a'.defers,d∈ds\/∃r,d=zkw r/\own r/\w.heap.size<=r)/\At AT σ' j' E'.get M' ntmps a' w'/\za2 own k σ j M w σ' j' M' w'/\k<=M'.length
theorem least{p:Nat->Prop}(h:∃n,p n):∃n,p n/\∀m,p m->n<=m:=by
 obtain⟨n,hn⟩:=h;induction n using Nat.strongRecOn with
 |_ n ih =>
  grind
open Classical in
noncomputable def zqb(p:Nat->Prop):Nat:=if h:∃n,p n then(least h).choose else 0
theorem znY{p:Nat->Prop}{n:Nat}(h:p n):p (zqb p)/\zqb p<=n:=by
 have hx:∃n,p n:=⟨n,h⟩
 grind [zqb]
theorem zqk{c:Code}(J:Nat->Act->World->Prop){m:Nat}(h:J m a w)
  (round:∀m a w,J m a w->∃m',m=m'+1/\c.wpIn F n P (Exit.then (J m') Q) a w):(Code.loop c).wpIn F n P Q a w:=by
 refine wpIn_loop (fun a w=>∃m,J m a w) (fun a w=>zqb fun m=>J m a w) ⟨m,h⟩ ?_;rintro a w ⟨m,hm⟩;obtain⟨h1,_⟩:=znY (p:=fun m=>J m a w) hm;obtain⟨m',he,hw⟩:=round _ a w h1;refine wpIn_mono hw fun e a' w' hq=>?_
 cases e with
 |normal =>
  refine⟨⟨m',hq⟩,?_⟩;have:=(znY (p:=fun m=>J m a' w') hq).2;omega
 |_=>exact hq
theorem zgd{P:Program}{b:Frame}{a:Act}{k:List Item}{cs:List Frame}{w:World}{c:Code}:step P (lone (b.atR a (.code (.scope c)::k)) cs w)=.next (lone (b.atR a (.code c::.inScope c::k)) cs w) :=
 step_lone_go (by simp[stepG,stepG.exec,Frame.atR])
theorem zr3{P:Program}{b:Frame}{a:Act}{k:List Item}{cs:List Frame}{w:World}{c:Code}:step P (lone (b.atR a (.inScope c::k)) cs w)=.next (lone (b.atR a k) cs w) :=
 step_lone_go (by simp[stepG,stepG.exec,Frame.atR])
theorem zv5{F:Fence}{n:Nat}{P:Program}{Q:Exit->Act->World->Prop}{a:Act}{w:World}{c:Code}(h:c.wpIn F n P (fun e a w=>(∀l,e≠.goto l)/\Q e a w) a w):(Code.scope c).wpIn F n P Q a w:=by
 intro b k cs hro hb hr;have h0:(lone (b.atR a (.code (.scope c)::k)) cs w).fenced P F:=fenced_calm hb hr rfl;obtain⟨e,a₁,w₁,⟨hg,hq⟩,Cc⟩:=h b (.inScope c::k) cs hro hb hr;cases e with
 |normal=>exact⟨.normal,a₁,w₁,hq,.head h0 zgd (StepsIn.trans Cc (.one (fenced_calm hb hr rfl) zr3))⟩
 |exit id =>
  have hx:exitTo id (.inScope c::k)=exitTo id k:=by simp[exitTo]
  exact⟨_,a₁,w₁,hq,fun k' hk=>.head h0 zgd (Cc.1 k' (by grind)),
   fun hr' hk=>let ⟨k₁,h1,h2⟩:=Cc.2 hr' (by grind);⟨k₁,h1,.head h0 zgd h2⟩⟩
 |goto l=>grind
 |ret=>exact⟨_,a₁,w₁,hq,.of_steps (.one h0 zgd) Cc⟩
 |panic ch=>exact⟨_,a₁,w₁,hq,.of_steps (.one h0 zgd) Cc⟩
 |outgrown=>exact⟨_,a₁,w₁,hq,.of_steps (.one h0 zgd) Cc⟩
theorem zzd.trans{own B7:Nat->Prop}{k:Nat}{σ σ1:zP}{j j1:Inj}{M M1:Mem}{w w1:World}{ds ds1:List Deferred}{ex:EX}{E':Env}{M':Mem}{e:Exit}{a':Act}{w':World}(ho:∀b,B7 b->own b)(hd:∀d∈ds1,d∈ds\/∃r,d=zkw r/\own r/\w.heap.size<=r)
  (hst:za2 own k σ j M w σ1 j1 M1 w1) (hk:k<=M1.length) (h:zzd B7 M1.length σ1 j1 M1 w1 ntmps ds1 ex E' M' e a' w'):zzd own k σ j M w ntmps ds ex E' M' e a' w':=by
 obtain⟨rfl,own2,σ2,j2,q1,q2,q3,q4,q5⟩:=h;refine⟨rfl,own2,σ2,j2,fun b hb=>ho b (q1 b hb),fun d hd'=>?_,q3,hst.trans ((q4.vI ho).le hk),jO hk q5⟩;rcases q2 d hd' with h |⟨r,h1,h2,h3⟩
 ·grind
 ·exact .inr ⟨r,h1,ho r h2,jO hst.size h3⟩
def noR:CC->Bool
 |.seq a b |.cond _ a b=>noR a&&noR b
 |.block _ b |.loop _ b=>noR b
 |.rng ..=>false
 |_=>true
theorem zkv{P:Program}{an:Ann}:∀{c:Code} {cc:CC},zae noK P an ntmps c cc->noR cc=true
 |c,.skip,h=>rfl
 |c,.region ..,h=>rfl
 |c,.seq a b,h=>by
  cases c<;>simp only[zae,noR,jl]at h ⊢
  ·exact⟨zkv h.1,zkv h.2⟩
  ·obtain⟨rfl,h⟩:=h;exact⟨zkv h,rfl⟩
 |c,.cond x a b,h=>by cases c<;>simp only[zae,noR,jl]at h ⊢;exact⟨zkv h.2.1,zkv h.2.2⟩
 |c,.block i b,h=>by cases c<;>simp only[zae,noR]at h ⊢;exact zkv h.2
 |c,.loop k b,h=>by cases c<;>simp only[zae,noR]at h ⊢;exact zkv h
 |c,.exit i,h=>rfl
 |c,.ret,h=>rfl
 |c,.rng ..,h=>by cases c<;>simp only[zae,noK,and_false]at h
theorem zzE(hF:zhz F)(hcf:FnS P cf)(hro:F.round=none){g:Operand}{ps:Array Tmp}{x b:Code}{f:Opd}{v:FuncId}{caps:List Nat}{E E':Env}{M':Mem}{ex:EX}(hg:za5 g=some f)(hK:zb0.okc v ps x b ntmps)
  (hx:zaV cf 0 (.rng f v caps) E M=some (ex,E',M')) (hat:At own σ j E.get M ntmps a w):(Code.rangeFunc g ps x b).wpIn F n P (zzd own M.length σ j M w ntmps a.defers ex E' M') a w:=by
 simp only[zaV]at hx;split at hx
 ·rename_i g0 gi ga hfv;split at hx
  ·rename_i r M1 fp qI;split at hx
   ·rename_i s hs;split at hx
    ·rename_i ex' M2 BB AD;simp only[jh,jt]at hx;obtain⟨rfl,rfl,rfl⟩:=hx;refine wpIn_rangeFunc fun fn hfn=>?_
     rw[hro];generalize hrec:({ state:=.ready,pending:=none,fn,tmps:=a.tmps,params:=ps,assign:=x,body:=b,defers:=w.heap.size }:Loop)=rc;obtain⟨j1,hj1,CP,hm1,yJ⟩:=zBE (r:=rc) (f:=v) (caps:=caps) (E:=E) (by grind) (by grind) (by rw[<-hrec];show zb0.okc v ps x b a.tmps.size;rw[hat.size];grind) (by rw[<-hrec];exact hat.env) hat.yB hat.mem hat.own;generalize hw1:(w.alloc (.deferred (some []))).alloc (.loop rc)=w1 at *;have BT:w1.heap.size=w.heap.size+2:=by rw[<-hw1];simp
     have hmark:w1.heap[w.heap.size]?=some (.deferred (some [])):=by
      rw[<-hw1];show((w.heap.push _).push _)[w.heap.size]?=_
      grind
     have Cp:=yJ.jle' hat.mem (jm _);have hfw:WVR σ j1 (.c (.fn g0 gi ga)) (a.eval g):=zWl hat.yB.kY (hat.env.mono (zP.le_refl _) Cp) hg hfv;have hyv:zac σ j1 [.c (.yld M.length v (zeN E caps).1)] (#[Value.func (.yield (w.heap.size+1)) #[] #[]]:Array Value).toList :=
      zac.cons (show WVR σ j1 (.c (.yld M.length v (zeN E caps).1)) _ from .yld _ _ _ _ _ rc hj1) zac.nil
     have hown1:∀b,w1.heap.size<=b->(own b/\b≠w.heap.size):=fun b hb=>⟨hat.own b (by omega),by omega⟩
     rcases zpA hcf qI CP hm1 hown1 hfw hyv with⟨h,fi,ca,fnn,BC,q1,q2,q3,hc⟩ |⟨l,rc',BC,hl,hsz,Ar⟩
     ·have DA:=run_enterLoop_outer (P:=P) (w:=w) fn a.tmps ps x b;rw[hrec,hw1]at DA;refine⟨w.heap.size+1,_,w1,{ target:=.fn (.func h) ca,args:=fi ++ #[.func (.yield (w.heap.size+1)) #[] #[]] },w1,h,fi ++ #[.func (.yield (w.heap.size+1)) #[] #[]]++ca,w1,DA,?_,fun f' _=>hF.fn f',?_,fun h=>(by rw[hF.depth]at h;grind),hF.calls ?_⟩
      ·show(Deferred.ofValue (a.eval g) (#[Operand.const (.func (.yield (w.heap.size+1)) #[] #[])].map a.eval)).run P w1=_;rw[BC];simp[Deferred.ofValue,Act.eval]
      ·grind [invoke,zsS]
      ·refine Calls.yr hc ?_;rintro e w2 ⟨vv,σ2,j2,rfl,hr,Cw,hm2,yI⟩;have hlen:M.length<(M++[some (ghost (zeN E caps).2)]).length:=by simp
       have hj2:j2 M.length 0=some (.rnd (w.heap.size+1) rc v (zeN E caps).1):=yI.jle _ _ _ hlen hj1;obtain⟨bb,cells,hlk,u6,_⟩:=zsJ hs;obtain⟨_,_,hrb⟩:=zjB hm2 hj2 hlk;obtain⟨s0,DG,pd,vs,h1,h2,h3,h4,h5⟩:=hrb.st;rw[u6]at h1;cases h1;have hne:s≠-1:=by rintro rfl;grind [znr]
       have hs1:s≠1:=by rintro rfl;grind [znr]
       have hpd:=h3 hne;obtain⟨hag3,hm3,Co⟩:=znk (pd:=pd) Cw hm2 hj2 AD (fun h=>absurd rfl h);have Bp:=run_endLoop (P:=P) h2 (by
        grind [zfS])
       have e0:zfS (-1)=.exhausted:=by simp[zfS]
       rw[e0]at hag3 hm3 Co;have hmarkw:∀r,w1.heap[r]?=some (.deferred (some []))->¬(own r/\r≠w.heap.size)->(w2.putObj (w.heap.size+1) (.loop { rc with state:=.exhausted,pending:=pd })).heap[r]?=some (.deferred (some [])):=by
        intro r hr1 hr2;have hlt:=(jH.1 hr1).1;rw[Co.frame r (vV hlt yI.size) hr2,yI.frame r hlt hr2];grind
       have CN:At (fun k=>own k/\k≠w.heap.size) σ2 j2 E.get M2 ntmps { a with defers:=[zkw w.heap.size]++a.defers } (w2.putObj (w.heap.size+1) (.loop { rc with state:=.exhausted,pending:=pd })):=by
        have hjle:=yI.jle' hm1 (jm _);refine⟨hat.env.mono yI.sle (Inj.le_trans Cp hjle),hat.size,?_,hag3,hm3,fun k hk=>?_⟩
        ·obtain⟨rs,e1,e2,e3⟩:=hat.marks;have hrlt:∀r∈rs,r<w.heap.size:=fun r hr=>(jH.1 (e3 r hr).1).1
         refine⟨w.heap.size::rs,by grind,qN.2 ⟨fun h=>vM _ (hrlt _ h),e2⟩,fun r hr=>?_⟩;rcases jQ.1 hr with rfl|hr
         ·grind
         ·have hlt:=hrlt r hr;have hold:w1.heap[r]?=w.heap[r]?:=yJ.frame r hlt (e3 r hr).2
          grind
        ·have hk:w2.heap.size<=k:=by simp_all
         grind
       have Ds:∀ee,ee=zrk ex'->zzd own M.length σ j M w ntmps a.defers ex' E M2 ee { a with defers:=[zkw w.heap.size]++a.defers } (w2.putObj (w.heap.size+1) (.loop { rc with state:=.exhausted,pending:=pd })):=by
        rintro ee rfl;refine⟨rfl,_,σ2,j2,fun k hk=>hk.1,fun d hd=>?_,CN,yJ.trans (((yI.trans (Co.le (by
          grind))).vI (fun k hk=>hk.1)).le (by simp)),?_⟩
        ·rcases jN.1 hd with h|h
         ·exact .inr ⟨_,jG.1 h,hat.own _ (jm _),jm _⟩
         grind
        ·have:=zC (zaz hlk).1;obtain⟨_,_,_,_,rfl⟩:=zg0 AD
         grind
       refine⟨pd,_,Bp,?_⟩;unfold znr at BB;split at BB
       ·rename_i h0;cases BB;have:pd=none:=by rw[hpd,h0];rfl
        subst this;exact Ds _ rfl
       ·split at BB
        ·rename_i h0;cases BB;have:pd=some .ret:=by rw[hpd,h0];rfl
         subst this;exact wpIn_ret (Ds _ rfl)
        ·split at BB
         ·rename_i h0 h2' h3';cases BB;have:pd=some (.exit (s-3).toNat):=by
           simp_all [zqM,znr,if_neg,if_pos]
          subst this;exact wpIn_exit (Ds _ rfl)
         grind
     ·
      exfalso;have hfw:VC σ j1 (.fn g0 gi ga) (a.eval g):=hfw;rw[BC]at hfw;cases hfw
    grind
   grind
  grind
 grind
theorem zdw(hF:zhz F)(hcf:FnS P cf)(vq:P.follows .mixedOrders=true){an:Ann}:∀{c:Code} {cc:CC} {fuel:Nat} {E E':Env} {M M':Mem} {ex:EX} {own:Nat->Prop} {σ:zP} {j:Inj} {a:Act} {w:World},zae zb0.okc P an ntmps c cc->(F.round=none\/noR cc=true) ->
  zaV cf fuel cc E M=some (ex,E',M')->At own σ j E.get M ntmps a w->c.wpIn F n P (zzd own M.length σ j M w ntmps a.defers ex E' M') a w
 |.skip,cc,fuel,E,E',M,M',ex,own,σ,j,a,w,hc,hro,hx,hat=>by
  cases cc<;>simp only[zae]at hc;simp only[zaV,jh,jt]at hx;obtain⟨rfl,rfl,rfl⟩:=hx;exact wpIn_skip ⟨rfl,own,σ,j,fun _ h=>h,fun d h=>.inl h,hat,za2.refl,jm _⟩
 |.region id ops draw,cc,fuel,E,E',M,M',ex,own,σ,j,a,w,hc,hro,hx,hat=>by
  cases cc<;>simp only[zae]at hc;rename_i nA cs prs uV;simp only[zaV]at hx;split at hx
  ·rename_i E1 M1 fs hr;split at hx
   ·rename_i hp;simp only[jh,jt]at hx;obtain⟨rfl,rfl,rfl⟩:=hx;refine ziY hF hcf vq hc hr hp hat fun a' w' σ' j' h1 h2 h3 h4=>⟨rfl,own,σ',j',fun _ h=>h,fun d h=>.inl (h4 ▸ h),h1.sub fun n v hv=>zAg hv,h2,h3⟩
   grind
  grind
 |.seq x y,cc,fuel,E,E',M,M',ex,own,σ,j,a,w,hc,hro,hx,hat=>by
  cases cc<;>simp only[zae]at hc;rename_i x' y';simp only[zaV]at hx;refine wpIn_seq ?_;split at hx
  ·rename_i E1 M1 h1;refine wpIn_mono (zdw hF hcf vq hc.1 (hro.imp (fun h=>h) fun h=>(by simp_all [noR,jl])) h1 hat) fun e a1 w1 hq=>?_
   obtain⟨rfl,B7,σ1,j1,ho1,hd1,AM,yJ,hk1⟩:=hq;refine wpIn_mono (zdw hF hcf vq hc.2 (hro.imp (fun h=>h) fun h=>(by simp_all [noR,jl])) hx AM) fun e a2 w2 hq=>?_
   exact hq.trans ho1 hd1 yJ hk1
  ·rename_i hne;refine wpIn_mono (zdw hF hcf vq hc.1 (hro.imp (fun h=>h) fun h=>(by simp_all [noR,jl])) hx hat) fun e a1 w1 hq=>?_
   obtain⟨rfl,hq⟩:=hq;cases ex with
   |normal=>grind
   |exit i=>exact⟨rfl,hq⟩
   |ret=>exact⟨rfl,hq⟩
 |.cond c x y,cc,fuel,E,E',M,M',ex,own,σ,j,a,w,hc,hro,hx,hat=>by
  cases cc<;>simp only[zae]at hc;obtain⟨hco,hca,hcb⟩:=hc;simp only[zaV]at hx;split at hx
  ·rename_i t ht;have hv:VC σ j (.bool t) (a.eval c):=zWl hat.yB.kY hat.env hco ht;have he:a.eval c=.bool t:=by
    generalize a.eval c=v at hv;cases hv;rfl
   refine wpIn_cond he ?_;cases t with
   |true=>simp only[if_true]at hx ⊢;exact zdw hF hcf vq hca (hro.imp (fun h=>h) fun h=>(by simp_all [noR,jl])) hx hat
   |false=>simp only[jE,if_false]at hx ⊢;exact zdw hF hcf vq hcb (hro.imp (fun h=>h) fun h=>(by simp_all [noR,jl])) hx hat
  grind
 |.block id b,cc,fuel,E,E',M,M',ex,own,σ,j,a,w,hc,hro,hx,hat=>by
  cases cc<;>simp only[zae]at hc;rename_i id' b';obtain⟨rfl,hc⟩:=hc;simp only[zaV]at hx;refine wpIn_block ?_;split at hx
  ·rename_i i1 E1 M1 h1;refine wpIn_mono (zdw hF hcf vq hc (hro.imp (fun h=>h) fun h=>(by grind [noR])) h1 hat) fun e a1 w1 hq=>?_
   obtain⟨rfl,hq⟩:=hq;split at hx
   ·rename_i hid;simp only[jh,jt]at hx;obtain⟨rfl,rfl,rfl⟩:=hx;simp only[zrk,Exit.inBlock,hid,if_true];exact⟨rfl,hq⟩
   ·rename_i hid;simp only[jh,jt]at hx;obtain⟨rfl,rfl,rfl⟩:=hx;simp only[zrk,Exit.inBlock,hid,if_false];exact⟨rfl,hq⟩
  ·rename_i hne;refine wpIn_mono (zdw hF hcf vq hc (hro.imp (fun h=>h) fun h=>(by grind [noR])) hx hat) fun e a1 w1 hq=>?_
   obtain⟨rfl,hq⟩:=hq;cases ex with
   |exit i=>grind
   |normal=>exact⟨rfl,hq⟩
   |ret=>exact⟨rfl,hq⟩
 |.loop b,cc,fuel,E,E',M,M',ex,own,σ,j,a,w,hc,hro,hx,hat=>by
  cases cc<;>simp only[zae]at hc;rename_i live b';simp only[zaV]at hx;obtain⟨j0,hat0,hst0,hk0⟩:=zrx (live:=live) hat (jm _);refine zqk (fun m a1 w1=>∃E1 M1 B7 σ1 j1,(∀b,B7 b->own b)/\(∀d∈a1.defers,d∈a.defers\/∃r,d=zkw r/\own r/\w.heap.size<=r)/\iter (zaV cf fuel b') live M.length m E1 M1=some (ex,E',M')/\At B7 σ1 j1 E1.get M1 ntmps a1 w1/\za2 own M.length σ j M w σ1 j1 M1 w1/\M.length<=M1.length)
   (m:=fuel) ⟨_,_,own,σ,j0,fun _ h=>h,fun d h=>.inl h,hx,hat0,hst0,hk0⟩ ?_
  rintro m a1 w1 ⟨E1,M1,B7,σ1,j1,ho1,hd1,hit,AM,yJ,hk1⟩;cases m with
  |zero=>grind [iter]
  |succ m =>
   refine⟨m,rfl,?_⟩;simp only[iter]at hit;split at hit
   ·rename_i E2 M2 h2;refine wpIn_mono (zdw hF hcf vq hc (hro.imp (fun h=>h) fun h=>(by grind [noR])) h2 AM) fun e a2 w2 hq=>?_
    obtain⟨rfl,own2,σ2,j2,ho2,hd2,Bq,yI,hk2⟩:=hq.trans ho1 hd1 yJ hk1;obtain⟨j3,BQ,Co,hk3⟩:=zrx (live:=live) Bq hk2;exact⟨_,_,own2,σ2,j3,ho2,hd2,hit,BQ,yI.trans (Co.vI ho2),hk3⟩
   ·rename_i hne;refine wpIn_mono (zdw hF hcf vq hc (hro.imp (fun h=>h) fun h=>(by grind [noR])) hit AM) fun e a2 w2 hq=>?_
    have hq:=hq.trans ho1 hd1 yJ hk1;have he:=hq.1;subst he;cases ex with
    |normal=>grind
    |exit i=>exact hq
    |ret=>exact hq
 |.exit id,cc,fuel,E,E',M,M',ex,own,σ,j,a,w,hc,hro,hx,hat=>by
  cases cc<;>simp only[zae]at hc;subst hc;simp only[zaV,jh,jt]at hx;obtain⟨rfl,rfl,rfl⟩:=hx;exact wpIn_exit ⟨rfl,own,σ,j,fun _ h=>h,fun d h=>.inl h,hat,za2.refl,jm _⟩
 |.ret,cc,fuel,E,E',M,M',ex,own,σ,j,a,w,hc,hro,hx,hat=>by
  cases cc<;>simp only[zae]at hc;simp only[zaV,jh,jt]at hx;obtain⟨rfl,rfl,rfl⟩:=hx;exact wpIn_ret ⟨rfl,own,σ,j,fun _ h=>h,fun d h=>.inl h,hat,za2.refl,jm _⟩
 |.label l,cc,fuel,E,E',M,M',ex,own,σ,j,a,w,hc,hro,hx,hat=>by
  cases cc<;>simp only[zae]at hc;simp only[zaV,jh,jt]at hx;obtain⟨rfl,rfl,rfl⟩:=hx;exact wpIn_label ⟨rfl,own,σ,j,fun _ h=>h,fun d h=>.inl h,hat,za2.refl,jm _⟩
 |.goto l,cc,fuel,E,E',M,M',ex,own,σ,j,a,w,hc,hro,hx,hat=>by cases cc<;>simp only[zae]at hc
 |.scope b,cc,fuel,E,E',M,M',ex,own,σ,j,a,w,hc,hro,hx,hat=>by
  cases cc<;>simp only[zae]at hc;rename_i b' c';obtain⟨rfl,hc⟩:=hc;simp only[zaV]at hx;have hx':zaV cf fuel b' E M=some (ex,E',M'):=by
   grind
  refine zv5 (wpIn_mono (zdw hF hcf vq hc (hro.imp (fun h=>h) fun h=>(by simp_all [noR,jl])) hx' hat) fun e a1 w1 hq=>⟨?_,hq⟩);obtain⟨rfl,_⟩:=hq;intro l;cases ex<;>simp[zrk]
 |.refuse b,cc,fuel,E,E',M,M',ex,own,σ,j,a,w,hc,hro,hx,hat=>by cases cc<;>simp only[zae]at hc
 |.rangeFunc f p x b,cc,fuel,E,E',M,M',ex,own,σ,j,a,w,hc,hro,hx,hat=>by
  cases cc<;>simp only[zae]at hc;rename_i f' v caps;have hro:F.round=none:=hro.resolve_right (by simp[noR]);exact zzE hF hcf hro hc.1 hc.2 (by simpa only[zaV]using hx) hat
end
end Go.Eng
namespace Go.Eng
open Go
variable[zb0]
section
variable{own:Nat->Prop}{P:Program}{cf:za4}{ntmps:Nat}{σ:zP}{j:Inj}{M:Mem}{a:Act}{w:World}
theorem zyB{t:TypeId}{agg:Bool}{size:Nat}{p:Cl}{v:Value}{av:AV}{M':Mem}{fp:FP}(hg:zeU P t=some agg)(hs:zbL P t=some size)
  (h:zdZ M agg (if agg then size else 1) p=some (av,M',fp)) (hv:VC σ j p v) (hag:zM σ w) (hm:MR own σ j M w) :
  ∃ad u,v=.pointer (some ad)/\(loadVar t ad).run P w=.ok u w/\AVR σ j av u:=by
 unfold zdZ at h;split at h
 ·rename_i id g i k;cases hv with
  |ptr _ _ _ _ _ L hL =>
   split at h
   ·rename_i b hb0;obtain⟨hb,Bi⟩:=zaz hb0;subst Bi;split at h
    ·rename_i row hrow;split at h
     ·rename_i cs hcs;obtain⟨hl,hk,kZ⟩:=zmL hcs;simp only[ja]at h;obtain⟨x,hx,he⟩:=h;cases he;obtain⟨vs,hvs,hcell⟩:=zh1 (σ:=σ) (j:=j) (cs:=cs) (f:=fun m=>w.cell? ⟨L.blk,L.off+i*L.esz+k+m,none⟩) (fun m c hc=>by
       obtain⟨v,h1,h2,_⟩:=hm.cell hb hL hrow (kZ m c hc)
       grind)
      exact⟨_,_,rfl,ze3 (P:=P) (w:=w) hg hs hl hvs hx hcell,WVR.AF vs hvs hx⟩
     grind
    grind
   grind
 ·rename_i row k;cases hv with
  |uT _ _ _ b o val h1 h2 =>
   split at h
   ·rename_i cs hcs;obtain⟨hl,hk,kZ⟩:=zmL hcs;simp only[ja]at h;obtain⟨x,hx,he⟩:=h;cases he;obtain⟨vs,hvs,hcell⟩:=zh1 (σ:=σ) (j:=j) (cs:=cs) (f:=fun m=>w.cell? ⟨b,o+k+m,none⟩) (fun m c hc=>by
     refine⟨val (k+m),?_,VC.Bv (h2 _ _ (kZ m c hc))⟩;rw[kU];exact hag.cells _ _ _ (h1 _ _ (kZ m c hc)))
    exact⟨_,_,rfl,ze3 (P:=P) (w:=w) hg hs hl hvs hx hcell,WVR.AF vs hvs hx⟩
   grind
 grind
def AQ(tmps:Array Value):ResultVar->Sem Value
 |.tmp t=>pure (tmps.getD t undef)
 |.cell a t=>do loadVar t (<-asAddr (tmps.getD a undef))
theorem zuS{E:Env}{r:ResultVar}{rc:RC}{x:WV}(hrc:zBn P r=some rc)(hx:zoD E M rc=some x)(hat:At own σ j E.get M ntmps a w) :
  ∃v,(AQ a.tmps r).run P w=.ok v w/\WVR σ j x v:=by
 have slot:∀{t:Nat} {y:AV},E.get t=some y->∃v,a.tmps.getD t undef=v/\AVR σ j y v:=by
  intro t y hy;obtain⟨v,hv,hr⟩:=hat.env t y hy
  simp_all
 cases r with
 |tmp t =>
  simp only[zBn,jh]at hrc;subst hrc;simp only[zoD]at hx;split at hx
  ·rename_i y hy;cases hx;obtain⟨v,hv,hr⟩:=slot hy;exact⟨v,by simp[AQ,hv],hr⟩
  grind
 |cell p t =>
  simp only[zBn]at hrc;split at hrc
  ·rename_i g sz hg hs;cases hrc;simp only[zoD]at hx;split at hx
   ·rename_i pc hy;split at hx
    ·rename_i y M1 fp hl;cases hx;obtain⟨v,hv,hr⟩:=slot hy;obtain⟨ad,u,rfl,ul,hu⟩:=zyB (P:=P) hg hs hl hr hat.yB hat.mem;exact⟨u,by grind [AQ,asAddr],hu⟩
    grind
   grind
  grind
theorem zpl{E:Env}(hat:At own σ j E.get M ntmps a w):∀{rs:List ResultVar} {rcs:List RC} {xs:List WV},znS P rs=some rcs->zlQ E M rcs=some xs ->
  ∃vs,(rs.mapM (AQ a.tmps):Sem (List Value)).run P w=.ok vs w/\zac σ j xs vs
 |[],rcs,xs,h,hx=>by
  simp_all [znS,jh,zlQ,zac.nil]
 |r::rs,rcs,xs,h,hx=>by
  simp only[znS]at h;split at h
  ·rename_i c cs h1 h2;cases h;simp only[zlQ]at hx;split at hx
   ·rename_i y ys q1 q2;cases hx;obtain⟨v,hv,hr⟩:=zuS h1 q1 hat;obtain⟨vs,hvs,hrs⟩:=zpl hat h2 q2
    simp_all [List.mapM_cons,zac.cons]
   grind
  grind
theorem ztE{E:Env}{fn:Func}{rcs:List RC}{r:AV}(hat:At own σ j E.get M ntmps a w)(hrc:znS P fn.results.toList=some rcs)(hr:zpk E M rcs=some r) :
  ∃v,(results fn a.tmps).run P w=.ok v w/\AVR σ j r v:=by
 unfold zpk at hr;have key:∀xs,zlQ E M rcs=some xs->∃vs:List Value,(results fn a.tmps).run P w=.ok (if h:vs.toArray.size=1 then vs.toArray[0] else .tuple vs.toArray) w/\zac σ j xs vs:=by
  intro xs hxs;obtain⟨vs,hvs,hrs⟩:=zpl hat hrc hxs;refine⟨vs,?_,hrs⟩;have hm:(fn.results.mapM (AQ a.tmps):Sem (Array Value)).run P w=.ok vs.toArray w:=by
   simp_all [yY]
  show(do let vs <-fn.results.mapM (AQ a.tmps);pure (if h:vs.size=1 then vs[0] else .tuple vs):Sem Value).run P w=_;simp[hm]
 split at hr
 ·rename_i v hv;cases hr;obtain⟨vs,h1,h2⟩:=key _ hv;obtain⟨u,us,rfl,hu,hus⟩:=h2.kO;have:=hus.vG;exact⟨u,by grind,hu⟩
 ·rename_i vs' hne hv;cases hr;obtain⟨vs,h1,h2⟩:=key _ hv;have hn:vs.toArray.size≠1:=by
   have hl:=h2.1
   match vs',hl with
   |[],hl=>grind
   |[x],hl=>grind
   |x::y::zs,hl=>grind
  rw[dif_neg hn]at h1;exact⟨_,h1,vs.toArray,rfl,by grind⟩
 grind
theorem zo7:∀{args:List WV} {vs:List Value} {tmps:Array Value} {i:Nat},zac σ j args vs->(∀(k:Nat) (v:Value),vs[k]?=some v->tmps[i+k]?=some v)->zcs σ j (vY i args).get tmps
 |[],vs,tmps,i,h,ht=>fun n x hx=>by grind [vY,Env.get]
 |x::args,vs,tmps,i,h,ht=>by
  obtain⟨v,vs',rfl,hv,hs⟩:=h.kO;intro n y hy;simp only[vY,Env.get]at hy;split at hy
  ·rename_i hin;cases hy;subst hin;exact⟨v,by simpa using ht 0 v rfl,hv⟩
  ·exact zo7 (i:=i+1) hs (fun k u hk=>by
    have:=ht (k+1) u (by grind)
    grind) n y hy
theorem zsQ{F:Fence}{n:Nat}{fn:Func}{tmps:Array Value}{R:Ending->World->Prop}:∀(rs:List Nat) {w:World},rs.Nodup->(∀r∈rs,w.heap[r]?=some (.deferred (some []))/\¬own r)->zM σ w->MR own σ j M w ->
  (∀w',(∀k,k∉rs->w'.heap[k]?=w.heap[k]?)->w'.heap.size=w.heap.size->zd9 w w'->zM σ w'->MR own σ j M w'->LeavesIn F n P fn tmps R [] .returning w')->LeavesInM F n P fn tmps R (rs.map zkw) .returning w
 |[],w,hn,hr,hag,hm,BD=>BD w (fun _ _=>rfl) rfl (zd9.refl _) hag hm
 |r::rs,w,hn,hr,hag,hm,BD=>by
  obtain⟨hnr,hn'⟩:=qN.1 hn;obtain⟨h1,h2⟩:=hr r (jy ..);have A7:∀k,k≠r->(w.putObj r (.deferred none)).heap[k]?=w.heap[k]?:=fun k hk=>World.putObj_heap_other hk
  refine⟨by simp,.inl ⟨r,_,rfl,run_takeDeferred h1,?_⟩⟩;refine zsQ rs hn' (fun r' hr'=>?_) ?_ (hm.Cr fun id b q hb hq=>A7 q (fun e=>h2 (e ▸ hm.CB hb hq))) ?_
  ·grind
  ·refine⟨?_,hag.kY⟩;intro k o v hv;have hold:=hag.cells k o v hv
   grind [World.cell?]
  ·intro w' q1 q2 q3 q4 q5;have hsd:zd9 w (w.putObj r (.deferred none)):=by
    exact⟨rfl,rfl,rfl,fun _=>jm _⟩
   refine BD w' (fun k hk=>?_) (by simp_all) (hsd.trans q3) q4 q5
   grind
theorem zuR{F:Fence}{n:Nat}{fn:Func}{own AT:Nat->Prop}{σ σ':zP}{j j':Inj}{M M2 M':Mem}{w w':World}{a':Act}{E:Env}{rcs:List RC}{r res:AV}{frz:Bool}(hm:MR own σ j M w)(vJ:Mem.full M)
  (ho:∀b,AT b->own b) (hd:∀d∈a'.defers,∃r,d=zkw r/\own r/\w.heap.size<=r) (hat:At AT σ' j' E.get M2 ntmps a' w') (hst:za2 own M.length σ j M w σ' j' M2 w') (hk:M.length<=M2.length)
  (hrc:znS P fn.results.toList=some rcs) (hr:zpk E M2 rcs=some r) (BD:leave frz M.length r M2=some (res,M')):LeavesInM F n P fn a'.tmps (Ret own σ j M w res M') a'.defers .returning w':=by
 obtain⟨rs,e1,e2,e3⟩:=hat.marks;rw[e1];have hge:∀r∈rs,own r/\w.heap.size<=r:=fun r hr=>by
  obtain⟨r',h1,h2,h3⟩:=hd (zkw r) (by rw[e1];exact jZ.2 ⟨r,hr,rfl⟩);cases h1;exact⟨h2,h3⟩
 refine zsQ rs e2 e3 hat.yB hat.mem fun w2 q1 q2 q3 q4 q5=>?_
 have Bq:At AT σ' j' E.get M2 ntmps { a' with defers:=[] } w2:=⟨hat.env,hat.size,zj3.nil,q4,q5,fun b hb=>hat.own b (by grind)⟩;obtain⟨v,hv,hvr⟩:=ztE Bq hrc hr;have yI:za2 own M.length σ j M w σ' j' M2 w2:=by
  refine⟨hst.sle,hst.jle,by rw[q2];exact hst.size,fun b hb hob=>?_,hst.B6,fun id b hid hb=>?_,hst.side.trans q3⟩
  ·rw[q1 b (fun h=>by grind)];exact hst.frame b hb hob
  ·obtain⟨b',hb',hv',he⟩:=hst.uV id b hid hb
   grind
 obtain⟨σ3,j3,p1,p2,p3,p4⟩:=zu7 hm rfl Bq.yB (Bq.mem.vI ho) yI vJ hk hvr BD;exact⟨v,hv,v,σ3,j3,rfl,p1,p2,p3,p4⟩
def zC5(P:Program)(f:FuncId)(c:CFn):Prop:=c.rnd=none/\∃fn body an,P.funcs[f]?=some fn/\fn.body=some body/\(fn.name == "runtime.NumGoroutine")=false/\c.nargs<=fn.ntmps/\zae zb0.okc P an fn.ntmps body c.code/\znS P fn.results.toList=some c.res
theorem zuf{an:Ann}{b:Bool}{f:FuncId}{c:CFn}(h:zoZ P an b f=some c)
  (hK:∀fn body i x,P.funcs[f]?=some fn->fn.body=some body->zeV body<=16->(rfs body)[i]?=some x->zb0.okc (P.funcs.size+16*f+i) x.1 x.2.1 x.2.2 fn.ntmps):zC5 P f c:=by
 unfold zoZ at h;split at h
 ·rename_i fn hf;split at h
  ·rename_i body rs hb hrs;split at h
   ·grind
   ·split at h
    ·rename_i cc hcc;split at h
     ·rename_i hle;cases h;have B0:zae zb0.okc P an fn.ntmps body cc:=zdt hcc fun v i x hv hx=>by
       grind
      refine⟨rfl,fn,body,an,hf,hb,by grind,hle.1,?_,hrs⟩
      grind [zfQ]
     grind
    grind
  grind
 grind
theorem zro{an:Ann}{f i:Nat}{c:CFn}{fn:Func}{body:Code}{x:Array Tmp×Code×Code}{T:FuncId->Option CFn}(h:zho P an true (P.funcs.size+16*f+i)=some c)(hT:T (P.funcs.size+16*f+i)=some c)(hf:P.funcs[f]?=some fn)(hb:fn.body=some body)(hn:zeV body<=16)(hx:(rfs body)[i]?=some x) :
  zAN P T (P.funcs.size+16*f+i) x.1 x.2.1 x.2.2 fn.ntmps:=by
 have hi:i<16:=by grind [zC,zfr]
 have e1:(P.funcs.size+16*f+i-P.funcs.size) / 16=f:=by omega
 have e2:(P.funcs.size+16*f+i-P.funcs.size) % 16=i:=by omega
 obtain⟨ps,a,b⟩:=x;simp only[zho,e1,e2,hf,hb,hx]at h;split at h
 ·rename_i a' b' ha hb';split at h
  ·rename_i hc;simp only[jl,jz,decide_eq_true_eq]at hc;simp only[if_true,jh]at h;have hno:∀(vf:Option FuncId) (c:Code) v i x,(none:Option FuncId)=some v->(rfs c)[i]?=some x->noK (v+i) x.1 x.2.1 x.2.2 fn.ntmps:=fun _ _ _ _ _ h _=>by grind
   refine⟨c,_,an,hT,by rw[<-h],zfQ (zdt ha (hno none a)),by grind [zfQ,zdt],zgy hc.1,hc.2⟩
  grind
 grind
theorem zwr(vq:P.follows .mixedOrders=true)(hcf:FnS P cf){n:Nat}{v:FuncId}{c:CFn}{ps:List Nat}{pre:CC}{args:List WV}{M M':Mem}{res:AV}(h:zoC cf n v ps pre c.code args M=some (res,M'))(vJ:Mem.full M)
  (hK:∀r:Loop,zb0.ok v r->∃an,r.params.toList=ps/\zae noK P an r.tmps.size r.assign pre/\zae noK P an r.tmps.size r.body c.code/\ps.Nodup/\∀p∈ps,p<r.tmps.size) :
  ∃id sh as,args=.c (.yld id v sh)::as /\
   ∀F n own σ j w l r (vs:Array Value),zhz F->(∀b,w.heap.size<=b->own b)->zM σ w->MR own σ j M w->j id 0=some (.rnd l r v sh)->zac σ j as vs.toList ->
    vs.size=r.params.size/\(∃s p,w.heap[l]?=some (.loop { r with state:=s,pending:=p })) /\
    RoundIn F n P l r.fn ((r.params.zip vs).foldl (fun tmps (t,a)=>tmps.setIfInBounds t a) r.tmps) r.assign r.body w (Ret own σ j M w res M'):=by
 unfold zoC at h;split at h
 ·rename_i id g sh as;split at h
  ·rename_i hc;obtain⟨rfl,hlen,hst0⟩:=hc;refine⟨id,sh,as,rfl,fun F nn own σ j w l r vs hF hown hag hm hj hvs=>?_⟩;obtain⟨an,hps,hpre,B0,hnd,hlt⟩:=hK r (hm.okP _ _ _ hj);obtain⟨b0,DG,hlk0,hrows0,yK⟩:=zsJ hst0;rw[yK]at h;dsimp only at h;obtain⟨hb0,hg0,hrb0⟩:=zjB hm hj hlk0;obtain⟨s0,cells1,pd0,us,q1,q2,q3,q4,q5⟩:=hrb0.st;rw[hrows0]at q1;cases q1;have hpd0:pd0=none:=q3 (by simp);subst hpd0;have hl0:w.heap[l]?=some (.loop { r with state:=.ready,pending:=none }):=q2;have hvl:vs.size=r.params.size:=by
    have h1:=hvs.1
    grind
   refine⟨hvl,⟨_,_,hl0⟩,?_⟩;split at h
   ·rename_i E0 hE0;have henv0:=zvy hE0 q4 q5;have hplt:∀p∈ps,p<r.tmps.size:=hlt;obtain⟨t1,t2,_⟩:=zqN (E0:=E0) (tmps:=r.tmps) (vs:=vs.toList) hnd hplt (by rw[hlen]) hvs henv0;rw[<-hps,<-zxR]at t1 t2;have hat0:At own σ j (zv3 r.params.toList as++E0).get M r.tmps.size { tmps:=(r.params.zip vs).foldl (fun(tmps:Array Value) (x:Nat×Value)=>tmps.setIfInBounds x.1 x.2) r.tmps,defers:=[] } w:=⟨t1,t2,zj3.nil,hag,hm,hown⟩;rw[<-hps]at h;split at h
    ·rename_i E1 M1 hx1;split at h
     ·rename_i M2 hset1;split at h
      ·rename_i ex E3 M3 hx2;split at h
       ·rename_i M4 hset2;refine roundIn_of_wpIn (hF.fn _) ?_;have hF':zhz (F.inRound l):=⟨hF.fn,hF.depth,hF.alive⟩;refine wpIn_mono (zdw hF' hcf vq (hpre.mono fun _ _ _ _ h=>h.elim) (.inr (zkv hpre)) hx1 hat0) fun e a1 w1 hq=>?_
        obtain⟨rfl,B7,σ1,j1,ho1,hd1,AM,yJ,hk1⟩:=hq;show ∃w2,_;have hj1:j1 id 0=some (.rnd l r g sh):=yJ.jle _ _ _ (zC hb0) hj;obtain⟨b1,cells1,hlk1,hrows1,_⟩:=zg0 hset1;obtain⟨hb1,_,hrb1⟩:=zjB AM.mem hj1 hlk1;obtain⟨s1,c1,pd1,us1,p1,p2,p3,p4,p5⟩:=hrb1.st;rw[hrows1]at p1;cases p1;have hpd1:pd1=none:=p3 (by simp);subst hpd1;have hl1:w1.heap[l]?=some (.loop { r with state:=.ready,pending:=none }):=p2;obtain⟨Cw,hm2,yI⟩:=znk (pd:=none) AM.yB AM.mem hj1 hset1 (fun _=>rfl);have e1:zfS 1=.busy:=rfl;rw[e1]at Cw hm2 yI;refine⟨_,run_beginRound hl1 rfl,?_⟩;have Bq:At B7 σ1 j1 E1.get M2 r.tmps.size a1 (w1.putObj l (.loop { r with state:=.busy,pending:=none })):=⟨AM.env,AM.size,AM.marks.frame yI.frame,Cw,hm2,fun b hb=>AM.own b (by simpa using hb)⟩;refine wpIn_mono (zdw hF' hcf vq (B0.mono fun _ _ _ _ h=>h.elim) (.inr (zkv B0)) hx2 Bq) fun e a3 w3 hq=>?_
        obtain⟨rfl,own3,σ3,j3,ho3,hd3,BQ,Co,hk3⟩:=hq;have hM2:M2.length=M1.length:=by grind
        have hj3:j3 id 0=some (.rnd l r g sh):=Co.jle _ _ _ (by grind) hj1;obtain⟨b3,cells3,hlk3,CH,_⟩:=zg0 hset2;obtain⟨hb3,_,hrb3⟩:=zjB BQ.mem hj3 hlk3;obtain⟨s3,c3,pd3,us3,r1,r2,r3,r4,r5⟩:=hrb3.st;rw[CH]at r1;cases r1;have hl3:w3.heap[l]?=some (.loop { r with state:=.busy,pending:=pd3 }):=r2;have hM4:M4.length=M3.length:=by grind
        have done:∀(jump:Option Code),(zxZ ex≠-1->jump=zqM (zxZ ex))->zfS (zxZ ex)=(if jump.isNone then .ready else .done)->jump.isNone=(ex==.normal) ->
          ∃v w',(Instr.endRound l jump).run P w3=.ok v w'/\Ret own σ j M w res M' (.returned v) w':=by
         intro jump hj1' hj2' hj3';obtain⟨hag4,hm4,Db⟩:=znk (pd:=jump) BQ.yB BQ.mem hj3 hset2 hj1';rw[hj2']at hag4 hm4 Db;refine⟨_,_,run_endRound jump hl3,?_⟩;have hstall:za2 own M.length σ j M w σ3 j3 M4 (w3.putObj l (.loop { r with state:=if jump.isNone then .ready else .done,pending:=jump })) :=
          ((yJ.trans ((yI.vI ho1).le hk1)).trans ((Co.vI ho1).le (by omega))).trans ((Db.vI (fun b hb=>ho1 b (ho3 b hb))).le (by omega))
         obtain⟨j5,z1,z2,z3⟩:=zkC (w:=w3.putObj l (.loop { r with state:=if jump.isNone then .ready else .done,pending:=jump })) (r:=.w (.c (.bool (ex==.normal)))) (v:=.bool jump.isNone) hm rfl ((hm4.vI ho3).vI ho1) hstall vJ (by rw[hj3'];exact VC.bool _ _) h;exact⟨_,σ3,j5,rfl,z1,hag4,z2,z3⟩
        cases ex with
        |normal=>exact done none (fun _=>rfl) rfl rfl
        |ret=>exact done (some .ret) (fun _=>rfl) rfl rfl
        |exit i =>
         refine done (some (.exit i)) (fun _=>?_) ?_ rfl
         ·have h1:¬(3+(i:Int)=0):=by omega
          have h2:¬(3+(i:Int)=2):=by omega
          have h3:(3:Int)<=3+i:=by omega
          have h4:(3+(i:Int)-3).toNat=i:=by omega
          grind [zqM,znr,zxZ]
         grind [zfS,zxZ]
       grind
      grind
     grind
    grind
   grind
  grind
 grind
theorem zrA(vq:P.follows .mixedOrders=true){T:FuncId->Option CFn}{X:za4}(hT:∀f c,T f=some c->(f<zb0.base->zC5 P f c)/\(zb0.base<=f->c.rnd.isSome=true))(hR:∀v ps a b n,zb0.okc v ps a b n->zAN P T v ps a b n)(hX:FnS P X):∀n,FnS P (zfk T X n)
 |0=>fun f args M res M' h=>by grind [zfk]
 |n+1=>fun f args M res M' h vJ=>by
  have ih:=zrA vq hT hR hX n;simp only[zfk]at h;split at h
  ·exact hX f args M res M' h vJ
  ·rename_i c hTf;obtain⟨hT1,hT2⟩:=hT f c hTf;split at h
   ·rename_i ps pre hrnd;refine⟨fun hlt=>?_,fun hge=>?_⟩
    ·rw[(hT1 hlt).1]at hrnd;grind
    ·refine zwr vq ih h vJ fun r hr=>?_
     obtain⟨c',pre',an,h1,h2,h3,h4,h5,h6⟩:=hR _ _ _ _ _ hr
     grind
   ·refine⟨fun hlt=>?_,fun hge=>by grind⟩;obtain⟨_,fn,body,an,hf,hb,CX,hle,B0,Bx⟩:=hT1 hlt;refine⟨fn,hf,by grind,CX,?_⟩;split at h
    ·intro own σ j w vs hown hag hm hvs;have hvl:vs.size=c.nargs:=by have:=hvs.1;grind
     have hsz:(vs++Array.replicate (fn.ntmps-vs.size) undef).size=fn.ntmps:=by grind
     have hat:At own σ j (vY 0 args).get M fn.ntmps { tmps:=vs++Array.replicate (fn.ntmps-vs.size) undef,defers:=[] } w :=
      ⟨zo7 hvs (fun k v hk=>by
       grind),hsz,zj3.nil,hag,hm,hown⟩
     have fin:∀{ex:EX} {E:Env} {M2:Mem} {r:AV},(ex=.normal\/ex=.ret)->zaV (zfk T X n) n c.code (vY 0 args) M=some (ex,E,M2)->zpk E M2 c.res=some r->leave c.frz M.length r M2=some (res,M') ->
       Calls P f vs w (Ret own σ j M w res M'):=by
      intro ex E M2 r hexit hx hr BD;have hF:zhz Fence.wide:=⟨fun _=>trivial,rfl,rfl⟩;refine callsIn_wide (n:=0).1 (callsIn_of_wp_marks hf hb trivial ?_);refine wpIn_mono (zdw hF ih vq B0 (.inl rfl) hx hat) fun e a' w' hq=>?_
      obtain⟨rfl,AT,σ',j',ho,hd,CN,hst,hk⟩:=hq;have:=zuR (F:=Fence.wide) (n:=0) hm vJ ho (fun d hd'=>(hd d hd').resolve_left (fun h=>by grind)) CN hst hk Bx hr BD;rcases hexit with rfl|rfl
      ·exact this
      ·exact this
     grind
    grind
def noX:za4:=fun _ _ _=>none
theorem znV:FnS P noX:=fun f args M res M' h=>by cases h
end
end Go.Eng
namespace Go.Eng
open Go
section
variable[GlobP]
def an0:Ann:={ mode:=fun _=>⟨true⟩,frz:=fun _=>true }
def nilCheck(P:Program)(id:Nat)(o:Array Oper)(esz:Nat):Bool:=match zeP P an0 8 id o.toList false with
 |some (1,[⟨_,some 2,none,.kA 0 e⟩],[])=>e==esz
 |_=>false
def zsE(P:Program)(o:Array Oper):Bool:=match zdT P o.toList an0.mode 8 0 with
 |some ⟨_,some 3,none,.mv (.s 0)⟩=>(match o.toList with
  |[_,⟨some 4,.binOp .eql S (.tmp 3) (.const (.slice none 0 0)) _,_,_,_,none⟩]=>(match P.underlying S with |some (.slice _)=>true |_=>false)
  |_=>false)
 |_=>false
def ztd(P:Program)(id:Nat)(o:Array Oper)(esz bytes:Nat):Bool:=match zeP P an0 8 id o.toList false with
 |some (1,[⟨_,some 5,none,.lit 0 e [] []⟩,⟨_,some 6,none,.mv (.s 0)⟩,⟨_,some 7,none,.append e' b (.s 5) (.s 6)⟩,⟨_,some 2,none,.mv (.s 7)⟩],[])=>e==esz&&e'==esz&&b==bytes
 |_=>false
def zf2(P:Program)(f:FuncId)(esz bytes:Nat):Bool:=match P.funcs[f]? with
 |some fn=>match fn.body with
  |some (.seq (.region i0 o0 false) (.seq (.seq (.region _ o1 false) (.cond (.tmp 4) (.seq (.region i2 o2 false) .ret) .skip)) (.seq (.region i3 o3 false) .ret))) =>
   !(fn.name == "runtime.NumGoroutine")&&fn.ntmps==8&&(match fn.results.toList with |[.tmp 2]=>true |_=>false)&&nilCheck P i0 o0 esz&&zsE P o1&&nilCheck P i2 o2 esz&&ztd P i3 o3 esz bytes
  |_=>false
 |none=>false
def zuh(esz bytes:Nat)(frz:Bool)(x:Cl):Mem->Option (AV×Mem)
 |[]=>match x with
  |.jb ys=>if ys.all (fun r=>r.length==esz)&&roomy ys.length bytes&&0<esz then
    some (if frz then(.w (.c (.jb ys)),[]) else
     (.w (.c (.slice 0 ys.length esz 0 ys.length none)),[some { box:=false,esz,rows:=ys,gen:=ys.length,fz:=false,ver:=ys.length }]))
   else none
  |_=>none
 |_=>none
def zwP(x:Int):List Int->List Int
 |[]=>[x]
 |y::l=>if x<=y then x::y::l else y::zwP x l
def zfI:List Int->List Int
 |[]=>[]
 |x::l=>zwP x (zfI l)
def zzg:List (List Cl)->Option (List Int)
 |[]=>some []
 |r::l=>match r with
  |[.int .i64 n]=>(zzg l).map (n :: ·)
  |_=>none
def zgv(l:List Int):List (List Cl):=l.map fun n=>[.int .i64 n]
def zzr(x:Cl)(M:Mem):Option (AV×Mem):=match x with
 |.jc=>some (.t [],M)
 |.slice id g _ off len _ =>
  if len=0 then some (.t [],M) else
  match look M id g with
  |some b =>
   if !b.box && !b.fz&&off+len<=b.rows.length&&b.esz==1&&decide (len<4611686018427387904) then
    match zzg ((b.rows.drop off).take len)with
    |some zs=>some (.t [],M.set id (some { b with rows:=b.rows.take off++zgv (zfI zs)++b.rows.drop (off+len),ver:=b.ver+1 }))
    |none=>none
   else none
  |none=>none
 |_=>none
def zgk(k key i:Nat):Bool:=key==7&&i+1==k
def zjS(b:Bool)(z:Int):Cl:=if b then .bool (z !=0) else .int .i64 z
def zuC(k key:Nat):Nat->List Cl->Option (List Int)
 |_,[]=>some []
 |i,c::l=>match c with
  |.int .i64 n=>if zgk k key i then none else(zuC k key (i+1) l).map (n :: ·)
  |.bool b=>if zgk k key i then(zuC k key (i+1) l).map ((if b then 1 else 0) :: ·) else none
  |_=>none
def zv2(k key:Nat):List (List Cl)->Option (List (List Int))
 |[]=>some []
 |r::l=>match zuC k key 0 r,zv2 k key l with
  |some x,some xs=>some (x::xs)
  |_,_=>none
def zhX:List Int->List Int->Bool
 |[],[]=>false
 |[],_::_=>true
 |_::_,[]=>false
 |x::xs,y::ys=>decide (x<y)||(decide (x=y)&&zhX xs ys)
def zsY(k key:Nat)(x:List Int):List Int:=(List.range k).map fun i=>if zgk k key i then(if x.getD i 0 !=0 then 1 else 0) else x.getD i 0
def ltZ(k key:Nat)(x y:List Int):Bool:=if key=7 then zhX (zsY k key x) (zsY k key y) else decide (x.getD key 0<y.getD key 0)
def zsn(n:Nat):Nat:=if n=0 then 0 else n.log2+1
def ziS(k key:Nat)(l:List (List Int)):List (List Int):=(Go.Sort.pdq (ltZ k key) l.toArray 0 l.length (zsn l.length) true true).toList
theorem zqV:∀x,zhX x x=false
 |[]=>rfl
 |x::xs=>by simp[zhX,zqV xs]
theorem zkz:∀{x y z:List Int},zhX x y=true->zhX y z=true->zhX x z=true
 |[],[],_,h,_=>by grind
 |[],_::_,[],_,h=>by grind [zhX]
 |[],_::_,_::_,_,_=>rfl
 |_::_,[],_,h,_=>by grind [zhX]
 |_::_,_::_,[],_,h=>by grind [zhX]
 |x::xs,y::ys,z::zs,h1,h2=>by
  simp only[zhX,AC,decide_eq_true_eq,jl]at *;rcases h1 with h1 |⟨rfl,h1⟩
  ·grind
  ·rcases h2 with h2 |⟨rfl,h2⟩
   ·grind
   ·right;exact⟨rfl,zkz h1 h2⟩
theorem znq:∀{x y:List Int},zhX x y=false->zhX y x=false->x=y
 |[],[],_,_=>rfl
 |[],_::_,h,_=>by grind [zhX]
 |_::_,[],_,h=>by grind [zhX]
 |x::xs,y::ys,h1,h2=>by
  simp only[zhX,Bool.or_eq_false_iff,decide_eq_false_iff_not,Bool.and_eq_false_iff]at *;have e:x=y:=by omega
  subst e;rcases h1.2 with h|h
  ·grind
  ·rcases h2.2 with g|g
   ·grind
   ·rw[znq h g]
theorem zu5{x y z:List Int}(h1:zhX x y=false)(h2:zhX y z=false):zhX x z=false:=by
 grind [zhX,zkz,znq]
theorem ztY(k key:Nat):Go.Sort.SWO (ltZ k key) where
 irrefl x:=by
  grind [ltZ,zqV]
 trans x y z h1 h2:=by
  unfold ltZ at *;split
  ·grind [zkz]
  grind
 ntrans x y z h1 h2:=by
  unfold ltZ at *;split
  ·grind [zu5]
  grind
theorem znh(k key:Nat)(l:List (List Int)):Go.Sort.PermIn 0 l.length l.toArray (Go.Sort.pdq (ltZ k key) l.toArray 0 l.length (zsn l.length) true true)/\Go.Sort.SortedIn (ltZ k key) 0 l.length (Go.Sort.pdq (ltZ k key) l.toArray 0 l.length (zsn l.length) true true) :=
 Go.Sort.pdq_sorts (ltZ k key) (ztY k key) l.toArray 0 l.length _ true true (jp _) (by simp) (Or.inl rfl)
theorem zx2(k key:Nat)(l:List (List Int)):(ziS k key l).length=l.length:=by
 have:=(znh k key l).1.1
 grind [ziS]
def zsl(k key:Nat)(l:List Int):List Cl:=(List.range k).map fun i=>zjS (zgk k key i) (l.getD i 0)
def zqs(k key:Nat)(x:Cl)(M:Mem):Option (AV×Mem):=match x with
 |.jc=>some (.t [],M)
 |.slice id g _ off len _ =>
  if len=0 then some (.t [],M) else
  match look M id g with
  |some b =>
   if !b.box && !b.fz&&off+len<=b.rows.length&&b.esz==k&&decide (len<4611686018427387904) then
    match zv2 k key ((b.rows.drop off).take len)with
    |some zs=>some (.t [],M.set id (some { b with rows:=b.rows.take off++(ziS k key zs).map (zsl k key)++b.rows.drop (off+len),ver:=b.ver+1 }))
    |none=>none
   else none
  |none=>none
 |_=>none
def Zo0:List (List Cl)->Option (List (Int×Int))
 |[]=>some []
 |(.int .i64 b::.int .i64 k::_)::R=>(Zo0 R).map ((b,k) :: ·)
 |_=>none
def ZpA(g:Nat)(x:Cl)(M:Mem):Option (AV×Mem):=match x with
 |.fn g' [] [.ptr id 0 0 0]=>match look M id 0 with
  |some b=>match b.rows with
   |[[.map m _]]=>match zi4 M m with
    |some (_,c,R)=>match Zo0 R with
     |some ks=>if g'=g/\b.box=true/\ks.length<=1000000/\(ks.all fun p=>decide (p.1<c/\-9223372036854775808<=p.2/\p.2<9223372036854775808))=true/\(ks.map (·.1)).Nodup/\(ks.map (·.2)).Nodup then some (.w (.c (.jb (zgv (zfI (ks.map (·.2)))))),M) else none
     |none=>none
    |none=>none
   |_=>none
  |none=>none
 |_=>none
def Zpq(x:Cl)(M:Mem):Option (AV×Mem):=match x with
 |.map m g=>match zi4 M m with
  |some (b,_,_)=>some (.w (.c (.map M.length g)),M++[some { b with ver:=0 }])
  |none=>none
 |_=>none
def uw(Cs:List (Nat×Nat×Nat×Bool)):za4:=fun f args M=>match Cs.lookup f with
 |some (esz,bytes,frz)=>match args with
  |[.c x]=>if esz=0 then(if bytes=0 then zzr x M else if bytes % 64=1 then ZpA (bytes / 64) x M else if bytes % 64=2 then Zpq x M else none) else zuh esz bytes frz x M
  |[.c x,.c (.fn g [] [])]=>if esz=0/\8<=bytes % 64/\bytes / 64=g then zqs (bytes / 8 % 8) (bytes % 8) x M else none
  |_=>none
 |none=>none
end
section
variable[zb0]{own:Nat->Prop}{P:Program}{σ:zP}{j:Inj}{M:Mem}{w:World}
theorem zuP{ys:List (List Cl)}{v:Value}(hv:VC σ j (.jb ys) v):∃b l c,v=.slice b l c/\(b=none->ys=[]):=by
 cases hv with
 |jb _ es rows a c b o val hl ha hr h1 h2 =>
  grind
theorem zTn(d:Nat)(t e:TypeId)(b:Option Addr)(l c:Nat)(w:World)(h:P.underlying t=some (.slice e)):(Op.equalIn (d+1) t (.slice b l c) (.slice none 0 0)).run P w=.ok b.isNone w:=by
 cases b<;>simp[Op.equalIn,run_underlying h]
theorem zpK(t e:TypeId)(b:Option Addr)(l c:Nat)(w:World)(h:P.underlying t=some (.slice e)):(Op.equal t (.slice b l c) (.slice none 0 0)).run P w=.ok b.isNone w :=
 zTn 9999 t e b l c w h
abbrev gh(esz:Nat):Blk:={ box:=false,esz,rows:=[],gen:=0,fz:=false,ver:=0 }
abbrev cl1(esz:Nat)(ys:List (List Cl)):Blk:={ box:=false,esz,rows:=ys,gen:=ys.length,fz:=false,ver:=ys.length }
theorem zAv{esz bytes:Nat}{ys:List (List Cl)}{E:Env}{i0 i1 i2 i3:Nat}(hE:E.get 0=some (.w (.c (.jb ys))))(hys:ys.all (fun r=>r.length==esz)=true)(uO:0<esz)(ku:roomy ys.length bytes=true) :
  ∃E' fs,zks noX 1 [⟨i0,some 5,none,.lit 0 esz [] []⟩,⟨i1,some 6,none,.mv (.s 0)⟩,⟨i2,some 7,none,.append esz bytes (.s 5) (.s 6)⟩,⟨i3,some 2,none,.mv (.s 7)⟩] E ([some (gh esz)]++qH 1) =
   some (E',[some (gh esz),some (cl1 esz ys)],fs)/\E'.get 2=some (.w (.c (.slice 1 ys.length esz 0 ys.length none))):=by
 have s1:zbm noX 1 ⟨i0,some 5,none,.lit 0 esz [] []⟩ E.get ([some (gh esz)]++qH 1)=some (.w (.c (.slice 1 0 esz 0 0 none)),[some (gh esz),some (gh esz)],.no):=by
  simp[zbm,opF,zdS,uO,zcf,zbg,zg,qH,gh]
 have h4:zcB [some (gh esz),some (gh esz)] esz bytes (.slice 1 0 esz 0 0 none) (.jb ys)=some (.w (.c (.slice 1 ys.length esz 0 ys.length none)),[some (gh esz),some (cl1 esz ys)],.wr [(1,0,whole)]):=by
  simp_all [zcB,zeF,if_pos,jo,look,gh,cl1]
 simp_all [Env,Mem,zbm,noX,Env.put,get,opF,Opd.av,Opd.ev,Env.get,whole,zks]
theorem zvu{esz:Nat}{ys:List (List Cl)}(frz:Bool):leave frz 0 (.w (.c (.slice 1 ys.length esz 0 ys.length none))) [some (gh esz),some (cl1 esz ys)] =
  some (if frz then(.w (.c (.jb ys)),[]) else(.w (.c (.slice 0 ys.length esz 0 ys.length none)),[some (cl1 esz ys)])):=by
 cases frz with
 |true=>simp[leave,zoS,zn7,zdR,look,gh,cl1,finish,AV.below,WV.below,WV.cells,below,yq,zH]
 |false=>simp[leave,finish,AV.below,WV.below,WV.cells,below,yq,zH,AV.ids,WV.ids,zBH,Ck,collect,zfj,zpw,Blk.ids,zku,znn,zpM,zeS,qM,zd3,zck,zhj,cl1]
theorem zrt(vq:P.follows .mixedOrders=true){f:FuncId}{esz bytes:Nat}{frz:Bool}{x:Cl}{v:Value}{res:AV}{M':Mem}(hck:zf2 P f esz bytes=true)(h:zuh esz bytes frz x M=some (res,M')) :
  ∃fn,P.funcs[f]?=some fn/\fn.body.isNone=false/\(fn.name == "runtime.NumGoroutine")=false /\
   ((∀b,w.heap.size<=b->own b)->zM σ w->MR own σ j M w->VC σ j x v->Calls P f #[v] w (Ret own σ j M w res M')):=by
 unfold zf2 at hck;split at hck
 ·rename_i fn hfn;split at hck
  ·rename_i i0 o0 i1 o1 i2 o2 i3 o3 hbody;simp only[jl,qs,beq_iff_eq]at hck;obtain⟨⟨⟨⟨⟨⟨CX,hnt⟩,Bx⟩,hk0⟩,hk1⟩,hk2⟩,hk3⟩:=hck;refine⟨fn,hfn,by grind,by grind,fun hown hag hm hv=>?_⟩;obtain⟨ys,rfl,rfl,vh,ku,uO,BD⟩:∃ys,x=.jb ys/\M=[]/\ys.all (fun r=>r.length==esz)=true/\roomy ys.length bytes=true/\0<esz /\
     leave frz 0 (.w (.c (.slice 1 ys.length esz 0 ys.length none))) [some (gh esz),some (cl1 esz ys)]=some (res,M'):=by
    unfold zuh at h;split at h
    ·split at h
     ·rename_i ys;split at h
      ·rename_i hc;simp only[jl,decide_eq_true_eq]at hc;exact⟨ys,rfl,rfl,hc.1.1,hc.1.2,hc.2,by rw[zvu];exact h⟩
      ·cases h
     grind
    grind
   obtain⟨b,l,c,rfl,hbn⟩:=zuP hv;have hresl:fn.results.toList=[.tmp 2]:=by
    grind
   have hF:zhz Fence.wide:=⟨fun _=>trivial,rfl,rfl⟩;have hat0:At own σ j (vY 0 [.c (.jb ys)]).get [] 8 { tmps:=#[.slice b l c]++Array.replicate (fn.ntmps-(#[Value.slice b l c]:Array Value).size) undef,defers:=[] } w:=by
    refine⟨zo7 (vs:=[.slice b l c]) (zac.cons hv zac.nil) (fun k u hk=>?_),by grind,zj3.nil,hag,hm,hown⟩;have hk0:k=0:=by grind
    grind
   refine(callsIn_wide (n:=0)).1 (callsIn_of_wp_marks hfn hbody trivial (wpIn_seq ?_));unfold nilCheck at hk0;split at hk0
   ·rename_i ix0 e0 hc0;obtain rfl:e0=esz:=by grind
    refine ziY (n:=0) hF znV vq hc0 (E:=vY 0 [.c (.jb ys)]) (E':=(2,.w (.c (.slice 0 0 e0 0 0 none)))::vY 0 [.c (.jb ys)]) (M':=[some (gh e0)]) (fs:=[.no]) (by simp[zks,zbm,opF,Env.put,qH,zg,gh]) (by simp) hat0 fun a1 w1 σ1 j1 AM yJ _ hd1=>?_
    refine wpIn_seq (wpIn_seq ?_);unfold zsE at hk1;split at hk1
    ·rename_i ix1 hca;split at hk1
     ·rename_i oa S yt ty pos aft hol;obtain⟨eT,hS⟩:∃e,P.underlying S=some (.slice e):=by
       grind
      have ho1:o1 = #[oa,⟨some 4,.binOp .eql S (.tmp 3) (.const (.slice none 0 0)) yt,ty,pos,aft,none⟩]:=qC (by grind);refine wpIn_region ?_;have hsz:o1.size=2:=by grind
      rw[hsz];show wpOpsIn _ _ _ _ _ [0,1] _ _;rw[wpOpsIn_cons];refine zoz hF znV hca (av:=.w (.c (.jb ys))) (M':=[some (gh e0)]) (fp:=.no) (n0:=0) (by simp[zbm,opF,Opd.av,Opd.ev,Env.get,vY]) AM fun a2 w2 σ2 j2 Bq yI hd2=>?_
      rw[wpOpsIn_cons];obtain⟨v3,hv3,hr3⟩:=Bq.env 3 (.w (.c (.jb ys))) (by simp[zjC]);obtain⟨b3,l3,c3,rfl,hb3⟩:=zuP hr3;have he3:a2.eval (.tmp 3)=.slice b3 l3 c3:=by simp[Act.eval,qt,hv3]
      have Cq:(execOp a2.eval ⟨some 4,.binOp .eql S (.tmp 3) (.const (.slice none 0 0)) yt,ty,pos,aft,none⟩).run P w2=.ok (.value (.bool b3.isNone)) w2:=by
       simp_all [execOp,Act.eval,eqGuard,binOp,zpK]
      have BQ:=Bq.put (d:=some 4) (av:=.w (.c (.bool b3.isNone))) (v:=.bool b3.isNone) (fun x hx=>by grind) (VC.bool _ _) Bq.yB Bq.mem za2.refl;rw[<-ztG,<-ztG]at BQ;unfold wpOpIn;have ho11:o1[1]?=some ⟨some 4,.binOp .eql S (.tmp 3) (.const (.slice none 0 0)) yt,ty,pos,aft,none⟩:=by grind
      simp only[ho11,Region.wanted,if_true];refine⟨fun _ _=>trivial,?_⟩;rw[Oper.semAt_eq _ _ _ (by grind),Cq];show Code.wpIn _ _ _ _ _ _ _;have he4:(a2.put (some 4) (.bool b3.isNone)).eval (.tmp 4)=.bool b3.isNone:=by
       obtain⟨v4,hv4,hr4⟩:=BQ.env 4 (.w (.c (.bool b3.isNone))) (by simp[Env.put,Env.get]);have hr4:VC _ _ (.bool b3.isNone) v4:=hr4;have:v4=.bool b3.isNone:=by generalize b3.isNone=t at hr4;cases hr4;rfl
       simp_all [Act.eval,qt]
      have hrc:znS P fn.results.toList=some [.slot 2]:=by rw[hresl];rfl
      have fin:∀{E4:Env} {a4:Act} {w4:World} {σ4:zP} {j4:Inj},At own σ4 j4 E4.get [some (gh e0),some (cl1 e0 ys)] 8 a4 w4->E4.get 2=some (.w (.c (.slice 1 ys.length e0 0 ys.length none)))->za2 own 0 σ j [] w σ4 j4 [some (gh e0),some (cl1 e0 ys)] w4->a4.defers=[] ->
        bodyPostM Fence.wide 0 P fn (Ret own σ j [] w res M') .ret a4 w4:=by
       intro E4 a4 w4 σ4 j4 hat4 kZ hst hds;exact zuR (F:=Fence.wide) (n:=0) hm (fun id hid=>by grind) (fun _ h=>h) (fun d hd=>by grind) hat4 hst (by simp) hrc (by grind [zpk,zlQ,zoD]) BD
      refine wpIn_cond_split he4 (fun ht=>?_) (fun ht=>?_)
      ·
       have hys0:ys=[]:=hb3 (by simp_all);subst hys0;refine wpIn_seq ?_;unfold nilCheck at hk2;split at hk2
       ·rename_i ix2 e2 hc2;obtain rfl:e2=e0:=by grind
        refine ziY (n:=0) hF znV vq hc2 (E':=Env.put (Env.put (Env.put ((2,.w (.c (.slice 0 0 e2 0 0 none)))::vY 0 [.c (.jb [])]) (some 3) (.w (.c (.jb [])))) (some 4) (.w (.c (.bool b3.isNone)))) (some 2) (.w (.c (.slice 1 0 e2 0 0 none)))) (M':=[some (gh e2),some (cl1 e2 [])]) (fs:=[.no]) (by simp[zks,zbm,opF,Opd.av,Opd.ev,Env.put,qH,zg,gh]) (by simp) BQ fun a4 w4 σ4 j4 hat4 Db _ hd4=>?_
        exact wpIn_ret (fin hat4 (by simp[Env.put,Env.get]) (((yJ.trans (yI.le (by simp))).trans (Db.le (by simp)))) (hd4.trans (zfX.trans (hd2.trans hd1))))
       grind
      ·
       refine wpIn_skip ?_;show Code.wpIn _ _ _ _ _ _ _;refine wpIn_seq ?_;unfold ztd at hk3;split at hk3
       ·rename_i p0 e p1 p2 e' by' p3 hc3;simp only[jl,beq_iff_eq]at hk3;obtain⟨⟨rfl,rfl⟩,rfl⟩:=hk3;obtain⟨E5,fs5,ul,kZ⟩:=zAv (i0:=p0) (i1:=p1) (i2:=p2) (i3:=p3) (E:=Env.put (Env.put ((2,.w (.c (.slice 0 0 e' 0 0 none)))::vY 0 [.c (.jb ys)]) (some 3) (.w (.c (.jb ys)))) (some 4) (.w (.c (.bool b3.isNone)))) (by simp[Env.put,Env.get,vY]) vh uO ku;refine ziY (n:=0) (M:=[some (gh e')]) hF znV vq hc3 ul (by simp) BQ fun a4 w4 σ4 j4 hat4 Db _ hd4=>?_
        exact wpIn_ret (fin hat4 kZ (((yJ.trans (yI.le (by simp))).trans (Db.le (by simp)))) (hd4.trans (zfX.trans (hd2.trans hd1))))
       grind
     grind
    grind
   grind
  grind
 grind
theorem zoQ(x:Int):∀l,(zwP x l).Perm (x::l)
 |[]=>uK _
 |y::l=>by
  unfold zwP;split
  ·grind
  ·exact((zoQ x l).cons y).trans (List.Perm.swap x y l)
theorem zni:∀l,(zfI l).Perm l
 |[]=>uK _
 |x::l=>(zoQ x _).trans ((zni l).cons x)
theorem zps{x:Int}:∀{l:List Int},l.Pairwise (·<=·)->(zwP x l).Pairwise (·<=·)
 |[],_=>by simp[zwP]
 |y::l,h=>by
  unfold zwP;obtain⟨h1,h2⟩:=kx.1 h;split
  ·grind [List.pairwise_cons]
  ·refine kx.2 ⟨fun z hz=>?_,zps h2⟩;rcases jQ.1 ((zoQ x l).mem_iff.1 hz)with rfl|hz
   ·omega
   grind
theorem znO:∀l,(zfI l).Pairwise (·<=·)
 |[]=>List.Pairwise.nil
 |x::l=>zps (znO l)
theorem zsM(l:List Int):(zfI l).length=l.length:=(zni l).length_eq
theorem zuM(l:List Int):l.mergeSort (fun x y=>decide (x<=y))=zfI l:=by
 grind [List.Perm.eq_of_pairwise,Int.le_antisymm,znO,List.mergeSort_perm,trans,zni,List.pairwise_mergeSort,decide]
theorem zsz:∀{r:List (List Cl)} {zs:List Int},zzg r=some zs->r=zgv zs
 |[],zs,h=>by cases h;rfl
 |x::r,zs,h=>by
  unfold zzg at h;split at h
  ·cases hr:zzg r with
   |none=>grind
   |some l =>
    rw[hr]at h;cases h;rw[zsz hr];rfl
  grind
structure zCh(P:Program)(f:FuncId):Prop where
 fn:∃fn,P.funcs[f]?=some fn/\fn.body.isNone=false/\(fn.name == "runtime.NumGoroutine")=false
 none:∀(p:Option Addr) (cap:Nat) (w:World),Calls P f #[.slice p 0 cap] w fun e w'=>e=.returned (.tuple #[])/\w'=w
 some:∀(blk off cap:Nat) (zs:List Int) (w:World),Go.Sort.Holds (Value.int .i64) w blk off zs.toArray->blk<w.heap.size->zs.length<4611686018427387904 ->
  Calls P f #[.slice (.some ⟨blk,off,.none⟩) zs.length cap] w fun e w'=>e=.returned (.tuple #[])/\∃n os,w'=Go.Sort.grow (Go.Sort.putRow (Value.int .i64) (Go.Sort.ahead w n) blk off (zs.mergeSort fun x y=>decide (x<=y)).toArray) os
theorem MR.more(hm:MR own σ j M w){w':World}(h:∀k,k<w.heap.size->w'.heap[k]?=w.heap[k]?):MR own σ j M w':=by
 refine⟨fun id b hb=>?_,hm.vo,hm.dom,hm.okP⟩;obtain⟨pl,h1,h2,h3⟩:=hm.vL id b hb;exact⟨pl,h1,h2.mono (zP.le_refl _) (Inj.le_refl _) (fun k hk=>h k (hm.uh hb (Inj.yf h1 hk))) (fun _ _ _ h _ _=>h),h3⟩
theorem zx1{f:FuncId}(hS:zCh P f){x:Cl}{res:AV}{M':Mem}(h:zzr x M=some (res,M'))(hag:zM σ w)(hm:MR own σ j M w){v:Value}(hx:VC σ j x v):Calls P f #[v] w (Ret own σ j M w res M'):=by
 unfold zzr at h;split at h
 ·cases h;cases hx;refine Calls.yr (hS.none none 0 w) ?_;rintro e w' ⟨rfl,rfl⟩;exact⟨.tuple #[],σ,j,rfl,⟨#[],rfl,zac.nil⟩,hag,hm,za2.refl⟩
 ·rename_i id g es off len cap;split at h
  ·rename_i h0;subst h0;cases h;cases hx with
   |slice _ _ _ _ _ _ _ pl ad c hj hl yK ha =>
    refine Calls.yr (hS.none ad c w) ?_;rintro e w' ⟨rfl,rfl⟩;exact⟨.tuple #[],σ,j,rfl,⟨#[],rfl,zac.nil⟩,hag,hm,za2.refl⟩
  ·rename_i h0;split at h
   ·rename_i b hb0;obtain⟨hbk,Bi⟩:=zaz hb0;subst Bi;split at h
    ·rename_i hc;simp only[jl,qs,decide_eq_true_eq,beq_iff_eq]at hc;obtain⟨⟨⟨⟨vt,hfz⟩,AW⟩,A8⟩,CL⟩:=hc;split at h
     ·rename_i zs hzs;cases h;have hz:=zsz hzs;have hzl:zs.length=len:=by
       have:=congrArg List.length hz;simp[zgv]at this;omega
      cases hx with
      |slice _ _ _ _ _ _ _ pl ad c hj hl yK ha =>
       obtain⟨L,rfl,_,rfl,hf2⟩:=ha (by omega);obtain⟨pl',ya,hbr,hown⟩:=hm.blk id b hbk;rw[hj]at ya;cases ya;have hbr:BL σ j b L w:=hbr;obtain⟨C,T,fr,hC,hfr,hsz,hrow⟩:=hbr.heap;have hf0:fr=(0,0):=by
        by_cases h:fr=(0,0)
        ·exact h
        ·rw[(hfr h).1]at hfz;cases hfz
       subst hf0;have hes:=hbr.esz;have hLe:L.esz=1:=by rw[hes,A8]
       have BY:=hbr.fit;have hlt:L.blk<w.heap.size:=(jH.1 hC).1;rw[A8]at BY;rw[hLe,AO]at hf2 ⊢;have hold:Go.Sort.Holds (Value.int .i64) w L.blk (L.off+off) zs.toArray:=by
        intro i hi;have hi':i<zs.length:=by simpa using hi
        have hri:b.rows[off+i]?=some [.int .i64 zs[i]]:=by
         have h1:((b.rows.drop off).take len)[i]?=(zgv zs)[i]?:=by rw[hz]
         rw[kR (by omega),qT]at h1;rw[h1];simp[zgv,hi']
        obtain⟨v,hv1,hv2⟩:=hrow (off+i) _ 0 (.int .i64 zs[i]) hri rfl;rw[if_neg (by simp[vt])]at hv2;cases hv2;refine⟨?_,by simp[World.frozen?,hC]⟩;simp only[World.cell?,hC,kG,jE,if_false];rw[A8]at hv1;rw[show L.off+off+i=L.off+(off+i)*1+0 by omega,hv1];simp[hi']
       subst hzl;refine Calls.yr (hS.some L.blk (L.off+off) c zs w hold hlt CL) ?_;rintro e w' ⟨rfl,n,os,rfl⟩;rw[zuM];generalize hC':Go.Sort.putCells (Value.int .i64) (L.off+off) (zfI zs).toArray C=C';have BH:C'.size=C.size:=by rw[<-hC'];simp[Go.Sort.putCells]
       have vU:∀p,C'[p]?=if L.off+off<=p/\p<L.off+off+zs.length then(if p<C.size then some (Value.int .i64 ((zfI zs).toArray[p-(L.off+off)]!)) else none) else C[p]?:=by
        intro p;rw[<-hC'];simp only[Go.Sort.putCells,Array.getElem?_mapIdx,u7,zsM];by_cases hp:p<C.size
        ·rw[vF hp];simp only[qm,hp,if_true];split<;>rfl
        ·rw[qB (by omega)];simp[hp]
       have hb1:(Go.Sort.grow (Go.Sort.putRow (Value.int .i64) (Go.Sort.ahead w n) L.blk (L.off+off) (zfI zs).toArray) os).heap[L.blk]?=some (.cells C' T (0,0)):=by
        rw[Go.Sort.grow];simp only;rw[qe (by simpa using hlt)];simp[Go.Sort.putRow,Go.Sort.mapBlock,Go.Sort.ahead,qR,hC,Go.Sort.onCells,hC']
       have hb2:∀k,k<w.heap.size->k≠L.blk->(Go.Sort.grow (Go.Sort.putRow (Value.int .i64) (Go.Sort.ahead w n) L.blk (L.off+off) (zfI zs).toArray) os).heap[k]?=w.heap[k]?:=by
        intro k hk hne;rw[Go.Sort.grow];simp only;rw[qe (by simpa using hk)];simp[Go.Sort.putRow,Go.Sort.mapBlock,Go.Sort.ahead,qR,fun e=>hne (Eq.symm e),qX hne]
       have BT:w.heap.size<=(Go.Sort.grow (Go.Sort.putRow (Value.int .i64) (Go.Sort.ahead w n) L.blk (L.off+off) (zfI zs).toArray) os).heap.size:=by simp[Go.Sort.grow]
       have hos:(Go.Sort.grow (Go.Sort.putRow (Value.int .i64) (Go.Sort.ahead w n) L.blk (L.off+off) (zfI zs).toArray) os).os=w.os:=rfl;have Bm:(Go.Sort.grow (Go.Sort.putRow (Value.int .i64) (Go.Sort.ahead w n) L.blk (L.off+off) (zfI zs).toArray) os).output=w.output:=rfl;have Cn:(Go.Sort.grow (Go.Sort.putRow (Value.int .i64) (Go.Sort.ahead w n) L.blk (L.off+off) (zfI zs).toArray) os).tape=w.tape:=rfl;have hdrn:w.drawn<=(Go.Sort.grow (Go.Sort.putRow (Value.int .i64) (Go.Sort.ahead w n) L.blk (L.off+off) (zfI zs).toArray) os).drawn:=uI _ _;generalize Go.Sort.grow (Go.Sort.putRow (Value.int .i64) (Go.Sort.ahead w n) L.blk (L.off+off) (zfI zs).toArray) os=w' at hb1 hb2 BT hos Bm Cn hdrn;generalize A6:b.rows.take off++zgv (zfI zs)++b.rows.drop (off+zs.length)=vH;have hsl:=zsM zs;have hrl:vH.length=b.rows.length:=by rw[<-A6];simp[zgv];omega
       have AI:∀i,vH[i]?=if i<off then b.rows[i]? else if i<off+zs.length then(zgv (zfI zs))[i-off]? else b.rows[i]?:=by
        intro i;have:=zdb b.rows (zgv (zfI zs)) off (by simp[zgv];omega) i;simp only[zgv,km,hsl]at this;rw[<-A6,zgv,this]
       have hagc:∀b' o v,σ b' o=some v->w'.cell? ⟨b',o,none⟩=some v:=by
        intro b' o v hv';have hold:=hag.cells b' o v hv';by_cases hbb:b'=L.blk
        ·subst hbb;have hlo:o<L.off:=by
          rcases qr o L.off with h|h
          ·exact h
          ·have:=hbr.A0 o h (fun hh=>by grind)
           grind
         simp only[World.cell?,hC,kG,jE,if_false]at hold;simp only[World.cell?,hb1,kG,jE,if_false]
         grind
        grind [World.cell?]
       have hbl:BL σ j { b with rows:=vH,ver:=b.ver+1 } L w':=by
        refine⟨hes,hbr.pos,fun r hr'=>?_,by simpa [hrl,A8]using BY,⟨C',T,(0,0),hb1,fun h=>absurd rfl h,by grind,fun i' r n cl hi' hn=>?_⟩,fun o h1 h2=>hbr.A0 o h1 (fun h=>by grind)⟩
        ·obtain⟨q,hq⟩:=jW hr';rw[AI]at hq;split at hq
         ·exact hbr.len r (zat hq)
         ·split at hq
          ·have:=zat hq;simp only[zgv,jZ]at this
           grind
          ·exact hbr.len r (zat hq)
        ·simp only at hi' ⊢;simp only[vt,jE,if_false];have hnl:=zC hn;rw[AI]at hi';rw[vU,A8,AO];by_cases h1:i'<off
         ·rw[if_pos h1]at hi';obtain⟨v,hv1,hv2⟩:=hrow i' r n cl hi' hn;rw[if_neg (by grind)]at hv2;have Dd:=hbr.len r (zat hi')
          grind
         ·rw[if_neg h1]at hi';by_cases h2:i'<off+zs.length
          ·rw[if_pos h2]at hi';have hk:i'-off<(zfI zs).length:=by omega
           simp only[zgv,kF,jr hk,qm,jh]at hi';subst hi';obtain rfl:n=0:=by simp at hnl;omega
           cases hn;refine⟨.int .i64 (zfI zs)[i'-off],?_,.int _ _ _⟩;rw[if_pos (by omega),if_pos (by omega)];have e1:L.off+i'+0-(L.off+off)=i'-off:=by omega
           rw[e1];simp[hk]
          ·rw[if_neg h2]at hi';obtain⟨v,hv1,hv2⟩:=hrow i' r n cl hi' hn;rw[if_neg (by simp[vt])]at hv2;have Dd:=hbr.len r (zat hi');rw[A8]at Dd hv1;rw[AO]at hv1;exact⟨v,by rw[if_neg (by omega)];exact hv1,hv2⟩
       refine⟨.tuple #[],σ,j,rfl,⟨#[],rfl,zac.nil⟩,⟨hagc,hag.kY⟩,?_,?_⟩
       ·
        have hw1:∀k,k≠L.blk->({ w' with heap:=(w'.heap.extract 0 w.heap.size) }:World).heap[k]?=w.heap[k]?:=by
         intro k hne;rcases qr k w.heap.size with hk|hk
         ·simp only[qA];rw[if_pos (by omega),jF];exact hb2 k hk hne
         ·rw[qB (by simp;omega),qB hk]
        have hbl1:BL σ j { b with rows:=vH,ver:=b.ver+1 } L ({ w' with heap:=(w'.heap.extract 0 w.heap.size) }:World):=by
         obtain⟨a1,a2,a3,a4,⟨C2,T2,fr2,q1,q0,q2,q3⟩,a6⟩:=hbl;refine⟨a1,a2,a3,a4,⟨C2,T2,fr2,?_,q0,q2,q3⟩,a6⟩;simp only[qA];rw[if_pos (by omega),jF];exact q1
        refine(hm.write hbk hj (b':={ b with rows:=vH,ver:=b.ver+1 }) rfl hw1 hbl1).more fun k hk=>?_
        simp only[Array.size_extract]at hk;simp only[qA];rw[if_pos (by omega),jF]
       ·refine⟨zP.le_refl _,fun _ _ _ _ h=>h,BT,fun b' hb' ho=>?_,fun _ _ _ h=>.inl h,fun id' b' hid hb'=>?_,⟨hos,Bm,Cn,fun _=>hdrn⟩⟩
        ·exact hb2 b' hb' (fun e=>ho (e ▸ hown L rfl))
        ·by_cases yw:id=id'
         ·subst yw;rw[hbk]at hb';cases hb';exact⟨_,by simp[hid];rfl,by simp,fun h=>by simp at h⟩
         ·refine⟨b',by rw[jD yw];exact hb',jm _,fun _=>⟨rfl,fun L' hL'=>?_⟩⟩;exact hb2 _ (hm.uh hb' hL') (fun e=>yw (hm.vo id id' b b' L' hbk hb' (by rw[e];exact Inj.uQ hj) hL'))
     grind
    grind
   grind
 grind
theorem zsA(k key:Nat):∀{r:List Cl} {l:List Int} (i:Nat),zuC k key i r=some l->r.length=l.length/\∀n,n<l.length->r[n]?=some (zjS (zgk k key (i+n)) (l.getD n 0))
 |[],l,i,h=>by simp[zuC]at h;subst h;exact⟨rfl,fun n hn=>by simp at hn⟩
 |c::r,l,i,h=>by
  have key1:∀(z:Int) (l':List Int),zjS (zgk k key i) z=c->zuC k key (i+1) r=some l'->(c::r).length=(z::l').length/\∀n,n<(z::l').length->(c::r)[n]?=some (zjS (zgk k key (i+n)) ((z::l').getD n 0)):=by
   intro z l' hc hr;obtain⟨h1,h2⟩:=zsA k key (i+1) hr
   grind
  unfold zuC at h;split at h
  ·split at h
   ·grind
   ·simp only[ja]at h
    grind [zjS]
  ·split at h
   ·rename_i b hk;simp only[ja]at h;obtain⟨l',h1,rfl⟩:=h;exact key1 _ _ (by cases b<;>simp[zjS,hk]) h1
   grind
  grind
theorem zsy(k key:Nat):∀{rs:List (List Cl)} {zs:List (List Int)},zv2 k key rs=some zs->rs.length=zs.length/\∀(i:Nat) (hi:i<zs.length),∃r,rs[i]?=some r/\r.length=zs[i].length/\∀n,n<zs[i].length->r[n]?=some (zjS (zgk k key n) (zs[i].getD n 0))
 |[],zs,h=>by simp[zv2]at h;subst h;exact⟨rfl,fun i hi=>by simp at hi⟩
 |r::rs,zs,h=>by
  unfold zv2 at h;split at h
  ·rename_i x xs h1 h2;obtain⟨g1,g2⟩:=zsA k key 0 h1;obtain⟨g3,g4⟩:=zsy k key h2
   grind
  grind
def vZ(b:Bool)(z:Int):Value:=if b then .bool (z !=0) else .int .i64 z
theorem zAB{σ:zP}{j:Inj}{b:Bool}{z:Int}{v:Value}(h:VC σ j (zjS b z) v):v=vZ b z:=by
 cases b with
 |true=>cases h;rfl
 |false=>cases h;rfl
theorem zDe(σ:zP)(j:Inj)(b:Bool)(z:Int):VC σ j (zjS b z) (vZ b z):=by
 cases b with
 |true=>exact .bool _ _
 |false=>exact .int _ _ _
theorem zzi(b:Bool)(z:Int):(vZ b z).oneCell'=true:=by cases b<;>rfl
def ziq(k key:Nat)(l:List Int):List Value:=(List.range k).map fun i=>vZ (zgk k key i) (l.getD i 0)
def zfg(k key:Nat)(zs:List (List Int)):List Value:=zs.flatMap (ziq k key)
theorem zoV(k key:Nat):∀(zs:List (List Int)),(zfg k key zs).length=zs.length*k
 |[]=>by simp[zfg]
 |z::zs=>by
  have:=zoV k key zs
  grind [zfg,List.length_append,List.length_cons,ziq,Nat.succ_mul]
theorem zmK(k key:Nat):∀(zs:List (List Int)) (i n:Nat) (hi:i<zs.length),n<k->(zfg k key zs)[i*k+n]?=some (vZ (zgk k key n) (zs[i].getD n 0))
 |z::zs,0,n,hi,hn=>by
  simp_all [zfg,j9,Nat.zero_mul,jF,jq,ziq]
 |z::zs,i+1,n,hi,hn=>by
  have hl:(ziq k key z).length=k:=by simp[ziq]
  have:=zmK k key zs i n (by grind) hn
  grind [zfg,List.getElem?_append_right,Nat.succ_mul]
structure zut(P:Program)(f g k key:Nat):Prop where
 fn:∃fn,P.funcs[f]?=some fn/\fn.body.isNone=false/\(fn.name == "runtime.NumGoroutine")=false
 pos:0<k
 none:∀(p:Option Addr) (cap:Nat) (w:World),Calls P f #[.slice p 0 cap,.func (.func g) #[] #[]] w fun e w'=>e=.returned (.tuple #[])/\w'=w
 some:∀(blk off cap:Nat) (zs:List (List Int)) (w:World),Go.Sort.Holds id w blk off (zfg k key zs).toArray->blk<w.heap.size->zs.length<4611686018427387904 ->
  Calls P f #[.slice (.some ⟨blk,off,.none⟩) zs.length cap,.func (.func g) #[] #[]] w fun e w'=>e=.returned (.tuple #[])/\∃n os,w'=Go.Sort.grow (Go.Sort.putRow id (Go.Sort.ahead w n) blk off (zfg k key (ziS k key zs)).toArray) os
structure Zqq(P:Program)(f g:Nat):Prop where
 fn:∃fn,P.funcs[f]?=some fn/\fn.body.isNone=false/\(fn.name == "runtime.NumGoroutine")=false
 keys:∃T,∀(B m clock:Nat) (es:Array MapEntry) (ks:List Int) (w:World),w.cell? ⟨B,0,none⟩=some (.map (some m))->w.heap[m]?=some (.map es clock)->Go.MapKept.Stamped es clock->es.toList.map (·.key)=ks.map (Value.int .i64) ->
  (∀k∈ks,-9223372036854775808<=k/\k<9223372036854775808)->ks.length<=1000000 ->
  Calls P f #[.func (.func g) #[] #[.pointer (some ⟨B,0,none⟩)]] w fun e w'=>∃v,e=.returned v/\w'.ownsRow w.heap.size T 1 v ks.length ((zfI ks).map (Value.int .i64))/\Go.RowKit.Below w.heap.size w w'
structure ZqC(P:Program)(f:Nat):Prop where
 fn:∃fn,P.funcs[f]?=some fn/\fn.body.isNone=false/\(fn.name == "runtime.NumGoroutine")=false
 clone:∀(b:Nat) (es:Array MapEntry) (clock:Nat) (w:World),w.heap[b]?=some (.map es clock)->Calls P f #[.map (some b)] w fun e w'=>e=.returned (.map (some w.heap.size))/\w'=w.alloc (.map es clock)
def zqh(P:Program)(c:Nat×Nat×Nat×Bool):Prop:=(c.2.2.1=0->zCh P c.1)/\(c.2.2.1 % 64=1->Zqq P c.1 (c.2.2.1 / 64))/\(c.2.2.1 % 64=2->ZqC P c.1)/\(8<=c.2.2.1 % 64->zut P c.1 (c.2.2.1 / 64) (c.2.2.1 / 8 % 8) (c.2.2.1 % 8))
theorem zwi{f g k key:Nat}(hS:zut P f g k key){x:Cl}{res:AV}{M':Mem}(h:zqs k key x M=some (res,M'))(hag:zM σ w)(hm:MR own σ j M w){v:Value}(hx:VC σ j x v):Calls P f #[v,.func (.func g) #[] #[]] w (Ret own σ j M w res M'):=by
 unfold zqs at h;split at h
 ·cases h;cases hx;refine Calls.yr (hS.none none 0 w) ?_;rintro e w' ⟨rfl,rfl⟩;exact⟨.tuple #[],σ,j,rfl,⟨#[],rfl,zac.nil⟩,hag,hm,za2.refl⟩
 ·rename_i id0 gg es off len cap;split at h
  ·rename_i h0;subst h0;cases h;cases hx with
   |slice _ _ _ _ _ _ _ pl ad c hj hl yK ha =>
    refine Calls.yr (hS.none ad c w) ?_;rintro e w' ⟨rfl,rfl⟩;exact⟨.tuple #[],σ,j,rfl,⟨#[],rfl,zac.nil⟩,hag,hm,za2.refl⟩
  ·rename_i h0;split at h
   ·rename_i b hb0;obtain⟨hbk,Bi⟩:=zaz hb0;subst Bi;split at h
    ·rename_i hc;simp only[jl,qs,decide_eq_true_eq,beq_iff_eq]at hc;obtain⟨⟨⟨⟨vt,hfz⟩,AW⟩,A8⟩,CL⟩:=hc;split at h
     ·rename_i zs hzs;cases h;obtain⟨hz0,hz⟩:=zsy k key hzs;have hzl:zs.length=len:=by
       grind
      cases hx with
      |slice _ _ _ _ _ _ _ pl ad c hj hl yK ha =>
       obtain⟨L,rfl,_,rfl,hf2⟩:=ha (by omega);obtain⟨pl',ya,hbr,hown⟩:=hm.blk id0 b hbk;rw[hj]at ya;cases ya;have hbr:BL σ j b L w:=hbr;obtain⟨C,T,fr,hC,hfr,hsz,hrow⟩:=hbr.heap;have hf0:fr=(0,0):=by
        by_cases h:fr=(0,0)
        ·exact h
        ·rw[(hfr h).1]at hfz;cases hfz
       subst hf0;have hes:=hbr.esz;have uO:=hS.pos;have hLe:L.esz=k:=by grind
       have BY:=hbr.fit;have hlt:L.blk<w.heap.size:=(jH.1 hC).1;rw[A8]at BY;rw[hLe]at hf2 ⊢;have hF:∀zz:List (List Int),(zfg k key zz).toArray.size=zz.length*k:=fun zz=>by simp[zoV]
       have hmul:(off+zs.length)*k<=b.rows.length*k:=kj _ (by omega);have hadd:(off+zs.length)*k=off*k+zs.length*k:=qf _ _ _;have hri:∀i (hi:i<zs.length),∃r,b.rows[off+i]?=some r/\r.length=zs[i].length/\∀n,n<zs[i].length->r[n]?=some (zjS (zgk k key n) (zs[i].getD n 0)):=by
        grind
       have hzk:∀i (hi:i<zs.length),(zs[i]).length=k:=by
        intro i hi;obtain⟨r,h1,h2,_⟩:=hri i hi;have:=hbr.len _ (zat h1)
        grind
       have hold:Go.Sort.Holds id w L.blk (L.off+off*k) (zfg k key zs).toArray:=by
        intro t ht;rw[hF]at ht;have hq:t / k<zs.length:=Nat.div_lt_of_lt_mul (by grind);have hm':t % k<k:=ug _ uO;have et:t=t / k*k+t % k:=by grind [Nat.mul_comm,Nat.div_add_mod]
        have hg:=zmK k key zs (t / k) (t % k) hq hm';rw[<-et]at hg;have hzl':=hzk _ hq;obtain⟨r0,hr0,hr1,hr2⟩:=hri _ hq;obtain⟨v,hv1,hv2⟩:=hrow (off+t / k) _ (t % k) (zjS (zgk k key (t % k)) ((zs[t / k]).getD (t % k) 0)) hr0 (hr2 _ (by rw[hzl'];exact hm'));rw[if_neg (by simp[vt])]at hv2;have hv2:=zAB hv2;subst hv2;refine⟨?_,by simp[World.frozen?,hC]⟩;simp only[World.cell?,hC,kG,jE,if_false]
        grind
       subst hzl;refine Calls.yr (hS.some L.blk (L.off+off*k) c zs w hold hlt CL) ?_;rintro e w' ⟨rfl,n,os,rfl⟩;have hsl:=zx2 k key zs;generalize hZ:ziS k key zs=zz at hsl;generalize hC':Go.Sort.putCells id (L.off+off*k) (zfg k key zz).toArray C=C';have BH:C'.size=C.size:=by rw[<-hC'];simp[Go.Sort.putCells]
       have vU:∀p,C'[p]?=if L.off+off*k<=p/\p<L.off+off*k+zs.length*k then(if p<C.size then some ((zfg k key zz).toArray[p-(L.off+off*k)]!) else none) else C[p]?:=by
        intro p;rw[<-hC'];simp only[Go.Sort.putCells,Array.getElem?_mapIdx,hF,hsl];by_cases hp:p<C.size
        ·rw[vF hp];simp only[qm,hp,if_true];split<;>rfl
        ·rw[qB (by omega)];simp[hp]
       have hb1:(Go.Sort.grow (Go.Sort.putRow id (Go.Sort.ahead w n) L.blk (L.off+off*k) (zfg k key zz).toArray) os).heap[L.blk]?=some (.cells C' T (0,0)):=by
        rw[Go.Sort.grow];simp only;rw[qe (by simpa using hlt)];simp[Go.Sort.putRow,Go.Sort.mapBlock,Go.Sort.ahead,qR,hC,Go.Sort.onCells,hC']
       have hb2:∀q,q<w.heap.size->q≠L.blk->(Go.Sort.grow (Go.Sort.putRow id (Go.Sort.ahead w n) L.blk (L.off+off*k) (zfg k key zz).toArray) os).heap[q]?=w.heap[q]?:=by
        intro q hk hne;rw[Go.Sort.grow];simp only;rw[qe (by simpa using hk)];simp[Go.Sort.putRow,Go.Sort.mapBlock,Go.Sort.ahead,qR,fun e=>hne (Eq.symm e),qX hne]
       have BT:w.heap.size<=(Go.Sort.grow (Go.Sort.putRow id (Go.Sort.ahead w n) L.blk (L.off+off*k) (zfg k key zz).toArray) os).heap.size:=by simp[Go.Sort.grow]
       have hos:(Go.Sort.grow (Go.Sort.putRow id (Go.Sort.ahead w n) L.blk (L.off+off*k) (zfg k key zz).toArray) os).os=w.os:=rfl;have Bm:(Go.Sort.grow (Go.Sort.putRow id (Go.Sort.ahead w n) L.blk (L.off+off*k) (zfg k key zz).toArray) os).output=w.output:=rfl;have Cn:(Go.Sort.grow (Go.Sort.putRow id (Go.Sort.ahead w n) L.blk (L.off+off*k) (zfg k key zz).toArray) os).tape=w.tape:=rfl;have hdrn:w.drawn<=(Go.Sort.grow (Go.Sort.putRow id (Go.Sort.ahead w n) L.blk (L.off+off*k) (zfg k key zz).toArray) os).drawn:=uI _ _;generalize Go.Sort.grow (Go.Sort.putRow id (Go.Sort.ahead w n) L.blk (L.off+off*k) (zfg k key zz).toArray) os=w' at hb1 hb2 BT hos Bm Cn hdrn;generalize A6:b.rows.take off++zz.map (zsl k key)++b.rows.drop (off+zs.length)=vH;have hrl:vH.length=b.rows.length:=by rw[<-A6];simp;omega
       have AI:∀i,vH[i]?=if i<off then b.rows[i]? else if i<off+zs.length then(zz.map (zsl k key))[i-off]? else b.rows[i]?:=by
        intro i;have:=zdb b.rows (zz.map (zsl k key)) off (by simp;omega) i;simp only[km,hsl]at this;rw[<-A6,this]
       have hagc:∀b' o v,σ b' o=some v->w'.cell? ⟨b',o,none⟩=some v:=by
        intro b' o v hv';have hold:=hag.cells b' o v hv';by_cases hbb:b'=L.blk
        ·subst hbb;have hlo:o<L.off:=by
          rcases qr o L.off with h|h
          ·exact h
          ·have:=hbr.A0 o h (fun hh=>by rw[hfz]at hh;cases hh);rw[this]at hv';cases hv'
         simp only[World.cell?,hC,kG,jE,if_false]at hold;simp only[World.cell?,hb1,kG,jE,if_false];rw[vU,if_neg (by omega)];exact hold
        ·have:=hb2 b' (hag.lt hv') hbb;simpa [World.cell?,this]using hold
       have hbl:BL σ j { b with rows:=vH,ver:=b.ver+1 } L w':=by
        refine⟨hes,hbr.pos,fun r hr'=>?_,by simpa [hrl,A8]using BY,⟨C',T,(0,0),hb1,fun h=>absurd rfl h,by rw[BH,hsz],fun i' r n cl hi' hn=>?_⟩,fun o h1 h2=>hbr.A0 o h1 (fun h=>by rw[hfz]at h;cases h)⟩
        ·obtain⟨q,hq⟩:=jW hr';rw[AI]at hq;split at hq
         ·exact hbr.len r (zat hq)
         ·split at hq
          ·have:=zat hq;simp only[jZ]at this;obtain⟨_,_,rfl⟩:=this;simp[zsl,A8]
          ·exact hbr.len r (zat hq)
        ·simp only at hi' ⊢;simp only[vt,jE,if_false];have hnl:=zC hn;rw[AI]at hi';rw[vU,A8];by_cases h1:i'<off
         ·rw[if_pos h1]at hi';obtain⟨v,hv1,hv2⟩:=hrow i' r n cl hi' hn;rw[if_neg (by simp[vt])]at hv2;have Dd:=hbr.len r (zat hi');rw[A8]at Dd hv1;have:(i'+1)*k<=off*k:=kj _ h1;rw[ui]at this;exact⟨v,by rw[if_neg (by omega)];exact hv1,hv2⟩
         ·rw[if_neg h1]at hi';by_cases h2:i'<off+zs.length
          ·rw[if_pos h2]at hi';have hk:i'-off<zz.length:=by omega
           simp only[kF,jr hk,qm,jh]at hi';subst hi';have hnk:n<k:=by simpa [zsl]using hnl
           have ecl:cl=zjS (zgk k key n) ((zz[i'-off]).getD n 0):=by
            simp[zsl,hnk]at hn;simpa using hn.symm
           subst ecl;refine⟨vZ (zgk k key n) ((zz[i'-off]).getD n 0),?_,zDe _ _ _ _⟩;have hg:=zmK k key zz (i'-off) n hk hnk;have e0:i'=off+(i'-off):=by omega
           have e1:i'*k=off*k+(i'-off)*k:=by rw[<-qf,<-e0]
           have e2:(i'-off+1)*k<=zs.length*k:=kj _ (by omega);rw[ui]at e2;have e3:(i'+1)*k<=b.rows.length*k:=kj _ (by omega);rw[ui]at e3;rw[if_pos (by omega),if_pos (by omega)];rw[show L.off+i'*k+n-(L.off+off*k)=(i'-off)*k+n by omega,getElem!_def,uu,hg]
          ·rw[if_neg h2]at hi';obtain⟨v,hv1,hv2⟩:=hrow i' r n cl hi' hn;rw[if_neg (by simp[vt])]at hv2;have Dd:=hbr.len r (zat hi');rw[A8]at Dd hv1;have:(off+zs.length)*k<=i'*k:=kj _ (by omega);exact⟨v,by rw[if_neg (by omega)];exact hv1,hv2⟩
       refine⟨.tuple #[],σ,j,rfl,⟨#[],rfl,zac.nil⟩,⟨hagc,hag.kY⟩,?_,?_⟩
       ·
        have hw1:∀k,k≠L.blk->({ w' with heap:=(w'.heap.extract 0 w.heap.size) }:World).heap[k]?=w.heap[k]?:=by
         intro k hne;rcases qr k w.heap.size with hk|hk
         ·simp only[qA];rw[if_pos (by omega),jF];exact hb2 k hk hne
         ·rw[qB (by simp;omega),qB hk]
        have hbl1:BL σ j { b with rows:=vH,ver:=b.ver+1 } L ({ w' with heap:=(w'.heap.extract 0 w.heap.size) }:World):=by
         obtain⟨a1,a2,a3,a4,⟨C2,T2,fr2,q1,q0,q2,q3⟩,a6⟩:=hbl;refine⟨a1,a2,a3,a4,⟨C2,T2,fr2,?_,q0,q2,q3⟩,a6⟩;simp only[qA];rw[if_pos (by omega),jF];exact q1
        refine(hm.write hbk hj (b':={ b with rows:=vH,ver:=b.ver+1 }) rfl hw1 hbl1).more fun k hk=>?_
        simp only[Array.size_extract]at hk;simp only[qA];rw[if_pos (by omega),jF]
       ·refine⟨zP.le_refl _,fun _ _ _ _ h=>h,BT,fun b' hb' ho=>?_,fun _ _ _ h=>.inl h,fun id' b' hid hb'=>?_,⟨hos,Bm,Cn,fun _=>hdrn⟩⟩
        ·exact hb2 b' hb' (fun e=>ho (e ▸ hown L rfl))
        ·by_cases yw:id0=id'
         ·subst yw;rw[hbk]at hb';cases hb';exact⟨_,by simp[hid];rfl,by simp,fun h=>by simp at h⟩
         ·refine⟨b',by rw[jD yw];exact hb',jm _,fun _=>⟨rfl,fun L' hL'=>?_⟩⟩;exact hb2 _ (hm.uh hb' hL') (fun e=>yw (hm.vo id0 id' b b' L' hbk hb' (by rw[e];exact Inj.uQ hj) hL'))
     grind
    grind
   grind
 grind
theorem Zpd{M:Mem}{id:Nat}{b:Blk}{c:Int}{R:List (List Cl)}(h:zi4 M id=some (b,c,R)):M[id]?=some (some b)/\b.gen=0/\b.rows=[.int .i64 c]::R:=by
 grind [zi4,zaz]
theorem Zo6:∀{R:List (List Cl)} {ks:List (Int×Int)},Zo0 R=some ks->R.length=ks.length/\∀(i:Nat) (p:Int×Int),ks[i]?=some p->∃vc,R[i]?=some (.int .i64 p.1::.int .i64 p.2::vc)
 |[],ks,h=>by simp[Zo0]at h;subst h;exact⟨rfl,fun i p hp=>by simp at hp⟩
 |r::R,ks,h=>by
  unfold Zo0 at h;split at h
  ·grind
  ·obtain⟨l,hl,rfl⟩:=ja.1 h;obtain⟨h1,h2⟩:=Zo6 hl
   grind
  grind
theorem ZpP{f g:Nat}(hS:Zqq P f g)(hA:¬zb0.asc){x:Cl}{res:AV}{M':Mem}(h:ZpA g x M=some (res,M'))(hown:∀b,w.heap.size<=b->own b)(hag:zM σ w)(hm:MR own σ j M w){v:Value}(hx:VC σ j x v):Calls P f #[v] w (Ret own σ j M w res M'):=by
 unfold ZpA at h;split at h
 ·rename_i g' id;split at h
  ·rename_i b hb0;obtain⟨hbk,Bi⟩:=zaz hb0;split at h
   ·rename_i m gg u6;split at h
    ·rename_i bm c R hmap;split at h
     ·rename_i ks hks;split at h
      ·rename_i hc;cases h;obtain⟨rfl,vt,hlen,vh,hn1,hn2⟩:=hc;obtain⟨hR,hrow⟩:=Zo6 hks;have hM:=Zpd hmap;obtain⟨hmk,hmg,hmr⟩:=hM;cases hx with
       |fn _ _ _ _ fi' ca' l1 l2 q1 q2 =>
       have e1:fi' = #[]:=uL (by simpa using l1.symm);subst e1;obtain⟨u,hu⟩:∃u,ca' = #[u]:=by
        rcases ca' with⟨l⟩
        match l,l2 with
        |[u],_=>exact⟨u,rfl⟩
       subst hu;have hu:=q2 0 _ u rfl rfl;cases hu with
       |ptr _ _ _ _ _ L hj =>
       have CJ:L.off=0:=hm.okP _ _ _ hj rfl;obtain⟨pl',ya,hbr,_⟩:=hm.blk id b hbk;rw[<-Bi,hj]at ya;cases ya;have hbr:BL σ j b L w:=hbr;obtain⟨C,T0,fr,hC,hfr,hsz,hcell⟩:=hbr.heap;obtain⟨u,hu1,hu2⟩:=hcell 0 [.map m gg] 0 (.map m gg) (by rw[u6];rfl) rfl;rw[vt,if_pos rfl]at hu2;cases hu2 with
       |map _ _ _ l hjm =>
       obtain⟨plm,hplm,hbm,_⟩:=hm.vL m bm hmk;rw[hmg,hjm]at hplm;cases hplm;have hbm:MB σ j bm l gg w:=hbm;obtain⟨es,clock,R',hl,hr',Ax,hent⟩:=hbm.st;rw[hmr]at hr';simp only[AA,Cl.int.injEq,true_and,and_true]at hr';obtain⟨rfl,rfl⟩:=hr';have hkeys:es.toList.map (·.key)=(ks.map (·.2)).map (Value.int .i64)/\es.toList.map (fun e=>(e.born:Int))=ks.map (·.1):=by
        have hle:es.toList.length=ks.length:=by rw[<-Ax,hR]
        have hi:∀i (h1:i<es.toList.length) (h2:i<ks.length),es.toList[i].key=.int .i64 ks[i].2/\(es.toList[i].born:Int)=ks[i].1:=fun i h1 h2=>by
         obtain⟨vc,hv⟩:=hrow i ks[i] (by simp[h2]);obtain⟨k,n,vc',x,r1,r2,_⟩:=hent i _ es.toList[i] hv (by simp[h1]);simp only[AA,Cl.int.injEq]at r1;obtain⟨⟨_,r1⟩,⟨rfl,rfl⟩,_⟩:=r1;exact⟨r2,r1.symm⟩
        constructor
        ·apply Ao
         ·simp[hle]
         ·intro i h1 h2;simp only[An];exact(hi i (by simpa using h1) (by simpa using h2)).1
        ·apply Ao
         ·simp[hle]
         ·intro i h1 h2;simp only[An];exact(hi i (by simpa using h1) (by simpa using h2)).2
       have hst:Go.MapKept.Stamped es clock:=by
        refine⟨fun e he=>?_,?_,?_⟩
        ·have:(e.born:Int)∈ks.map (·.1):=by rw[<-hkeys.2];exact qL he
         obtain⟨p,hp,hpe⟩:=jZ.1 this;have:=of_decide_eq_true (jz.1 vh p hp);omega
        ·have h3:(es.toList.map fun e=>(e.born:Int)).Nodup:=by rw[hkeys.2];exact hn1
         have:(es.toList.map fun e=>(e.born:Int))=(es.toList.map (·.born)).map (fun n:Nat=>(n:Int)):=by simp
         rw[this]at h3;exact List.Pairwise.of_map (R:=(·≠·)) (S:=(·≠·)) _ (fun a b hab e=>hab (by rw[e])) h3
        ·rw[hkeys.1];exact List.Pairwise.map _ (fun a b hab e=>hab (by cases e;rfl)) hn2
       obtain⟨T,hS⟩:=hS.keys;have hcl:w.cell? ⟨L.blk,0,none⟩=some (.map (some l)):=by
        have:C[0]?=some (.map (some l)):=by grind
        simp[World.cell?,hC,this]
       have qI:=hS L.blk l clock es (ks.map (·.2)) w hcl hl hst hkeys.1 (fun k hk=>by
        obtain⟨p,hp,rfl⟩:=jZ.1 hk;exact(of_decide_eq_true (jz.1 vh p hp)).2) (by simpa using hlen)
       have ea:L.off+0*L.esz+0=0:=by omega
       rw[ea];refine Calls.yr qI ?_;rintro e w' ⟨v,rfl,Dp,Dg⟩;have hslen:(zfI (ks.map (·.2))).length=ks.length:=by rw[zsM];simp
       generalize zfI (ks.map (·.2))=ss at *;simp only[km]at Dp;rw[<-hslen]at Dp;have hold:∀k,k<w.heap.size->w'.heap[k]?=w.heap[k]?:=Dg.block;have BU:zd9 w w':=⟨Dg.os,Dg.output,Dg.tape,fun q=>absurd q hA⟩;rcases Dp.2 with⟨rfl,hz⟩ |⟨gb,cap,cur,rfl,AK,hgb,yK,_,hcs,htk⟩
       ·have hs0:ss=[]:=jM hz;subst hs0;refine⟨_,σ,j,rfl,VC.jb _ 1 [] none 0 0 0 (fun _ _=>default) (jm _) (.inl rfl) (fun _ h=>by cases h) (fun i row n cl hi=>by simp at hi) (fun i row n cl hi=>by simp at hi),hag.AS (fun b o v hv=>hold b (hag.lt hv)),hm.more hold,zP.le_refl _,fun _ _ _ _ h=>h,Dg.size,fun b hb _=>hold b hb,fun _ _ _ h=>.inl h,fun id b _ hb=>⟨b,hb,jm _,fun _=>⟨rfl,fun q hq=>hold q (hm.uh hb hq)⟩⟩,BU⟩
       ·have hgw:∀o v,σ gb o=some v->False:=fun o v hv=>by have:=hag.lt hv;omega
        have hcell:∀i (hi:i<ss.length),cur[i]?=some (.int .i64 ss[i]):=fun i hi=>by
         have h3:=congrArg (·[i]?) htk;simp only[AO,ut,hi,if_true,kF,jr hi,qm]at h3;simpa using h3
        let σ':zP:=fun b o=>if b=gb then(ss[o]?).map (Value.int .i64) else σ b o
        have hle:σ.le σ':=fun b o v hv=>by
         by_cases hb:b=gb
         ·subst hb;exact(hgw _ _ hv).elim
         ·simp only[σ',if_neg hb];exact hv
        have hgl:gb<w'.heap.size:=(jH.1 hgb).1;refine⟨_,σ',j,rfl,?_,⟨fun b o v hv=>?_,hag.kY.mono hle⟩,⟨fun id b hb=>?_,hm.vo,hm.dom,hm.okP⟩,hle,fun _ _ _ _ h=>h,Dg.size,fun b hb _=>hold b hb,fun b o v hv=>?_,fun id b _ hb=>⟨b,hb,jm _,fun _=>⟨rfl,fun q hq=>hold q (hm.uh hb hq)⟩⟩,BU⟩
        ·have:=VC.jb (σ:=σ') j 1 (zgv ss) (some ⟨gb,0,none⟩) cap gb 0 (fun i _=>.int .i64 (ss.getD i 0)) (by simpa [zgv]using yK) (.inr rfl) (fun row hr=>by simp[zgv]at hr;obtain⟨_,_,rfl⟩:=hr;rfl) (fun i row n cl hi hn=>by
          simp only[zgv,kF,ja]at hi;obtain⟨z,hz,rfl⟩:=hi;obtain rfl:n=0:=by
           have:=zC hn;simp at this;omega
          simp[σ',hz]) (fun i row n cl hi hn=>by
          simp only[zgv,kF,ja]at hi;obtain⟨z,hz,rfl⟩:=hi;obtain rfl:n=0:=by
           grind
          simp at hn;subst hn;simp[hz];exact VC.int _ _ _)
         simpa [zgv,AVR,WVR]using this
        ·by_cases hb:b=gb
         ·subst hb;simp only[σ',if_true,ja]at hv;obtain⟨z,hz,rfl⟩:=hv;obtain⟨ho,rfl⟩:=jK.1 hz;simp[World.cell?,hgb,hcell o ho]
         ·simp only[σ',if_neg hb]at hv;have:=hag.cells b o v hv
          grind [World.cell?]
        ·obtain⟨pl,h1,h2,h3⟩:=hm.vL id b hb;refine⟨pl,h1,h2.mono hle (Inj.le_refl _) (fun k hk=>hold k (hm.uh hb (Inj.yf h1 hk))) (fun L' e o hs _ _=>?_),h3⟩;subst e;have:L'.blk<w.heap.size:=hm.uh hb (Inj.uQ h1)
         grind
        grind
      grind
     grind
    grind
   grind
  grind
 grind
theorem Zpy{f:Nat}(hS:ZqC P f){x:Cl}{res:AV}{M':Mem}(h:Zpq x M=some (res,M'))(hown:∀b,w.heap.size<=b->own b)(hag:zM σ w)(hm:MR own σ j M w){v:Value}(hx:VC σ j x v):Calls P f #[v] w (Ret own σ j M w res M'):=by
 unfold Zpq at h;split at h
 ·rename_i m g;split at h
  ·rename_i b c R hmap;cases h;obtain⟨hmk,hmg,hmr⟩:=Zpd hmap;cases hx with
   |map _ _ _ l hj =>
   obtain⟨pl,hpl,hb,_⟩:=hm.vL m b hmk;rw[hmg,hj]at hpl;cases hpl;obtain⟨es,clock,R',hl,hr',Ax,hent⟩:=hb.st;refine Calls.yr (hS.clone l es clock w hl) ?_;rintro e w' ⟨rfl,rfl⟩;have hm1:=hm.qH 1;have hn:zg (M++qH 1) M.length { b with ver:=0 }=some (M++[some { b with ver:=0 }]):=by
    simp[zg,qH]
   have vg:j M.length 0=none:=by
    cases hq:j M.length 0 with
    |none=>rfl
    |some pl =>
     obtain⟨b2,hb2,_⟩:=hm.dom _ _ _ hq
     grind
   have hbr:MB σ (j.put M.length 0 (.mp w.heap.size g)) { b with ver:=0 } w.heap.size g (w.alloc (.map es clock)):=by
    refine⟨hb.box,es,clock,R',by show(w.heap.push _)[w.heap.size]?=_;simp,hr',Ax,fun i row e hi he=>?_⟩;obtain⟨k,n,vc,x,q1,q2,q3,q4⟩:=hent i row e hi he;exact⟨k,n,vc,x,q1,q2,q3,q4.mono (zP.le_refl _) (Inj.Aq vg)⟩
   obtain⟨v,w2,σ',j',r1,r2,r3,r4,r5⟩:=zlY (o:=.map es clock) (pl:=.mp w.heap.size g) (v:=.map (some w.heap.size)) (c:=.map M.length g) hn hag hm1 hown hmg (by grind) rfl hbr (.map _ _ _ _ (Inj.ve _ _ _ _));cases r1;exact⟨_,σ',j',rfl,r2,r3,r4,r5.Ch⟩
  grind
 grind
theorem zvt(AK:zb0.base=P.funcs.size)(vq:P.follows .mixedOrders=true){Cs:List (Nat×Nat×Nat×Bool)}(hC:∀c∈Cs,(c.2.1==0||zf2 P c.1 c.2.1 c.2.2.1)=true)(hS:∀c∈Cs,c.2.1=0->zqh P c)(hA:∀c∈Cs,c.2.1=0->c.2.2.1 % 64=1->¬zb0.asc):FnS P (uw Cs):=by
 intro f args M res M' h vJ;unfold uw at h;split at h
 ·rename_i esz bytes frz hl;have vT:(f,esz,bytes,frz)∈Cs:=by
   clear h hC hS hA;induction Cs with
   |nil=>grind
   |cons c Cs ih =>
    grind
  split at h
  ·rename_i x;split at h
   ·rename_i h0;split at h
    ·rename_i hb0;have hSf:=(hS _ vT h0).1 hb0;obtain⟨fn,h1,h2,h3⟩:=hSf.fn;refine⟨fun _=>⟨fn,h1,h2,h3,fun own σ j w vs hown hag hm hvs=>?_⟩,fun hge=>by
      grind⟩
     obtain⟨v,vs',hv0,hv,hs⟩:=hvs.kO;have CF:=hs.vG;subst CF;have:vs = #[v]:=qC (by grind);subst this;exact zx1 hSf h hag hm hv
    ·have one:∀{own:Nat->Prop} {σ:zP} {j:Inj} {w:World} {vs:Array Value},zac σ j [.c x] vs.toList->∃v,vs = #[v]/\VC σ j x v:=fun {own σ j w vs} hvs=>by
      obtain⟨v,vs',hv0,hv,hs⟩:=hvs.kO;have CF:=hs.vG;subst CF;exact⟨v,qC (by grind),hv⟩
     split at h
     ·rename_i h1;have hSf:=(hS _ vT h0).2.1 h1;obtain⟨fn,g1,g2,g3⟩:=hSf.fn;refine⟨fun _=>⟨fn,g1,g2,g3,fun own σ j w vs hown hag hm hvs=>?_⟩,fun hge=>by
       grind⟩
      obtain⟨v,rfl,hv⟩:=one (own:=own) (w:=w) hvs
      grind [ZpP]
     ·split at h
      ·rename_i h1;have hSf:=(hS _ vT h0).2.2.1 h1;obtain⟨fn,g1,g2,g3⟩:=hSf.fn;refine⟨fun _=>⟨fn,g1,g2,g3,fun own σ j w vs hown hag hm hvs=>?_⟩,fun hge=>by
        grind⟩
       obtain⟨v,rfl,hv⟩:=one (own:=own) (w:=w) hvs
       grind [Zpy]
      grind
   ·rename_i h0;have hck:=hC _ vT;have hck:zf2 P f esz bytes=true:=by grind
    obtain⟨fn,h1,h2,h3,_⟩:=zrt (own:=fun _=>True) (σ:=fun _ _=>none) (j:=zb1) (w:=default) (v:=default) vq hck h;refine⟨fun _=>⟨fn,h1,h2,h3,fun own σ j w vs hown hag hm hvs=>?_⟩,fun hge=>by
     grind⟩
    obtain⟨v,vs',hv0,hv,hs⟩:=hvs.kO;have CF:=hs.vG;subst CF;have:vs = #[v]:=qC (by grind);subst this;obtain⟨_,_,_,_,hc⟩:=zrt (own:=own) (σ:=σ) (j:=j) (w:=w) (v:=v) vq hck h;exact hc hown hag hm hv
  ·rename_i x g;split at h
   ·rename_i h0;obtain⟨h0,h00,rfl⟩:=h0;have hSf:=(hS _ vT h0).2.2.2 h00;obtain⟨fn,h1,h2,h3⟩:=hSf.fn;refine⟨fun _=>⟨fn,h1,h2,h3,fun own σ j w vs hown hag hm hvs=>?_⟩,fun hge=>by
     have:=(jH.1 h1).1;omega⟩
    obtain⟨v,vs',hv0,hv,hs⟩:=hvs.kO;obtain⟨u,vs'',hu0,hu,hs'⟩:=hs.kO;have CF:=hs'.vG;subst CF;subst hu0;have hu:VC σ j (.fn (bytes / 64) [] []) u:=hu;cases hu with
    |fn _ f fi ca fi' ca' l1 l2 q1 q2 =>
     have e1:fi' = #[]:=uL (by simpa using l1.symm);have e2:ca' = #[]:=uL (by simpa using l2.symm);subst e1 e2;have:vs = #[v,.func (.func (bytes / 64)) #[] #[]]:=qC (by simpa using hv0);subst this;exact zwi hSf h hag hm hv
   grind
  grind
 grind
end
section
variable[zb0]
theorem MR.nil{own:Nat->Prop}{σ:zP}{w:World}:MR own σ zb1 [] w :=
 ⟨fun id b h=>by simp at h,fun id id' b b' k h=>by simp at h,fun id g pl h=>by simp[zb1]at h,fun id g pl h=>by simp[zb1]at h⟩
end
theorem zqU{α:Type}{f:Nat}{c:α}:∀{l:List (Nat×α)},l.lookup f=some c->(f,c)∈l
 |[],h=>by simp at h
 |(g,d)::l,h=>by
  rw[List.lookup_cons]at h;split at h
  ·rename_i hb;cases h;simp at hb;subst hb;exact jy ..
  ·exact jI _ (zqU h)
def Zpp(Cs:List (Nat×Nat×Nat×Bool)):Prop:=∀c∈Cs,c.2.1=0->c.2.2.1 % 64≠1
@[reducible] def zww [G:GlobP](P:Program)(T:FuncId->Option CFn)(asc:Prop:=True):zb0:={ toGlobP:=G,asc,base:=P.funcs.size,okc:=fun v ps a b n=>P.funcs.size<=v/\zAN P T v ps a b n,le:=fun _ _ _ _ _ h=>h.1 }
variable[GlobP]
def zql(P:Program)(L:List (Nat×CFn)):Bool:=L.all fun p=>match P.funcs[p.1]? with
 |some fn=>match fn.body with
  |some b=>(List.range (zeV b)).all fun i=>(L.lookup (P.funcs.size+16*p.1+i)).isSome
  |none=>true
 |none=>true
theorem zk9{P:Program}{an:Ann}{L:List (Nat×CFn)}(h:(L.map fun p=>zcF P an true p.1)=L.map fun p=>some p.2){f:FuncId}{c:CFn}(hl:L.lookup f=some c):zcF P an true f=some c/\(f,c)∈L:=by
 have hm:=zqU hl;obtain⟨k,hk⟩:=jW hm;have:=congrArg (·[k]?) h;simp only[kF,hk,qm]at this;exact⟨Option.some.inj this,hm⟩
theorem zpU{P:Program}{an:Ann}{b:Bool}{v:FuncId}{c:CFn}(h:zho P an b v=some c):c.rnd.isSome=true:=by
 unfold zho at h;split at h
 ·split at h
  ·split at h
   ·split at h
    ·split at h
     ·cases h;rfl
     ·cases h
    ·cases h
   ·cases h
  ·cases h
 ·cases h
theorem zzm{P:Program}{A:Prop}{an:Ann}{L:List (Nat×CFn)}(h:(L.map fun p=>zcF P an true p.1)=L.map fun p=>some p.2)(hV:zql P L=true)(f:FuncId)(c:CFn)(hl:L.lookup f=some c) :
  (f<P.funcs.size->@zC5 (zww P (fun f=>L.lookup f) A) P f c)/\(P.funcs.size<=f->c.rnd.isSome=true):=by
 letI:=zww P (fun f=>L.lookup f) A;obtain⟨hc,hm⟩:=zk9 h hl;unfold zcF at hc;refine⟨fun hlt=>?_,fun hge=>?_⟩
 ·rw[if_pos hlt]at hc;refine zuf hc fun fn body i x hf hb hn hx=>⟨jO (uI _ (16*f)) (uI _ i),?_⟩
  have h1:=jz.1 hV _ hm;simp only[hf,hb]at h1;have h2:=jz.1 h1 i (by have:=zC hx;rw[zfr]at this;simpa using this);obtain⟨c',hc'⟩:=Option.isSome_iff_exists.1 h2;obtain⟨h3,_⟩:=zk9 h hc';unfold zcF at h3;rw[if_neg (Nat.not_lt.2 (jO (uI _ (16*f)) (uI _ i)))]at h3;exact zro h3 hc' hf hb hn hx
 ·rw[if_neg (Nat.not_lt.2 hge)]at hc;exact zpU hc
def zaH(L:List (Nat×CFn))(Cs:List (Nat×Nat×Nat×Bool))(n:Nat):za4:=zfk (fun f=>L.lookup f) (uw Cs) n
theorem zsT{P:Program}(vq:P.follows .mixedOrders=true){an:Ann}{L:List (Nat×CFn)}{Cs:List (Nat×Nat×Nat×Bool)}(hL:(L.map fun p=>zcF P an true p.1)=L.map fun p=>some p.2)(hV:zql P L=true)
  (hC:(Cs.all fun c=>c.2.1==0||zf2 P c.1 c.2.1 c.2.2.1)=true) (hS:∀c∈Cs,c.2.1=0->zqh P c) (n:Nat):@FnS (zww P (fun f=>L.lookup f) (Zpp Cs)) P (zaH L Cs n):=by
 letI:=zww P (fun f=>L.lookup f) (Zpp Cs);exact zrA vq (fun f c hl=>zzm hL hV f c hl) (fun v ps a b n h=>h.2) (zvt rfl vq (fun c hc=>jz.1 hC c hc) hS (fun c hc h0 h1 hn=>hn c hc h0 h1)) n
end Go.Eng
namespace Go.Eng
open Go
def za4.le(c d:za4):Prop:=∀f a M r,c f a M=some r->d f a M=some r
theorem zo1{c d:za4}(h:c.le d){f:FuncId}{args:List WV}{M:Mem}{r:AV×Mem×FP}(hr:zcG c f args M=some r):zcG d f args M=some r:=by
 unfold zcG at hr ⊢;dsimp only at hr ⊢;split at hr
 ·split at hr
  ·rename_i as Ms h2 h3;split at hr
   ·grind
   ·rename_i r0 Ms' h4;simp only[h2,h3,h _ _ _ _ h4]
    grind
  grind
 grind
theorem ztf{c d:za4}(h:c.le d){m:zbz}{fv:WV}{args:List WV}{M:Mem}{r:AV×Mem×FP}(hr:zx c m fv args M=some r):zx d m fv args M=some r:=by
 unfold zx at hr ⊢;split at hr
 ·split at hr
  ·split at hr
   ·grind
   ·split at hr
    ·dsimp only at hr;split at hr
     ·grind [zo1]
     ·grind [zo1]
    grind
  ·split at hr
   ·grind [zo1]
   grind
 grind
theorem zzW{c d:za4}(h:c.le d){n0:Nat}{E:Nat->Option AV}{M:Mem}{co:CO}{r:AV×Mem×FP}(hr:opF c n0 E M co=some r):opF d n0 E M co=some r:=by
 cases co with
 |call m f as =>
  grind [opF,ztf]
 |_=>exact hr
theorem zuH{c d:za4}(h:c.le d){n0:Nat}{o:zaG}{E:Nat->Option AV}{M:Mem}{r:AV×Mem×FP}(hr:zbm c n0 o E M=some r):zbm d n0 o E M=some r:=by
 grind [zbm,zzW]
theorem zp9{c d:za4}(h:c.le d){n0:Nat}:∀{os:List zaG} {E:Env} {M:Mem} {r:Env×Mem×List FP},zks c n0 os E M=some r->zks d n0 os E M=some r
 |[],E,M,r,hr=>hr
 |o::os,E,M,r,hr=>by
  simp only[zks]at hr ⊢;split at hr
  ·rename_i v M' fp h1;rw[zuH h h1];dsimp only;split at hr
   ·rename_i E2 M2 fs h2;rw[zp9 h h2]
    grind
   grind
  grind
theorem z7B{f g:Env->Mem->Option (EX×Env×Mem)}(h:∀E M r,f E M=some r->g E M=some r){live:Option (List Nat)}{n0:Nat}:∀{n m:Nat} {E:Env} {M:Mem} {r:EX×Env×Mem},n<=m->iter f live n0 n E M=some r->iter g live n0 m E M=some r
 |0,m,E,M,r,hn,hr=>by grind [iter]
 |n+1,0,E,M,r,hn,hr=>by omega
 |n+1,m+1,E,M,r,hn,hr=>by
  simp only[iter]at hr ⊢;cases hf:f E M with
  |none=>grind
  |some x =>
   rw[hf]at hr;rw[h _ _ _ hf];obtain⟨ex,E',M'⟩:=x;cases ex with
   |normal=>exact z7B h (by omega) hr
   |exit i=>grind
   |ret=>grind
theorem zcR{c d:za4}(h:c.le d){n m:Nat}(hn:n<=m):∀{cc:CC} {E:Env} {M:Mem} {r:EX×Env×Mem},zaV c n cc E M=some r->zaV d m cc E M=some r
 |.skip,E,M,r,hr=>hr
 |.region nA ops prs uV,E,M,r,hr=>by
  grind [zaV,zp9]
 |.seq a b,E,M,r,hr=>by
  simp only[zaV]at hr ⊢;cases ha:zaV c n a E M with
  |none=>grind
  |some x =>
   rw[ha]at hr;rw[zcR h hn ha];obtain⟨ex,E',M'⟩:=x;cases ex with
   |normal=>exact zcR h hn hr
   |exit i=>grind
   |ret=>grind
 |.cond x a b,E,M,r,hr=>by
  simp only[zaV]at hr ⊢;split at hr
  ·split at hr
   ·rename_i h1;rw[if_pos h1];exact zcR h hn hr
   ·rename_i h1;rw[if_neg h1];exact zcR h hn hr
  grind
 |.block id b,E,M,r,hr=>by
  simp only[zaV]at hr ⊢;cases ha:zaV c n b E M with
  |none=>grind
  |some x=>rw[zcR h hn ha];grind
 |.loop live b,E,M,r,hr=>by
  exact z7B (fun E M r hr=>zcR h hn hr) hn hr
 |.exit id,E,M,r,hr=>hr
 |.ret,E,M,r,hr=>hr
 |.rng f v caps,E,M,r,hr=>by
  grind [zaV,ztf]
theorem zyb{c d:za4}(h:c.le d){n m:Nat}(hn:n<=m){f:FuncId}{ps:List Nat}{pre code:CC}{args:List WV}{M:Mem}{r:AV×Mem}(hr:zoC c n f ps pre code args M=some r):zoC d m f ps pre code args M=some r:=by
 unfold zoC at hr ⊢;split at hr
 ·split at hr
  ·split at hr
   ·split at hr
    ·split at hr
     ·grind [zcR]
     grind
    grind
   grind
  grind
 grind
theorem zrz{T:FuncId->Option CFn}{X:za4}:∀n,za4.le (zfk T X n) (zfk T X (n+1))
 |0=>fun f a M r h=>by grind [zfk]
 |n+1=>fun f a M r h=>by
  have ih:=zrz (T:=T) (X:=X) n;simp only[zfk]at h;rw[zfk];split at h
  ·grind
  ·rename_i fn hT;split at h
   ·exact zyb ih (kL n) h
   ·split at h
    ·cases hx:zaV (zfk T X n) n fn.code (vY 0 a) M with
     |none=>grind
     |some x=>rw[zcR ih (kL n) hx];grind
    grind
theorem zAD{T:FuncId->Option CFn}{X:za4}{n m:Nat}(h:n<=m):za4.le (zfk T X n) (zfk T X m):=by
 induction h with
 |refl=>exact fun _ _ _ _ h=>h
 |step _ ih=>exact fun f a M r h=>zrz _ f a M r (ih f a M r h)
def zCa{α:Type}(f:Nat->Option α):Prop:=∀n m r,n<=m->f n=some r->f m=some r
open Classical in
noncomputable def lim{α:Type}(f:Nat->Option α):Option α:=if h:∃r n,f n=some r then some h.choose else none
theorem zt0{α:Type}{f:Nat->Option α}(hf:zCa f){r:α}:lim f=some r<->∃n,f n=some r:=by
 constructor
 ·intro h;unfold lim at h;split at h
  ·grind
  grind
 ·rintro⟨n,hn⟩;have hx:∃r n,f n=some r:=⟨r,n,hn⟩;unfold lim;obtain⟨m,hm⟩:=hx.choose_spec;have h1:=hf n (max n m) _ (uS ..) hn;have h2:=hf m (max n m) _ (uH ..) hm
  grind
section
variable(L:List (Nat×CFn))(Cs:List (Nat×Nat×Nat×Bool))
noncomputable def R:za4:=fun f a M=>lim fun n=>zaH L Cs n f a M
noncomputable def X(cc:CC)(E:Env)(M:Mem):Option (EX×Env×Mem):=lim fun n=>zaV (zaH L Cs n) n cc E M
noncomputable def Y(b:CC)(live:Option (List Nat))(n0:Nat)(E:Env)(M:Mem):Option (EX×Env×Mem):=lim fun n=>iter (zaV (zaH L Cs n) n b) live n0 n E M
end
section
variable{L:List (Nat×CFn)}{Cs:List (Nat×Nat×Nat×Bool)}
theorem zgu{n m:Nat}(h:n<=m):za4.le (zaH L Cs n) (zaH L Cs m):=zAD h
theorem zCS{f:FuncId}{a:List WV}{M:Mem}:zCa fun n=>zaH L Cs n f a M:=fun _ _ r h hr=>zgu h _ _ _ _ hr
theorem zCL{cc:CC}{E:Env}{M:Mem}:zCa fun n=>zaV (zaH L Cs n) n cc E M:=fun _ _ _ h hr=>zcR (zgu h) h hr
theorem zCJ{b:CC}{live:Option (List Nat)}{n0:Nat}{E:Env}{M:Mem}:zCa fun n=>iter (zaV (zaH L Cs n) n b) live n0 n E M:=fun _ _ _ h hr=>z7B (fun _ _ _ hr=>zcR (zgu h) h hr) h hr
theorem zah{f:FuncId}{a:List WV}{M:Mem}{r:AV×Mem}:R L Cs f a M=some r<->∃n,zaH L Cs n f a M=some r:=zt0 zCS
theorem zdL{cc:CC}{E:Env}{M:Mem}{r:EX×Env×Mem}:X L Cs cc E M=some r<->∃n,zaV (zaH L Cs n) n cc E M=some r:=zt0 zCL
theorem zpD{b:CC}{live:Option (List Nat)}{n0:Nat}{E:Env}{M:Mem}{r:EX×Env×Mem}:Y L Cs b live n0 E M=some r<->∃n,iter (zaV (zaH L Cs n) n b) live n0 n E M=some r:=zt0 zCJ
theorem zDi(n:Nat):za4.le (zaH L Cs n) (R L Cs):=fun _ _ _ _ h=>zah.2 ⟨n,h⟩
theorem zry{f:FuncId}{args:List WV}{M:Mem}{r:AV×Mem×FP}(hr:zcG (R L Cs) f args M=some r):∃n,zcG (zaH L Cs n) f args M=some r:=by
 grind [zcG,zah]
theorem zAC{m:zbz}{fv:WV}{args:List WV}{M:Mem}{r:AV×Mem×FP}(hr:zx (R L Cs) m fv args M=some r):∃n,zx (zaH L Cs n) m fv args M=some r:=by
 unfold zx at hr ⊢;split at hr
 ·split at hr
  ·split at hr
   ·grind
   ·split at hr
    ·dsimp only at hr;split at hr
     ·simp_all [zry,if_pos,if_true]
     grind [zry]
    grind
  simp_all [zry,if_neg,if_pos]
 grind
theorem zCe{n0:Nat}{E:Nat->Option AV}{M:Mem}{co:CO}{r:AV×Mem×FP}(hr:opF (R L Cs) n0 E M co=some r):∃n,opF (zaH L Cs n) n0 E M co=some r:=by
 cases co with
 |call m f as =>
  grind [opF,zAC]
 |_=>exact⟨0,hr⟩
theorem zBh{n0:Nat}{o:zaG}{E:Nat->Option AV}{M:Mem}{r:AV×Mem×FP}(hr:zbm (R L Cs) n0 o E M=some r):∃n,zbm (zaH L Cs n) n0 o E M=some r:=by
 unfold zbm at hr ⊢;split at hr
 ·grind [zCe]
 ·split at hr
  ·grind [zCe]
  ·simp_all
  grind
theorem zzL{n0:Nat}:∀{os:List zaG} {E:Env} {M:Mem} {r:Env×Mem×List FP},zks (R L Cs) n0 os E M=some r->∃n,zks (zaH L Cs n) n0 os E M=some r
 |[],E,M,r,hr=>⟨0,hr⟩
 |o::os,E,M,r,hr=>by
  simp only[zks]at hr;split at hr
  ·rename_i v M' fp h1;split at hr
   ·rename_i E2 M2 fs h2;obtain⟨n,hn⟩:=zBh h1;obtain⟨m,hm⟩:=zzL h2;refine⟨max n m,?_⟩;simp only[zks,zuH (zgu (uS n m)) hn,zp9 (zgu (uH n m)) hm]
    grind
   grind
  grind
theorem zi0{α:Type}{a b:Option α}(h:∀x,a=some x<->b=some x):a=b:=by
 cases a with
 |none=>cases b with
  |none=>rfl
  |some y=>simp_all
 |some x=>grind
theorem zCK(E:Env)(M:Mem):X L Cs .skip E M=some (.normal,E,M):=zdL.2 ⟨0,rfl⟩
theorem zCN(id:Nat)(E:Env)(M:Mem):X L Cs (.exit id) E M=some (.exit id,E,M):=zdL.2 ⟨0,rfl⟩
theorem zDo(E:Env)(M:Mem):X L Cs .ret E M=some (.ret,E,M):=zdL.2 ⟨0,rfl⟩
theorem zAM(nA:Nat)(ops:List zaG)(prs:List (Nat×Nat))(uV:Option (List Nat))(E:Env)(M:Mem):X L Cs (.region nA ops prs uV) E M=match zks (R L Cs) M.length ops E (M++qH nA)with
  |some (E',M',fs)=>if prs.all (zyi (M.length+nA) fs) then some (.normal,E'.kept uV,M') else none
  |none=>none:=by
 refine zi0 fun x=>⟨fun h=>?_,fun h=>?_⟩
 ·grind [zdL,zaV,zp9,zDi]
 grind [zzL,zdL,zaV]
theorem zDn(a b:CC)(E:Env)(M:Mem):X L Cs (.seq a b) E M=match X L Cs a E M with
  |some (.normal,E',M')=>X L Cs b E' M'
  |r=>r:=by
 refine zi0 fun x=>⟨fun h=>?_,fun h=>?_⟩
 ·grind [zdL,zaV,zaH]
 ·cases ha:X L Cs a E M with
  |none=>grind
  |some y =>
   rw[ha]at h;obtain⟨n,hn⟩:=zdL.1 ha;obtain⟨ex,E',M'⟩:=y;cases ex with
   |normal =>
    obtain⟨m,hm⟩:=zdL.1 h;exact zdL.2 ⟨max n m,by simp only[zaV,zcR (zgu (uS n m)) (uS n m) hn];exact zcR (zgu (uH n m)) (uH n m) hm⟩
   |exit i=>grind [zdL,zaV]
   |ret=>grind [zdL,zaV]
theorem zCO(c:Opd)(a b:CC)(E:Env)(M:Mem):X L Cs (.cond c a b) E M=match c.ev E.get with
  |some (.c (.bool t))=>if t then X L Cs a E M else X L Cs b E M
  |_=>none:=by
 refine zi0 fun x=>⟨fun h=>?_,fun h=>?_⟩
 ·obtain⟨n,hn⟩:=zdL.1 h;simp only[zaV]at hn;split at hn
  ·split at hn
   ·grind [zdL]
   ·grind [zdL]
  grind
 ·split at h
  ·split at h
   ·simp_all [zdL,zaV,if_pos]
   simp_all [zdL,zaV,if_neg]
  grind
theorem zBU(id:Nat)(b:CC)(E:Env)(M:Mem):X L Cs (.block id b) E M=match X L Cs b E M with
  |some (.exit id',E',M')=>if id'=id then some (.normal,E',M') else some (.exit id',E',M')
  |r=>r:=by
 refine zi0 fun x=>⟨fun h=>?_,fun h=>?_⟩
 ·grind [zdL,zaV,zaH]
 grind [X,zdL,zaV]
theorem zCM(live:Option (List Nat))(b:CC)(E:Env)(M:Mem):X L Cs (.loop live b) E M=Y L Cs b live M.length (canon M.length live E M).1 (canon M.length live E M).2:=by
 refine zi0 fun x=>⟨fun h=>?_,fun h=>?_⟩
 ·grind [zdL,zpD,zaV]
 grind [zpD,zdL,zaV]
theorem zrL(b:CC)(live:Option (List Nat))(n0:Nat)(E:Env)(M:Mem):Y L Cs b live n0 E M=match X L Cs b E M with
  |some (.normal,E',M')=>Y L Cs b live n0 (canon n0 live E' M').1 (canon n0 live E' M').2
  |r=>r:=by
 refine zi0 fun x=>⟨fun h=>?_,fun h=>?_⟩
 ·obtain⟨n,hn⟩:=zpD.1 h;cases n with
  |zero=>grind [iter]
  |succ n =>
   simp only[iter]at hn;cases ha:zaV (zaH L Cs (n+1)) (n+1) b E M with
   |none=>grind
   |some y =>
    rw[ha]at hn;rw[zdL.2 ⟨n+1,ha⟩];obtain⟨ex,E',M'⟩:=y;cases ex with
    |normal=>exact zpD.2 ⟨n+1,z7B (fun _ _ _ h=>h) (kL n) hn⟩
    |exit i=>grind
    |ret=>grind
 ·cases ha:X L Cs b E M with
  |none=>grind
  |some y =>
   rw[ha]at h;obtain⟨n,hn⟩:=zdL.1 ha;obtain⟨ex,E',M'⟩:=y;cases ex with
   |normal =>
    obtain⟨m,hm⟩:=zpD.1 h;refine zpD.2 ⟨max n m+1,?_⟩;have h1:=zcR (zgu (L:=L) (Cs:=Cs) (show n<=max n m+1 by omega)) (show n<=max n m+1 by omega) hn;simp only[iter,h1];exact z7B (fun _ _ _ hr=>zcR (zgu (show m<=max n m+1 by omega)) (show m<=max n m+1 by omega) hr) (show m<=max n m by omega) hm
   |exit i =>
    refine zpD.2 ⟨n+1,?_⟩;simp only[iter,zcR (zgu (kL n)) (kL n) hn];grind
   |ret =>
    refine zpD.2 ⟨n+1,?_⟩;simp only[iter,zcR (zgu (kL n)) (kL n) hn];grind
theorem zNb(f:Opd)(vf:FuncId)(caps:List Nat)(E:Env)(M:Mem):X L Cs (.rng f vf caps) E M=match f.ev E.get with
  |some (.c (.fn g fi ca))=>match zx (R L Cs) ⟨true⟩ (.c (.fn g fi ca)) [.c (.yld M.length vf (zeN E caps).1)] (M++[some (ghost (zeN E caps).2)])with
   |some (_,M',_)=>match kM M' M.length with
    |some s=>match znr s,zsR M' M.length s (-1)with
     |some ex,some M2=>some (ex,E,M2)
     |_,_=>none
    |none=>none
   |none=>none
  |_=>none:=by
 refine zi0 fun x=>⟨fun h=>?_,fun h=>?_⟩
 ·grind [zdL,zaV,ztf,zDi]
 ·split at h
  ·grind [zAC,zdL,zaV]
  grind
theorem zUa{f:FuncId}{fn:CFn}(hL:L.lookup f=some fn)(hr:fn.rnd=none)(args:List WV)(M:Mem):R L Cs f args M=if args.length=fn.nargs then
   match X L Cs fn.code (vY 0 args) M with
   |some (.normal,E,M') |some (.ret,E,M')=>match zpk E M' fn.res with
    |some r=>leave fn.frz M.length r M'
    |none=>none
   |_=>none
  else none:=by
 refine zi0 fun x=>⟨fun h=>?_,fun h=>?_⟩
 ·obtain⟨n,hn⟩:=zah.1 h;cases n with
  |zero=>simp[zaH,zfk]at hn
  |succ n =>
   simp only[zaH,zfk,hL,hr]at hn;split at hn
   ·cases ha:zaV (zfk (fun f=>L.lookup f) (uw Cs) n) n fn.code (vY 0 args) M with
    |none=>grind
    |some y=>rw[zdL.2 ⟨n,ha⟩];grind
   grind
 ·split at h
  ·rename_i hl;cases ha:X L Cs fn.code (vY 0 args) M with
   |none=>grind
   |some y =>
    obtain⟨n,hn⟩:=zdL.1 ha;refine zah.2 ⟨n+1,?_⟩;have hn:zaV (zfk (fun f=>L.lookup f) (uw Cs) n) n fn.code (vY 0 args) M=some y:=hn;simp only[zaH,zfk,hL,hr,if_pos hl,hn]
    grind
  grind
theorem zOg{f:FuncId}{fn:CFn}{ps:List Nat}{pre:CC}(hL:L.lookup f=some fn)(hr:fn.rnd=some (ps,pre)){id:Nat}{sh:List (Nat×Bool×Nat)}{as:List WV}{M M1 M2 M3 M4 M5:Mem}{cells:List Cl}{E0 E1 E3:Env}{ex:EX}{r:AV}
  (h1:as.length=ps.length) (h2:kM M id=some 0) (h3:zxb M id=some cells) (h4:AP sh cells=some E0) (h5:X L Cs pre (zv3 ps as++E0) M=some (.normal,E1,M1)) (h6:zsR M1 id 0 1=some M2)
  (h7:X L Cs fn.code E1 M2=some (ex,E3,M3)) (h8:zsR M3 id 1 (zxZ ex)=some M4) (h9:finish M.length (.w (.c (.bool (ex==.normal)))) M4=some (r,M5)):R L Cs f (.c (.yld id f sh)::as) M=some (r,M5):=by
 obtain⟨n,hn⟩:=zdL.1 h5;obtain⟨m,hm⟩:=zdL.1 h7;refine zah.2 ⟨max n m+1,?_⟩;have e1:=zcR (zgu (L:=L) (Cs:=Cs) (uS n m)) (uS n m) hn;have e2:=zcR (zgu (L:=L) (Cs:=Cs) (uH n m)) (uH n m) hm;show zfk (fun f=>L.lookup f) (uw Cs) (max n m+1) f (.c (.yld id f sh)::as) M=_;simp only[zfk,hL,hr,zoC];have e1:zaV (zfk (fun f=>L.lookup f) (uw Cs) (max n m)) (max n m) pre (zv3 ps as++E0) M=_:=e1;have e2:zaV (zfk (fun f=>L.lookup f) (uw Cs) (max n m)) (max n m) fn.code E1 M2=_:=e2
 grind
theorem zrP{f:FuncId}(hL:L.lookup f=none)(args:List WV)(M:Mem):R L Cs f args M=uw Cs f args M:=by
 refine zi0 fun x=>⟨fun h=>?_,fun h=>?_⟩
 ·obtain⟨n,hn⟩:=zah.1 h;cases n with
  |zero=>simp[zaH,zfk]at hn
  |succ n=>simpa only[zaH,zfk,hL]using hn
 ·exact zah.2 ⟨1,by simpa only[zaH,zfk,hL]using h⟩
end
abbrev I(n:Int):Cl:=.int .i64 n
abbrev W(n:Int):WV:=.c (.int .i64 n)
abbrev Bo(b:Bool):WV:=.c (.bool b)
theorem zTd(x:Int)(h:-9223372036854775808<=x)(h':x<=9223372036854775807):IntKind.i64.wrap x=x:=by
 simp[IntKind.wrap,IntKind.signed,IntKind.bits];omega
theorem qG(x:Int)(h:-9223372036854775808<=x:=by omega)(h':x<=9223372036854775807:=by omega):IntKind.i64.wrap x=x:=zTd x h h'
theorem holes0(M:Mem):M++qH 0=M:=by simp[qH]
theorem zvr(M:Mem)(n:Nat)(s:List Nat):collect M n [] s=s:=by cases n<;>rfl
theorem zug(M:Mem)(n id:Nat)(todo seen:List Nat):collect M (n+1) (id::todo) seen=if seen.contains id then collect M n todo seen else collect M n (zpw M id++todo) (seen++[id]):=rfl
theorem zz1(a b:Int):zyw true a b=max a b:=by simp only[zyw,if_true];split<;>omega
theorem zz0(a b:Int):zyw false a b=min a b:=by simp only[zyw,jE,if_false];split<;>omega
theorem zy3{i n:Nat}(h:i<n):zmk (i:Int) n=some i:=by
 unfold zmk;rw[if_pos (by omega)];simp
abbrev own(es:Nat)(l:List (List Cl)):Blk:={ box:=false,esz:=es,rows:=l,gen:=l.length,fz:=false,ver:=l.length }
abbrev sl(id es:Nat)(l:List (List Cl)):Cl:=.slice id l.length es 0 l.length none
section
variable[GlobP]{L:List (Nat×CFn)}{Cs:List (Nat×Nat×Nat×Bool)}
theorem zhJ{b:CC}{live:Option (List Nat)}{n0:Nat}{E:Env}{M:Mem}{r:EX×Env×Mem}(h:X L Cs b E M=some r)(hn:r.1≠.normal):Y L Cs b live n0 E M=some r:=by
 rw[zrL,h];obtain⟨ex,E',M'⟩:=r;cases ex with
 |normal=>exact absurd rfl hn
 |exit i=>rfl
 |ret=>rfl
theorem zP2{b:CC}{live:Option (List Nat)}{n0:Nat}{E E':Env}{M M':Mem}{s:Env×Mem}(h:X L Cs b E M=some (.normal,E',M'))(hc:canon n0 live E' M'=s):Y L Cs b live n0 E M=Y L Cs b live n0 s.1 s.2:=by
 rw[zrL,h,<-hc]
end
def eqL{α:Type}(f:α->α->Bool):List α->List α->Bool
 |[],[]=>true
 |x::xs,y::ys=>match eqL f xs ys with
  |true=>f x y
  |false=>false
 |_,_=>false
def zDB:Int->Int->Bool
 |.ofNat a,.ofNat b=>Nat.beq a b
 |.negSucc a,.negSucc b=>Nat.beq a b
 |_,_=>false
def zDy(a b:Bool):Bool:=match a,b with
 |true,true=>true
 |false,false=>true
 |_,_=>false
def zDz:Option Nat->Option Nat->Bool
 |none,none=>true
 |some a,some b=>Nat.beq a b
 |_,_=>false
def shE(a b:Nat×Bool×Nat):Bool:=Nat.beq a.1 b.1&&(zDy a.2.1 b.2.1&&Nat.beq a.2.2 b.2.2)
def clE:Nat->Cl->Cl->Bool
 |0,_,_=>false
 |n+1,.bool a,.bool b=>zDy a b
 |n+1,.int k a,.int k' b=>(zDB a b)&&decide (k=k')
 |n+1,.str a,.str b=>decide (a.data.toList=b.data.toList)
 |n+1,.ptr a b c d,.ptr a' b' c' d'=>Nat.beq a a'&&(Nat.beq b b'&&(Nat.beq c c'&&Nat.beq d d'))
 |n+1,.uT r k,.uT r' k'=>Nat.beq k k'&&eqL (clE n) r r'
 |n+1,.kP,.kP=>true
 |n+1,.slice a b c d e f,.slice a' b' c' d' e' f'=>Nat.beq a a'&&(Nat.beq b b'&&(Nat.beq c c'&&(Nat.beq d d'&&(Nat.beq e e'&&zDz f f'))))
 |n+1,.jb a,.jb b=>eqL (eqL (clE n)) a b
 |n+1,.jc,.jc=>true
 |n+1,.fn f a b,.fn f' a' b'=>Nat.beq f f'&&(eqL (clE n) a a'&&eqL (clE n) b b')
 |n+1,.qZ,.qZ=>true
 |n+1,.iface t a b,.iface t' a' b'=>Nat.beq t t'&&(zDy a a'&&eqL (clE n) b b')
 |n+1,.qu,.qu=>true
 |n+1,.yld a b c,.yld a' b' c'=>Nat.beq a a'&&(Nat.beq b b'&&eqL shE c c')
 |n+1,.qS,.qS=>true
 |n+1,.map a g,.map a' g'=>Nat.beq a a'&&zDy g g'
 |n+1,.mit a,.mit a'=>Nat.beq a a'
 |n+1,.bsl a b c d e f g,.bsl a' b' c' d' e' f' g'=>Nat.beq a a'&&(Nat.beq b b'&&(Nat.beq c c'&&(Nat.beq d d'&&(Nat.beq e e'&&(Nat.beq f f'&&Nat.beq g g')))))
 |_,_,_=>false
def wvE:WV->WV->Bool
 |.c x,.c y=>clE 12 x y
 |.a x,.a y=>eqL (clE 12) x y
 |_,_=>false
def zDC:Option Blk->Option Blk->Bool
 |none,none=>true
 |some a,some b=>zDy a.box b.box&&(Nat.beq a.esz b.esz&&(Nat.beq a.gen b.gen&&(zDy a.fz b.fz&&(Nat.beq a.ver b.ver&&eqL (eqL (clE 12)) a.rows b.rows))))
 |_,_=>false
def zDA(M N:Mem):Bool:=eqL zDC M N
structure Ent where
 f:FuncId
 a:List WV
 M:Mem
 r:AV
 M':Mem
def Ent.find(f:FuncId)(a:List WV)(M:Mem):List Ent->Option (AV×Mem)
 |[]=>none
 |e::es=>match Nat.beq e.f f with
  |true=>match eqL wvE e.a a with
   |true=>match zDA e.M M with
    |true=>some (e.r,e.M')
    |false=>Ent.find f a M es
   |false=>Ent.find f a M es
  |false=>Ent.find f a M es
section
variable[GlobP]{L:List (Nat×CFn)}{Cs:List (Nat×Nat×Nat×Bool)}
def Holds(L:List (Nat×CFn))(Cs:List (Nat×Nat×Nat×Bool))(e:Ent):Prop:=R L Cs e.f e.a e.M=some (e.r,e.M')
end
theorem zMe(r:AV)(M:Mem):finish M.length r M=some (r,M):=by simp[finish]
attribute [simp] zvr vY zCK zCN zDo zAM zDn zCO zBU zCM zks zbm opF Opd.av Opd.ev Env.put Env.get zBR zCG zhN holes0 Env.kept Env.uV zpk zlQ zoD finish leave
 AV.below WV.below Eng.below yq zH Blk.below zke evs zoU zz1 zz0 unC zx zcG callee zl2 zku ziU zpM zeS zfe qM Ah znn zhj zez zck uG back zgx
 WV.ids WV.cells AV.ids zBH Ck zd3 zpw Blk.ids zg qH zdZ zhT storeAt zfJ Eng.look Eng.cut A3 zaI zt9 zyi FP.apart FP.Al FP.old FP.isNo zt5 zmk zdR yL zn7 zla zoS WV.sls AV.sls slC zcl
 zdv zt8 zdS zcf zbg zfj zug zcB zeF roomy canon kD whole ztI WV.plain AV.plain zBL zBB sl own zus znj sliceB zcy zgN zxn zue zbM zi2 ztH zCC zoY ziB BK
abbrev o1(i d:Nat)(x:CO):zaG:=⟨i,some d,none,x⟩
abbrev o0(i:Nat)(x:CO):zaG:=⟨i,none,none,x⟩
abbrev mS(i d n:Nat):zaG:=⟨i,some d,none,.mv (.s n)⟩
abbrev kI(n:Int):Opd:=.k (.c (.int .i64 n))
abbrev kB(b:Bool):Opd:=.k (.c (.bool b))
abbrev rG(n:Nat)(ops:List zaG)(k:List Nat):CC:=.region n ops [] (some k)
abbrev sQ(a b:CC):CC:=.seq a b
attribute [simp] o1 o0 mS kI kB rG sQ
inductive Ins where
 |m (n:Nat)
 |q (d n:Nat)
 |p (d n:Nat)
 |v (n:Int)
 |l (n:Nat)
 |t (k n:Nat)
 |f (k n:Nat)
 |fl (k n:Nat)
 |c (f:Nat) (xs:List Nat)
 |d (f:Nat) (xs:List Opd)
 |a (e x y:Nat)
 |aa (e x y:Nat)
 |ai (e x:Nat) (n:Int)
 |nn (x:Nat)
 |n (x:Nat)
 |e (t k:Nat)
 |b (o:BinOp) (x y:Nat)
 |bb (o:BinOp) (x y:Nat)
 |bn (o:BinOp) (x y:Nat)
 |i (o:BinOp) (x:Nat) (n:Int)
 |ii (o:BinOp) (x:Nat) (n:Int)
 |k (o:BinOp) (x:Nat) (n:Int)
 |inc (x:Nat)
 |u (x:Nat)
 |y (x y:Nat)
 |r (x y:Nat)
 |x (d k e n:Nat)
 |w (k x y:Nat)
 |o (x:CO)
 |od (d:Nat) (x:CO)
 |z (x:CO)
 |j (i d:Nat)
 |g (x:Nat) (b:Bool)
 |h
@[simp] def asm:Nat->Nat->Option (Nat×Bool)->List Ins->List zaG
  |_,_,_,[]=>[]
  |i,d,g,.m n::r=>⟨i,some d,g,.mv (.s n)⟩::asm (i+1) (d+1) g r
  |i,d,g,.q k n::r=>⟨i,some k,g,.mv (.s n)⟩::asm (i+1) d g r
  |i,d,g,.p k n::r=>⟨i,some d,g,.mv (.s n)⟩::⟨i+1,some k,g,.mv (.s d)⟩::asm (i+2) (d+1) g r
  |i,d,g,.v n::r=>⟨i,some d,g,.mv (.k (.c (.int .i64 n)))⟩::asm (i+1) (d+1) g r
  |i,d,g,.l n::r=>⟨i,some d,g,.load false 1 (.s n)⟩::asm (i+1) (d+1) g r
  |i,d,g,.t k n::r=>⟨i,some d,g,.load true k (.s n)⟩::asm (i+1) (d+1) g r
  |i,d,g,.f k n::r=>⟨i,some d,g,.BI k (.s n)⟩::asm (i+1) (d+1) g r
  |i,d,g,.fl k n::r=>⟨i,some d,g,.BI k (.s n)⟩::⟨i+1,some (d+1),g,.load false 1 (.s d)⟩::asm (i+2) (d+2) g r
  |i,d,g,.c f xs::r=>⟨i,some d,g,.call ⟨true⟩ (.k (.c (.fn f [] []))) (xs.map .s)⟩::asm (i+1) (d+1) g r
  |i,d,g,.d f xs::r=>⟨i,some d,g,.call ⟨true⟩ (.k (.c (.fn f [] []))) xs⟩::asm (i+1) (d+1) g r
  |i,d,g,.a e x y::r=>⟨i,some d,g,.Bl e (.s x) (.s y)⟩::asm (i+1) (d+1) g r
  |i,d,g,.aa e x y::r=>⟨i,some d,g,.mv (.s x)⟩::⟨i+1,some (d+1),g,.mv (.s y)⟩::⟨i+2,some (d+2),g,.Bl e (.s d) (.s (d+1))⟩::asm (i+3) (d+3) g r
  |i,d,g,.ai e x n::r=>⟨i,some d,g,.Bl e (.s x) (.k (.c (.int .i64 n)))⟩::asm (i+1) (d+1) g r
  |i,d,g,.nn x::r=>⟨i,some d,g,.mv (.s x)⟩::⟨i+1,some (d+1),g,.len (.s d)⟩::asm (i+2) (d+2) g r
  |i,d,g,.n x::r=>⟨i,some d,g,.len (.s x)⟩::asm (i+1) (d+1) g r
  |i,d,g,.e t k::r=>⟨i,some d,g,.extract t k⟩::asm (i+1) (d+1) g r
  |i,d,g,.b o x y::r=>⟨i,some d,g,.bin o (.s x) (.s y)⟩::asm (i+1) (d+1) g r
  |i,d,g,.bb o x y::r=>⟨i,some d,g,.mv (.s x)⟩::⟨i+1,some (d+1),g,.mv (.s y)⟩::⟨i+2,some (d+2),g,.bin o (.s d) (.s (d+1))⟩::asm (i+3) (d+3) g r
  |i,d,g,.bn o x y::r=>⟨i,some d,g,.mv (.s x)⟩::⟨i+1,some (d+1),g,.mv (.s y)⟩::⟨i+2,some (d+2),g,.len (.s (d+1))⟩::⟨i+3,some (d+3),g,.bin o (.s d) (.s (d+2))⟩::asm (i+4) (d+4) g r
  |i,d,g,.i o x n::r=>⟨i,some d,g,.bin o (.s x) (.k (.c (.int .i64 n)))⟩::asm (i+1) (d+1) g r
  |i,d,g,.ii o x n::r=>⟨i,some d,g,.mv (.s x)⟩::⟨i+1,some (d+1),g,.bin o (.s d) (.k (.c (.int .i64 n)))⟩::asm (i+2) (d+2) g r
  |i,d,g,.k o x n::r=>⟨i,some d,g,.mv (.s x)⟩::⟨i+1,some (d+1),g,.len (.s d)⟩::⟨i+2,some (d+2),g,.bin o (.s (d+1)) (.k (.c (.int .i64 n)))⟩::asm (i+3) (d+3) g r
  |i,d,g,.inc x::r=>⟨i,some d,g,.mv (.s x)⟩::⟨i+1,some (d+1),g,.bin .add (.s d) (.k (.c (.int .i64 1)))⟩::⟨i+2,some x,g,.mv (.s (d+1))⟩::asm (i+3) (d+2) g r
  |i,d,g,.u x::r=>⟨i,some d,g,.un .not (.s x)⟩::asm (i+1) (d+1) g r
  |i,d,g,.y x y::r=>⟨i,some d,g,.pick (.s x) (.s y) (.k (.c (.bool false)))⟩::asm (i+1) (d+1) g r
  |i,d,g,.r x y::r=>⟨i,some d,g,.pick (.s x) (.k (.c (.bool true))) (.s y)⟩::asm (i+1) (d+1) g r
  |i,d,g,.x k s e n::r=>⟨i,some k,g,.box s e (.s n)⟩::asm (i+1) d g r
  |i,d,g,.w k x y::r=>⟨i,none,g,.store k (.s x) (.s y)⟩::asm (i+1) d g r
  |i,d,g,.o x::r=>⟨i,some d,g,x⟩::asm (i+1) (d+1) g r
  |i,d,g,.od k x::r=>⟨i,some k,g,x⟩::asm (i+1) d g r
  |i,d,g,.z x::r=>⟨i,none,g,x⟩::asm (i+1) d g r
  |_,_,g,.j i d::r=>asm i d g r
  |i,d,_,.g x b::r=>asm i d (some (x,b)) r
  |i,d,_,.h::r=>asm i d none r
abbrev rH(n d:Nat)(ops:List Ins)(k:List Nat):CC:=.region n (asm 0 d none ops) [] (some k)
abbrev rP(n d:Nat)(ops:List Ins)(ps:List (Nat×Nat))(k:List Nat):CC:=.region n (asm 0 d none ops) ps (some k)
abbrev fN(n t:Nat)(r:List RC)(c:CC):CFn:={ frz:=true,rnd:=none,nargs:=n,ntmps:=t,res:=r,code:=c }
abbrev fF(z:Bool)(v:Option (List Nat×CC))(n t:Nat)(r:List RC)(c:CC):CFn:={ frz:=z,rnd:=v,nargs:=n,ntmps:=t,res:=r,code:=c }
abbrev cD(n:Nat)(a b:CC):CC:=.cond (.s n) a b
attribute [simp] rH rP fN fF cD
inductive Sh where
 |int (k:IntKind)
 |bool
 |str
 |slice (s:Sh)
 |st (l:List Sh)
 deriving Inhabited
mutual
def Sh.n:Sh->Nat
 |.int _ |.bool |.str |.slice _=>1
 |.st l=>Sh.ns l
def Sh.ns:List Sh->Nat
 |[]=>0
 |s::l=>s.n+Sh.ns l
end
mutual
def zfo:Sh->List Cl->Prop
 |.int k,cs=>∃n,cs=[.int k n]/\k.min<=n/\n<=k.max
 |.bool,cs=>∃b,cs=[.bool b]
 |.str,cs=>∃s,cs=[.str s]/\s.size<=maxLen
 |.slice s,cs=>∃rows,cs=[.jb rows]/\rows.length<=maxLen/\∀r∈rows,zfo s r
 |.st l,cs=>znD l cs
def znD:List Sh->List Cl->Prop
 |[],cs=>cs=[]
 |s::l,cs=>∃c d,cs=c++d/\zfo s c/\znD l d
end
def zl5(P:Program)(f:TypeId->Option Sh):List Field->Nat->Option (List Sh)
 |[],_=>some []
 |x::xs,off=>match f x.type with
  |some s=>if x.offset=off/\P.cellsOf x.type=s.n then(zl5 P f xs (off+s.n)).map (s :: ·) else none
  |none=>none
def zey(P:Program):Nat->TypeId->Option Sh
 |0,_=>none
 |d+1,t=>match P.underlying t with
  |some (.int k)=>some (.int k)
  |some .bool=>some .bool
  |some .string=>some .str
  |some (.slice e)=>match zey P d e with
   |some s=>if P.cellsOf e=s.n/\0<s.n then some (.slice s) else none
   |none=>none
  |some (.struct fs)=>match zl5 P (zey P d) fs.toList 0 with
   |some l=>if P.cellsOf t=Sh.ns l then some (.st l) else none
   |none=>none
  |some (.array n e)=>match zey P d e with
   |some s=>if P.cellsOf e=s.n/\P.cellsOf t=n*s.n then some (.st (List.replicate n s)) else none
   |none=>none
  |_=>none
def zlM(P:Program)(d:Nat):List TypeId->Option (List Sh)
 |[]=>some []
 |t::ts=>match zey P d t,zlM P d ts with
  |some s,some l=>some (s::l)
  |_,_=>none
section
variable{H:Type}{enc:TypeId×Value->H}{P:Program}{W:World}{spare:Nat->Bool}{held:Bool}
def zcC(W:World):zP:=fun b o=>W.cell? ⟨b,o,none⟩
theorem zml [zb0](hG:GK (zcC W)):zM (zcC W) W:=⟨fun _ _ _ h=>h,hG⟩
theorem zqT{β:Type}{f:Nat->Option β}{n:Nat}{ys:List β}(h:(List.range n).mapM f=some ys):ys.length=n/\∀i,i<n->∃y,ys[i]?=some y/\f i=some y:=by
 have hl:ys.length=n:=by simpa using mapM_some_length h
 refine⟨hl,fun i hi=>?_⟩;have key:∀(l:List Nat) (ys:List β),l.mapM f=some ys->∀(k x:Nat),l[k]?=some x->∃y,ys[k]?=some y/\f x=some y:=by
  intro l;induction l with
  |nil=>grind
  |cons a l ih =>
   cases ha:f a with
   |none=>grind
   |some b =>
    cases hr:l.mapM f with
    |none=>grind
    |some bs =>
     grind
 exact key _ _ h i i (by grind)
theorem zrv{a:Addr}{n:Nat}{cs:List Value}(h:W.cells? 0 a n=some cs):cs.length=n/\∀i,i<n->∃v,cs[i]?=some v/\W.cell? (a.add i)=some v:=by
 exact zqT h
theorem zxa{a:Addr}{v:Value}(h:W.cell? a=some v):a.spot=none:=by
 unfold World.cell? at h;split at h
 ·simp_all
 grind
theorem zpb{d:Nat}{n:Nat}(ih:∀{t:TypeId} {cs:List Value} {x:DataW H×List MemPlace} {s:Sh},DataW.trod enc P W 0 spare held n t cs=some x->zey P d t=some s->∃cl,VCs (zcC W) zb1 cl cs/\zfo s cl) :
  ∀{fs:List Field} {off:Nat} {l:List Sh} {cs:List Value} {xs:List (DataW H×List MemPlace)},zl5 P (zey P d) fs off=some l->(fs.mapM fun f=>DataW.trod enc P W 0 spare held n f.type ((cs.drop f.offset).take (P.cellsOf f.type)))=some xs->cs.length=off+Sh.ns l ->
   ∃cl,VCs (zcC W) zb1 cl (cs.drop off)/\znD l cl
 |[],off,l,cs,xs,hf,hx,hl=>by
  simp only[zl5,jh]at hf;subst hf;simp only[Sh.ns,qY]at hl;exact⟨[],by grind [List.drop_eq_nil_of_le,VCs.nil],rfl⟩
 |f::fs,off,l,cs,xs,hf,hx,hl=>by
  simp only[zl5]at hf;split at hf
  ·rename_i s hs;split at hf
   ·rename_i hc;obtain⟨CJ,yx⟩:=hc;simp only[ja]at hf;obtain⟨l',hl',rfl⟩:=hf;simp only[Sh.ns]at hl;cases h1:DataW.trod enc P W 0 spare held n f.type ((cs.drop f.offset).take (P.cellsOf f.type))with
    |none=>grind
    |some y =>
     cases h2:(fs.mapM fun f=>DataW.trod enc P W 0 spare held n f.type ((cs.drop f.offset).take (P.cellsOf f.type)))with
     |none=>grind
     |some ys =>
      obtain⟨c1,hv1,hs1⟩:=ih h1 hs;obtain⟨c2,hv2,hs2⟩:=zpb ih hl' h2 (by omega);refine⟨c1++c2,?_,c1,c2,rfl,hs1,hs2⟩;have e:cs.drop off=(cs.drop off).take s.n++cs.drop (off+s.n):=by rw[<-yV,kd]
      rw[e];rw[CJ,yx]at hv1;exact hv1.append hv2
   grind
  grind
theorem zsB{d:Nat}{n:Nat}{e:TypeId}{s:Sh}(ih:∀{t:TypeId} {cs:List Value} {x:DataW H×List MemPlace} {s:Sh},DataW.trod enc P W 0 spare held n t cs=some x->zey P d t=some s->∃cl,VCs (zcC W) zb1 cl cs/\zfo s cl)(hs:zey P d e=some s) :
  ∀{m k:Nat} {cs:List Value},(∀i,i<m->∃x,DataW.trod enc P W 0 spare held n e ((cs.drop ((k+i)*s.n)).take s.n)=some x)->cs.length=(k+m)*s.n->∃cl,VCs (zcC W) zb1 cl (cs.drop (k*s.n))/\znD (List.replicate m s) cl
 |0,k,cs,h,hl=>⟨[],by grind [List.drop_eq_nil_of_le,VCs.nil],rfl⟩
 |m+1,k,cs,h,hl=>by
  obtain⟨x,hx⟩:=h 0 (by omega);obtain⟨c1,hv1,hs1⟩:=ih hx hs;obtain⟨c2,hv2,hs2⟩:=zsB ih hs (m:=m) (k:=k+1) (cs:=cs) (fun i hi=>by
   grind) (by grind)
  refine⟨c1++c2,?_,c1,c2,rfl,hs1,hs2⟩
  grind [VCs,zcC,zb1]
theorem zx4{a:Addr}{len cap sz:Nat}{Q:List Cl->Prop}(uO:0<sz)(hl:len<=cap)(h:∀i,i<len->∃cs cl,W.cells? 0 (a.add (i*sz)) sz=some cs/\VCs (zcC W) zb1 cl cs/\Q cl) :
  ∃rows:List (List Cl),rows.length=len/\(∀r∈rows,Q r)/\VC (zcC W) zb1 (.jb rows) (.slice (some a) len cap):=by
 have hch:∃f:Nat->List Value×List Cl,∀i,i<len->W.cells? 0 (a.add (i*sz)) sz=some (f i).1/\VCs (zcC W) zb1 (f i).2 (f i).1/\Q (f i).2:=by
  refine⟨fun i=>if hi:i<len then((h i hi).choose,(h i hi).choose_spec.choose) else([],[]),fun i hi=>?_⟩
  grind
 obtain⟨f,hf⟩:=hch;have hlen:∀i,i<len->(f i).1.length=sz/\(f i).2.length=sz:=fun i hi=>by
  have h1:=(zrv (hf i hi).1).1;exact⟨h1,by rw[(hf i hi).2.1.1,h1]⟩
 have Dx:∀i,i<len->∀n,n<sz->∃v,(f i).1[n]?=some v/\W.cell? ((a.add (i*sz)).add n)=some v:=fun i hi n hn=>(zrv (hf i hi).1).2 n hn
 have hsp:len=0\/∃b o,a=⟨b,o,none⟩:=by
  rcases yS len with h0|h0
  ·grind
  ·obtain⟨v,_,hv⟩:=Dx 0 h0 0 uO;have:=zxa hv;obtain⟨b,o,s⟩:=a;have:s=none:=by grind [Addr.add]
   exact Or.inr ⟨b,o,by rw[this]⟩
 refine⟨(List.range len).map fun i=>(f i).2,by simp,?_,?_⟩
 ·grind
 ·have hrow:∀(i:Nat) (row:List Cl),((List.range len).map fun i=>(f i).2)[i]?=some row->i<len/\row=(f i).2:=fun i row hi=>by
   grind
  have hv:=VC.jb (σ:=zcC W) zb1 sz ((List.range len).map fun i=>(f i).2) (some a) cap a.block a.off (fun i n=>((f i).1[n]?).getD undef) (by grind) ?_ ?_ ?_ ?_
  ·grind
  ·grind
  ·grind
  ·intro i row n cl hi hn;obtain⟨hil,rfl⟩:=hrow i row hi;have hns:n<sz:=by grind
   obtain⟨v,h1,h2⟩:=Dx i hil n hns;rw[h1];rcases hsp with h0 |⟨b,o,rfl⟩
   ·omega
   ·show W.cell? ⟨b,o+i*sz+n,none⟩=some v
    grind [Addr.add]
  ·intro i row n cl hi hn;obtain⟨hil,rfl⟩:=hrow i row hi;have hns:n<sz:=by grind
   obtain⟨v,h1,_⟩:=Dx i hil n hns;rw[h1];exact(hf i hil).2.1.2 n cl v hn h1
theorem zxm:∀{n d:Nat} {t:TypeId} {cs:List Value} {x:DataW H×List MemPlace} {s:Sh},DataW.trod enc P W 0 spare held n t cs=some x->zey P d t=some s->∃cl,VCs (zcC W) zb1 cl cs/\zfo s cl
 |0,d,t,cs,x,s,h,hs=>by simp[DataW.trod]at h
 |n+1,0,t,cs,x,s,h,hs=>by grind [zey]
 |n+1,d+1,t,cs,x,s,h,hs=>by
  have ih:∀{t:TypeId} {cs:List Value} {x:DataW H×List MemPlace} {s:Sh},DataW.trod enc P W 0 spare held n t cs=some x->zey P d t=some s->∃cl,VCs (zcC W) zb1 cl cs/\zfo s cl:=fun h hs=>zxm h hs
  simp only[zey]at hs;split at hs
  ·rename_i k hu;cases hs;obtain⟨m,rfl,_,hw⟩:=DataW.trod_int hu h;simp only[Lit.wf,jl,decide_eq_true_eq]at hw;exact⟨[.int k m],VCs.cons (.int _ _ _) VCs.nil,m,rfl,hw⟩
  ·rename_i hu;cases hs;obtain⟨b,rfl,_⟩:=DataW.trod_bool hu h;exact⟨[.bool b],VCs.cons (.bool _ _) VCs.nil,b,rfl⟩
  ·rename_i hu;cases hs;obtain⟨b,rfl,_,hb⟩:=DataW.trod_string hu h;exact⟨[.str b],VCs.cons (.str _ _) VCs.nil,b,rfl,hb⟩
  ·rename_i e hu;split at hs
   ·rename_i s' hse;split at hs
    ·rename_i hc;obtain⟨yx,uO⟩:=hc;cases hs;rcases DataW.trod_slice hu h with⟨rfl,_⟩ |⟨a,len,cap,elems,rest,m,hm,rfl,_,_,hl,yK,hel,hx,_,_⟩
     ·exact⟨[.jb []],VCs.cons (.jb _ s'.n [] none 0 0 0 (fun _ _=>undef) (jm _) (Or.inl rfl) (fun _ h=>by grind) (fun _ _ _ _ h=>by grind) (fun _ _ _ _ h=>by grind)) VCs.nil,[],rfl,jp _,fun _ h=>by grind⟩
     ·obtain rfl:n=m:=by omega
      rw[yx]at hx;obtain⟨rows,h1,h2,h3⟩:=zx4 (W:=W) (a:=a) (Q:=zfo s') uO hl (fun i hi=>by
       grind [List.getElem?_eq_getElem,Option.bind_eq_some_iff])
      exact⟨[.jb rows],VCs.cons h3 VCs.nil,rows,rfl,by omega,h2⟩
    grind
   grind
  ·rename_i fs hu;split at hs
   ·rename_i l hf;split at hs
    ·rename_i hc;cases hs;simp only[DataW.trod,hu]at h;split at h
     ·rename_i hl;obtain⟨xs,h1,_⟩:=ja.1 h;obtain⟨cl,h2,h3⟩:=zpb ih hf h1 (by grind);exact⟨cl,by grind,h3⟩
     grind
    grind
   grind
  ·rename_i m e hu;split at hs
   ·rename_i s' hse;split at hs
    ·rename_i hc;cases hs;obtain⟨hce,hct⟩:=hc;obtain⟨xs,k,hk,_,hl,hxs,hx⟩:=DataW.trod_array hu h;obtain rfl:n=k:=by omega
     rw[hce]at hx;obtain⟨cl,h2,h3⟩:=zsB (k:=0) (m:=m) ih hse (fun i hi=>by
      have:=hx i hi;rw[jr (by omega)]at this;exact⟨_,by simpa using this⟩) (by grind)
     exact⟨cl,by grind,h3⟩
    grind
   grind
  grind
def zAK:Sh->List Cl->WV
 |.st _,cs=>.a cs
 |_,[x]=>.c x
 |_,cs=>.a cs
def zot:List Sh->List WV->Prop
 |[],xs=>xs=[]
 |s::l,xs=>∃cl ys,xs=zAK s cl::ys/\zfo s cl/\zot l ys
theorem zCH{d:Nat}{t:TypeId}{v:Value}{dt:DataW H}{ps:List MemPlace}{s:Sh}{r:Reach}{base:Nat}(hs:zey P d t=some s)(h:DataW.Trod enc P W 0 spare held t v dt ps)(hok:Value.okWide P W r base t v) :
  ∃cl,WVR (zcC W) zb1 (zAK s cl) v/\zfo s cl:=by
 obtain⟨n,hn⟩:=h;obtain⟨cl,h1,h2⟩:=zxm hn hs;refine⟨cl,?_,h2⟩;cases d with
 |zero=>grind [zey]
 |succ d =>
  simp only[zey]at hs;have single:∀x,cl=[x]->(∀a,v≠.agg a)->(∀a,v≠.tuple a)->WVR (zcC W) zb1 (.c x) v:=by
   intro x hx ha ht;subst hx;obtain⟨u,us,h3,h4,h5⟩:=h1.kO;have h5:=h5.vG;subst h5;have:v.cells = #[v]:=by
    cases v<;>first |rfl |grind |exact absurd rfl (ht _)
   rw[this]at h3;simp at h3;subst h3;exact h4
  split at hs
  ·cases hs;obtain⟨m,rfl,_⟩:=h2;exact single _ rfl (fun a ha=>by simp_all [Value.okWide,Cell.okWide,Cell.ok]) (fun a ha=>by simp_all [Value.okWide,Cell.okWide,Cell.ok])
  ·cases hs;obtain⟨m,rfl⟩:=h2;exact single _ rfl (fun a ha=>by simp_all [Value.okWide,Cell.okWide,Cell.ok]) (fun a ha=>by simp_all [Value.okWide,Cell.okWide,Cell.ok])
  ·cases hs;obtain⟨m,rfl,_⟩:=h2;exact single _ rfl (fun a ha=>by simp_all [Value.okWide,Cell.okWide,Cell.ok]) (fun a ha=>by simp_all [Value.okWide,Cell.okWide,Cell.ok])
  ·split at hs
   ·split at hs
    ·cases hs;obtain⟨m,rfl,_⟩:=h2;exact single _ rfl (fun a ha=>by simp_all [Value.okWide,Cell.okWide,Cell.ok]) (fun a ha=>by simp_all [Value.okWide,Cell.okWide,Cell.ok])
    grind
   grind
  ·rename_i fs hu;split at hs
   ·split at hs
    ·cases hs;simp only[Value.okWide,hu]at hok;obtain⟨cs,rfl,_⟩:=hok;exact⟨cs,rfl,h1⟩
    grind
   grind
  ·rename_i m e hu;split at hs
   ·split at hs
    ·cases hs;simp only[Value.okWide,hu]at hok;obtain⟨cs,rfl,_⟩:=hok;exact⟨cs,rfl,h1⟩
    grind
   grind
  grind
theorem zxL{d:Nat}{r:Reach}{base:Nat}:∀{ts:List TypeId} {l:List Sh} {vs:List Value} {ds:List (DataW H)} {ps:List MemPlace},zlM P d ts=some l->DataW.TrodAll enc P W 0 spare held ts vs ds ps ->
  (∀(j:Nat) t v,ts[j]?=some t->vs[j]?=some v->Value.okWide P W r base t v)->∃xs,zac (zcC W) zb1 xs vs/\zot l xs
 |[],l,[],[],ps,hs,h,hv=>by
  simp only[zlM,jh]at hs;subst hs;exact⟨[],zac.nil,rfl⟩
 |t::ts,l,v::vs,d::ds,ps,hs,h,hv=>by
  obtain⟨p,q,h1,h2,_⟩:=h;simp only[zlM]at hs;split at hs
  ·rename_i s l' h3 h4;cases hs;obtain⟨cl,h5,h6⟩:=zCH h3 h1 (hv 0 t v rfl rfl);obtain⟨xs,h7,h8⟩:=zxL h4 h2 (fun j t v ht hv'=>hv (j+1) t v (by grind) (by grind));exact⟨zAK s cl::xs,zac.cons h5 h7,cl,xs,rfl,h6,h8⟩
  grind
end
open Go Go.ChangeShapes
section
variable[zb0]
theorem zsd{P:Program}{cf:za4}(hcf:FnS P cf){f:FuncId}(hf:f<zb0.base){args:List WV}{vs:Array Value}{w:World}{σ:zP}{j:Inj}{M M':Mem}(h:cf f args M=some (.w (.c (.bool true)),M'))(vJ:Mem.full M)
  (hag:zM σ w) (hm:MR (fun b=>w.heap.size<=b) σ j M w) (hvs:zac σ j args vs.toList) :
  Calls P f vs w fun e w'=>e=.returned (.bool true)/\zd9 w w'/\∀i,i<w.heap.size->w'.heap[i]?=w.heap[i]?:=by
 obtain⟨_,_,_,_,hc⟩:=(hcf f args M _ _ h vJ).1 hf;refine Calls.yr (hc (fun b=>w.heap.size<=b) σ j w vs (fun _ h=>h) hag hm hvs) ?_;rintro e w' ⟨v,σ',j',rfl,hr,_,_,hst⟩;have hr:VC σ' j' (.bool true) v:=hr;cases hr;exact⟨rfl,hst.side,fun i hi=>hst.frame i hi (by omega)⟩
end
section
variable{H:Type}{enc:TypeId×Value->H}{P:Program}
theorem zwm{w w':World}(h:∀i,i<w.heap.size->w'.heap[i]?=w.heap[i]?){p:MemPlace}(hp:p.block<w.heap.size):w.sameAt w' p:=by
 cases p with
 |cell b off =>
  have e:=h b hp;show w'.cell? ⟨b,off,none⟩=w.cell? ⟨b,off,none⟩;unfold World.cell?;rw[e]
 |map b=>exact h b hp
theorem zpc{w w':World}(h:∀i,i<w.heap.size->w'.heap[i]?=w.heap[i]?){base:Nat}{sp:Nat->Bool}{hd:Bool}:∀{ts:List TypeId} {vs:List Value} {ds:List (DataW H)} {ps:List MemPlace},
  (∀p∈ps,p.block<w.heap.size)->DataW.TrodAll enc P w base sp hd ts vs ds ps->DataW.TrodAll enc P w' base sp hd ts vs ds ps
 |[],[],[],_,_,h2=>h2
 |_::_,_::_,_::_,_,hl,⟨p,q,⟨n,h1⟩,h2,e⟩=>by
  subst e;exact⟨p,q,⟨n,DataW.trod_carry n _ _ _ h1 fun x hx=>zwm h (hl x (qg _ hx))⟩,zpc h (fun x hx=>hl x (uX _ hx)) h2,rfl⟩
theorem zpd{w:World}{base:Nat}{sp:Nat->Bool}{hd:Bool}:∀{ts:List TypeId} {vs:List Value} {ds:List (DataW H)} {ps:List MemPlace},DataW.TrodAll enc P w base sp hd ts vs ds ps->ds.length=ts.length
 |[],[],[],_,_=>rfl
 |_::_,_::_,_::_,_,⟨_,_,_,h2,_⟩=>by simp[zpd h2]
 |[],_::_,_,_,h |[],[],_::_,_,h |_::_,[],_,_,h |_::_,_::_,[],_,h=>by simp[DataW.TrodAll]at h
theorem zAf [zb0]{w w':World}(hs:zd9 w w')(hold:∀i,i<w.heap.size->w'.heap[i]?=w.heap[i]?){may:MemPlace->Prop}:w.keptBut w' may:=by
 refine⟨hs.os,hs.output,fun i hi=>?_⟩;rw[hold i hi];cases hx:w.heap[i]? with
 |none=>rfl
 |some o=>cases o<;>simp
theorem zzI{f:Func}{s:ChangeSpec}{apart fresh handsOn again:Bool}{W W':World}{args:Array Value}{v:Value}{ds gs:List (DataW H)}{before pa pv:List MemPlace}
  (hW:DataW.Whole enc P f.params.toList s.vars apart W args.toList ds gs before) (hold:∀i,i<W.heap.size->W'.heap[i]?=W.heap[i]?) (hk:W.keptBut W' (·∈before)) (hps:before=pa++pv)
  (Bx:∀(b:Nat) (sp:Nat->Bool) (hd:Bool),DataW.TrodAll enc P W' b sp hd f.resultTypes.toList (v.resultList f.resultTypes.size) (s.fn H (ds++gs)).results [])
  (Cv:∀sp:Nat->Bool,(∀p∈before,sp p.block=true)->DataW.TrodAll enc P W' 0 sp true f.params.toList args.toList (s.fn H (ds++gs)).args pa)
  (Cm:∀sp:Nat->Bool,(∀p∈before,sp p.block=true)->DataW.TrodVars enc P W' sp s.vars (s.fn H (ds++gs)).vars pv)
  (hok:∀(j:Nat) (t:TypeId) (r:Value),f.resultTypes[j]?=some t->(v.resultList f.resultTypes.size)[j]?=some r->Value.okWide P W' .any 0 t r) :
  s.post enc P f apart fresh handsOn again W args v W':=by
 have hlt:∀p∈before,p.block<W.heap.size:=fun p hp=>hW.lt p hp
 have vT:∀p∈before,p∈[]\/p∈pa++pv:=fun p hp=>.inr (hps ▸ hp)
 refine⟨ds,gs,before,[],pa,pv,hW,Bx _ _ _,Cv _ fun p hp=>decide_eq_true (hlt p hp),Cm _ fun p hp=>decide_eq_true (hlt p hp),World.keptBut_mono (fun p hp=>⟨hp,?_⟩) hk,fun _=>?_⟩
 ·rcases vT p hp with h|h
  ·cases h
  ·exact .inr (jN.1 h)
 ·have hW2:=hW;obtain⟨_,_,_,_,_,hz,hn⟩:=hW2;have vh:∀p∈before,(fun _:Nat=>true) p.block=true:=fun _ _=>rfl
  refine⟨hok,_,_,([]++pa)++pv,⟨[]++pa,pv,trodAll_append (Cv _ vh) (Bx _ _ _),Cm _ vh,rfl,fun b off hp=>?_,fun ha=>?_⟩,fun p hp _=>?_⟩
  ·have hp':MemPlace.cell b off∈before:=by rw[hps];simpa using hp
   have h1:=hz b off hp';have h2:=hold b (hlt _ hp');unfold World.frozen? at h1 ⊢;rw[h2];exact h1
  ·have h1:=hn ha;rw[hps]at h1;simpa using h1
  ·rw[hps];simpa using hp
theorem zzA [GlobP](vq:P.follows .mixedOrders=true){an:Ann}{L:List (Nat×CFn)}{Cs:List (Nat×Nat×Nat×Bool)}(hL:(L.map fun p=>zcF P an true p.1)=L.map fun p=>some p.2)(hV:zql P L=true)
  (hC:(Cs.all fun c=>c.2.1==0||zf2 P c.1 c.2.1 c.2.2.1)=true) (hS:∀c∈Cs,c.2.1=0->zqh P c) {fid:FuncId} (hfid:fid<P.funcs.size) {f:Func} {s:ChangeSpec} {l:List Sh} {d:Nat} {tb:TypeId}
  (hsh:zlM P d f.params.toList=some l) (Bx:f.resultTypes = #[tb]) (htb:P.underlying tb=some .bool) (Cm:s.vars=[])
  (hfn:∀ds:List (DataW H),ds.length=f.params.toList.length->s.fn H ds={ results:=[.lit (.bool true)],args:=ds })
  (hlaid:laidOutB P=true) (hmaps:mapsRowed P=true) (hts:f.params.toList.all (· < P.types.size)=true)
  (vJ:((List.range P.types.size).all fun t=>match P.underlying t with |some (.slice e)=>decide (0<P.cellsOf e) |_=>true)=true)
  (ul:∀xs,zot l xs->∃M',R L Cs fid xs []=some (.w (.c (.bool true)),M'))
  {W:World} {base:Nat} {args:Array Value} {ds gs:List (DataW H)} {before:List MemPlace}
  (hG:GK (zcC W)) (hval:∀(j:Nat) t v,f.params[j]?=some t->args[j]?=some v->Value.okWide P W .any base t v) (hW:DataW.Whole enc P f.params.toList s.vars false W args.toList ds gs before) :
  Calls P fid args W fun e W'=>∃v,e=.returned v/\s.post enc P f false true false false W args v W':=by
 letI:=zww P (fun f=>L.lookup f) (Zpp Cs);have hW':=hW;obtain⟨p,q,hA,hV',hb,hfz,hnd⟩:=hW;rw[Cm]at hV';have hg:gs=[]/\q=[]:=by
  cases gs with
  |nil=>exact⟨rfl,hV'⟩
  |cons g gs=>exact absurd hV' (by simp[DataW.TrodVars])
 obtain⟨rfl,rfl⟩:=hg;obtain⟨xs,hx1,hx2⟩:=zxL hsh hA (fun j t v ht hv=>hval j t v (by simpa using ht) (by simpa using hv));obtain⟨M',hr⟩:=ul xs hx2;obtain⟨n,hn⟩:=zah.1 hr;refine(zsd (zsT vq hL hV hC hS n) (f:=fid) hfid hn (fun id hid=>by simp at hid) (zml (W:=W) hG) MR.nil hx1).mono fun e W' ⟨he,hsd,hold⟩=>?_
 subst he;have hlen:=zpd hA;have e0:s.fn H (ds++[])={ results:=[.lit (.bool true)],args:=ds }:=by rw[kT];exact hfn ds hlen
 have hlt:∀p'∈p,p'.block<W.heap.size:=fun p' hp=>hA.lt p' hp
 refine⟨_,rfl,zzI (pa:=p) (pv:=[]) hW' hold (zAf hsd hold) hb (fun b sp hd=>?_) (fun sp hsp=>?_) (fun sp _=>?_) ?_⟩
 ·rw[e0,Bx];exact⟨[],[],⟨1,by simp[DataW.trod,htb,Value.cells,Value.resultList]⟩,rfl,rfl⟩
 ·rw[e0];exact DataW.TrodAll.respare (T:=(· < P.types.size)) (kids_rows hlaid hmaps) (slices_full_of P vJ) (fun t ht=>by simpa using jz.1 hts t ht) (zpc hold hlt hA) (fun x hx=>hsp x (by rw[hb];exact qg _ hx))
 ·rw[Cm,e0];rfl
 ·intro j t r hj hr;rw[Bx]at hj hr;cases j with
  |zero =>
   simp[Value.resultList]at hj hr;subst hj;subst hr;simp[Value.okWide,Cell.okWide,Cell.ok,htb]
  |succ j=>simp at hj
end
theorem zmE{α β:Type}{f g:α->β}{l:List α}{n i:Nat}(h1:((l.drop i).take n).map f=((l.drop i).take n).map g)(h2:(l.drop (i+n)).map f=(l.drop (i+n)).map g):(l.drop i).map f=(l.drop i).map g:=by
 rw[<-kd n (l.drop i),qc,qc,h1,yV,h2]
theorem zsc{α β:Type}{f g:α->β}{l:List α}{i:Nat}(h:l.length<=i):(l.drop i).map f=(l.drop i).map g:=by
 rw[uk h];rfl
def zpx{α σ ρ:Type}(f:Nat->σ->α->σ ⊕ ρ):Nat->σ->List α->σ ⊕ ρ
 |_,s,[]=>.inl s
 |i,s,x::xs=>match f i s x with
  |.inl s'=>zpx f (i+1) s' xs
  |.inr r=>.inr r
def zM6{α σ:Type}(f:Nat->σ->α->σ):Nat->σ->List α->σ
 |_,s,[]=>s
 |i,s,x::xs=>zM6 f (i+1) (f i s x) xs
theorem zMd{α σ:Type}(f:σ->α->σ):∀(l:List α) (i:Nat) (s:σ),zM6 (fun _=>f) i s l=l.foldl f s
 |[],_,_=>rfl
 |x::l,i,s=>by simp only[zM6,List.foldl];exact zMd f l (i+1) (f s x)
abbrev bx(n:Nat)(row:List Cl):Option Blk:=some { box:=true,esz:=n,rows:=[row],gen:=0,fz:=false,ver:=0 }
abbrev bxv(v:Nat)(n:Nat)(row:List Cl):Option Blk:=some { box:=true,esz:=n,rows:=[row],gen:=0,fz:=false,ver:=v }
abbrev gb(es:Nat):Option Blk:=some { box:=false,esz:=es,rows:=[],gen:=0,fz:=false,ver:=0 }
abbrev Pt(k:Nat):WV:=.c (.ptr k 0 0 0)
section
variable[GlobP]{L:List (Nat×CFn)}{Cs:List (Nat×Nat×Nat×Bool)}{b:CC}{live:Option (List Nat)}{n0:Nat}
theorem ZfM{b':CC}(h:b=b')(E:Env)(M:Mem):Y L Cs b live n0 E M=match X L Cs b' E M with
  |some (.normal,E',M')=>Y L Cs b live n0 (canon n0 live E' M').1 (canon n0 live E' M').2
  |r=>r:=by
 rw[<-h];exact zrL b live n0 E M
theorem zBT{α σ ρ:Type}(l:List α)(E:Nat->σ->Env)(M:Nat->σ->Mem)(inv:Nat->σ->Prop)(f:Nat->σ->α->σ ⊕ ρ)(out:ρ->EX×Env×Mem)(e:σ->EX×Env×Mem)
  (hs:∀(i:Nat) (h:i<l.length) s,inv i s->match f i s l[i]with
   |.inl s'=>inv (i+1) s'/\Y L Cs b live n0 (E i s) (M i s)=Y L Cs b live n0 (E (i+1) s') (M (i+1) s')
   |.inr r=>Y L Cs b live n0 (E i s) (M i s)=some (out r))
  (he:∀s,inv l.length s->Y L Cs b live n0 (E l.length s) (M l.length s)=some (e s)) {s0:σ} (h0:inv 0 s0) :
  Y L Cs b live n0 (E 0 s0) (M 0 s0)=some (match zpx f 0 s0 l with |.inl s=>e s |.inr r=>out r):=by
 have key:∀(r:List α) (i:Nat) (s:σ),l.drop i=r->i<=l.length->inv i s->Y L Cs b live n0 (E i s) (M i s)=some (match zpx f i s r with |.inl s=>e s |.inr r=>out r):=by
  intro r;induction r with
  |nil =>
   intro i s hd hi hv;have:i=l.length:=by
    have:=congrArg List.length hd;simp at this;omega
   subst this;exact he s hv
  |cons x r ih =>
   intro i s hd hi hv;have hil:i<l.length:=by
    have:=congrArg List.length hd;simp at this;omega
   have hd':l.drop (i+1)=r:=by
    rw[js hil]at hd;exact(jU hd).2
   have hx:l[i]=x:=by
    rw[js hil]at hd;exact(jU hd).1
   have:=hs i hil s hv;rw[hx]at this;simp only[zpx];split at this
   ·rename_i s' hf;rw[this.2,ih (i+1) s' hd' hil this.1]
   ·rename_i r' hf;rw[this]
 exact key l 0 s0 rfl (jp _) h0
theorem zPH{α σ:Type}(l:List α)(E:Nat->σ->Env)(M:Nat->σ->Mem)(inv:Nat->σ->Prop)(f:Nat->σ->α->σ)(e:σ->EX×Env×Mem)
  (hs:∀(i:Nat) (h:i<l.length) s,inv i s->inv (i+1) (f i s l[i])/\Y L Cs b live n0 (E i s) (M i s)=Y L Cs b live n0 (E (i+1) (f i s l[i])) (M (i+1) (f i s l[i])))
  (he:∀s,inv l.length s->Y L Cs b live n0 (E l.length s) (M l.length s)=some (e s)) {s0:σ} (h0:inv 0 s0) :
  Y L Cs b live n0 (E 0 s0) (M 0 s0)=some (e (zM6 f 0 s0 l)):=by
 have h:=zBT (ρ:=Unit) l E M inv (fun i s x=>.inl (f i s x)) (fun _=>(.normal,[],[])) e (fun i h s hv=>hs i h s hv) he h0;have h2:∀(r:List α) (i:Nat) (s:σ),zpx (ρ:=Unit) (fun i s x=>.inl (f i s x)) i s r=.inl (zM6 f i s r):=by
  intro r;induction r with
  |nil=>intro i s;rfl
  |cons x r ih=>intro i s;simp only[zpx,zM6];exact ih _ _
 rw[h,h2]
theorem zxf{α:Type}(l:List α)(E:Nat->Env)(M:Mem)(p:α->Bool)(out:Nat->EX×Env×Mem)(e:EX×Env×Mem)
  (hs:∀(i:Nat) (h:i<l.length),p l[i]=false->Y L Cs b live n0 (E i) M=Y L Cs b live n0 (E (i+1)) M)
  (hh:∀(i:Nat) (h:i<l.length),p l[i]=true->Y L Cs b live n0 (E i) M=some (out i))
  (he:Y L Cs b live n0 (E l.length) M=some e) :
  Y L Cs b live n0 (E 0) M=some (match l.findIdx? p with |some i=>out i |none=>e):=by
 have h:=zBT (σ:=Unit) (ρ:=Nat) l (fun i _=>E i) (fun _ _=>M) (fun _ _=>True) (fun i s x=>if p x then .inr i else .inl s) out (fun _=>e)
  (fun i h s _=>by
   cases hp:p l[i]with
   |true=>simpa using hh i h hp
   |false=>simpa using hs i h hp) (fun s _=>he) (s0:=()) trivial
 have h2:∀(r:List α) (i:Nat),(match zpx (σ:=Unit) (ρ:=Nat) (fun i s x=>if p x then .inr i else .inl s) i () r with |.inl _=>e |.inr r=>out r)=(match r.findIdx? p with |some k=>out (i+k) |none=>e):=by
  intro r;induction r with
  |nil=>intro i;simp[zpx]
  |cons x r ih =>
   intro i;simp only[zpx,vX];cases hp:p x with
   |true=>simp
   |false =>
    simp only[jE,if_false];rw[ih (i+1)];cases r.findIdx? p<;>simp[kU,Nat.add_comm,Nat.add_left_comm]
 rw[h];have h3:=h2 l 0;simp only[jF]at h3
 congr 1
 cases hf:zpx (σ:=Unit) (ρ:=Nat) (fun i s x=>if p x then .inr i else .inl s) 0 () l with
 |inl s=>rw[hf]at h3;exact h3
 |inr r=>rw[hf]at h3;exact h3
theorem zpE{α:Type}(l:List α)(E:Nat->Env)(M:Mem)(p:α->Bool)(out e:EX×Env×Mem)
  (hs:∀(i:Nat) (h:i<l.length),p l[i]=false->Y L Cs b live n0 (E i) M=Y L Cs b live n0 (E (i+1)) M)
  (hh:∀(i:Nat) (h:i<l.length),p l[i]=true->Y L Cs b live n0 (E i) M=some out)
  (he:Y L Cs b live n0 (E l.length) M=some e) :
  Y L Cs b live n0 (E 0) M=some (if l.any p then out else e):=by
 rw[zxf l E M p (fun _=>out) e hs hh he];cases h:l.findIdx? p with
 |none =>
  have:l.any p=false:=by
   rw[Ab];intro x hx;have:=kl.1 h x hx;simp[this]
  simp[this]
 |some k =>
  have:l.any p=true:=by
   obtain⟨hk,h1,_⟩:=jT.1 h;exact qU.2 ⟨_,jf hk,h1⟩
  simp[this]
end
end Go.Eng
