/- This text proves parts of an evaluator's soundness: what the evaluator answers, the model's run does; no condition. -/
import Derived.Test.YtdndkdliiojpiaaGreatKEg1
import Derived.RangeFuncRecord
import Derived.Laws.BytesArg
import Derived.LaidEqlPtr
import Derived.OrdersIn
set_option linter.unusedVariables false
set_option linter.unusedSimpArgs false
set_option linter.unusedSectionVars false
namespace Go.Eng
open Go
variable[zb0]
section
variable{own:Nat->Prop}{σ:zP}{j:Inj}{M:Mem}{w:World}{P:Program}
theorem zda{r:Nat}{es:Array MapEntry}{c:Nat}(h:w.heap[r]?=some (.map es c)):(getObj r).run P w=.ok (.map es c) w:=by simp[getObj,Sem.run,h]
theorem zkk{r:Nat}{es:Array MapEntry}{c:Nat}(o:Obj)(h:w.heap[r]?=some (.map es c)):(setObj r o).run P w=.ok () (w.putObj r o):=by simp[setObj,Sem.run,h,World.putObj]
theorem zhi{r:Nat}{m:Option Nat}{a c:Nat}{s:Array Nat}(h:w.heap[r]?=some (.mapIter m a s c)):(getObj r).run P w=.ok (.mapIter m a s c) w:=by simp[getObj,Sem.run,h]
theorem zuO{r:Nat}{m:Option Nat}{a c:Nat}{s:Array Nat}(o:Obj)(h:w.heap[r]?=some (.mapIter m a s c)):(setObj r o).run P w=.ok () (w.putObj r o):=by simp[setObj,Sem.run,h,World.putObj]
theorem zpn{id l:Nat}{b b':Blk}{pl:Pl}{o:Obj}(hag:zM σ w)(hm:MR own σ j M w)(hb:M[id]?=some (some b))(hj:j id b.gen=some pl)(hat:pl.at=some l)(hnc:∀C T f,w.heap[l]?≠some (.cells C T f))
  (hno:∀C T f,o≠.cells C T f) (hg:b'.gen=b.gen) (hv:b'.ver=b.ver+1) (hbr:BR σ j b' pl (w.putObj l o)) :
  zM σ (w.putObj l o)/\MR own σ j (M.set id (some b')) (w.putObj l o)/\za2 own M.length σ j M w σ j (M.set id (some b')) (w.putObj l o):=by
 have hjk:=Inj.yf hj hat;have A7:∀k,k≠l->(w.putObj l o).heap[k]?=w.heap[k]?:=fun k hk=>World.putObj_heap_other hk
 have hne:∀k x q,k≠id->M[k]?=some (some x)->j.atk k x.gen=some q->q≠l:=fun k x q hk hx hq e=>hk (hm.vo k id x b q hx hb hq (by grind))
 have get:∀k x,(M.set id (some b'))[k]?=some (some x)->(k=id/\x=b')\/(k≠id/\M[k]?=some (some x)):=by
  grind
 refine⟨?_,⟨fun k x hx=>?_,fun k k' x x' q hx hx' hq hq'=>?_,fun k g pl hk=>?_,hm.okP⟩,?_⟩
 ·refine⟨?_,hag.kY⟩;intro k o' v hv;have hold:=hag.cells k o' v hv
  grind [World.cell?]
 ·rcases get k x hx with⟨rfl,rfl⟩ |⟨hk,hx⟩
  ·obtain⟨pl',hpl,_,ho⟩:=hm.vL k b hb
   grind
  ·obtain⟨pl',hpl,hbr',ho⟩:=hm.vL k x hx;exact⟨pl',hpl,hbr'.mono (zP.le_refl _) (Inj.le_refl _) (fun q e=>A7 q (hne k x q hk hx (Inj.yf hpl e))) (fun _ _ _ h _ _=>h),ho⟩
 ·rcases get k x hx with⟨rfl,rfl⟩ |⟨hk,hx1⟩<;>rcases get k' x' hx' with⟨rfl,rfl⟩ |⟨hk',BO⟩
  ·rfl
  ·grind
  ·grind
  ·exact hm.vo k k' x x' q hx1 BO hq hq'
 ·obtain⟨x,hx,hgx⟩:=hm.dom k g pl hk
  grind
 ·have hown:own l:=hm.CB hb hjk;refine⟨zP.le_refl _,fun _ _ _ _ h=>h,by simp,fun k _ ho=>A7 k (fun e=>ho (e ▸ hown)),fun _ _ _ h=>.inl h,fun k x hk hx=>?_,⟨rfl,rfl,rfl,fun _=>jm _⟩⟩
  grind
theorem zd9.C5{o:Obj}(hno:∀C T f,o≠.cells C T f):zd9 w (w.alloc o):=by
 exact⟨rfl,rfl,rfl,fun _=>jm _⟩
def zgY(σ:zP)(j:Inj)(g:Bool)(R:List (List Cl))(es:List MapEntry):Prop:=R.length=es.length /\
 ∀(i:Nat) (row:List Cl) (e:MapEntry),R[i]?=some row->es[i]?=some e->∃k n vc x,row=.int .i64 e.born::.int k n::vc/\e.key=.int k n/\zaI g vc=some x/\WVR σ j x e.val
theorem zgY.kO{g:Bool}{row:List Cl}{R:List (List Cl)}{es:List MapEntry}(h:zgY σ j g (row::R) es):∃e es' k n vc x,es=e::es'/\row=.int .i64 e.born::.int k n::vc/\e.key=.int k n/\zaI g vc=some x/\WVR σ j x e.val/\zgY σ j g R es':=by
 cases es with
 |nil=>have:=h.1;grind
 |cons e es =>
  obtain⟨k,n,vc,x,q⟩:=h.2 0 row e rfl rfl;exact⟨e,es,k,n,vc,x,rfl,q.1,q.2.1,q.2.2.1,q.2.2.2,by simpa using h.1,fun i r e' hr he=>h.2 (i+1) r e' (by grind) (by grind)⟩
theorem zfZ{g:Bool}{k:IntKind}{n:Int}{kk:IntKind}:∀{R:List (List Cl)} {es:List MapEntry} {i:Nat} {r:Option (Nat×List Cl)},zgY σ j g R es->zta k n R i=some r ->
  (r=none/\Instr.findNow (.int kk) (.int k n) es i=some none) \/
  ∃p e x,r=some (i+p,(R[p]?.getD []).drop 2)/\es[p]?=some e/\e.key=.int k n/\Instr.findNow (.int kk) (.int k n) es i=some (some (i+p,e.val))/\zaI g ((R[p]?.getD []).drop 2)=some x/\WVR σ j x e.val
 |[],es,i,r,h,hf=>by
  obtain rfl:es=[]:=jM h.1.symm;cases hf;exact .inl ⟨rfl,rfl⟩
 |row::R,es,i,r,h,hf=>by
  obtain⟨e,es',k',m,vc,x,rfl,rfl,hk,hx,hv,hs⟩:=h.kO;simp only[zta]at hf;split at hf
  ·rename_i hkk;subst hkk;split at hf
   ·rename_i hnm;subst hnm;cases hf;exact .inr ⟨0,e,x,by simp,rfl,hk,by grind [Instr.findNow,Instr.sameNow],by grind,hv⟩
   ·rcases zfZ (kk:=kk) hs hf with⟨h1,h2⟩ |⟨p,e',x',h1,h2,h3,h4,h5,h6⟩
    ·grind [Instr.findNow,Instr.sameNow]
    ·refine .inr ⟨p+1,e',x',by grind,by grind,h3,?_,by grind,h6⟩
     grind [Instr.findNow,Instr.sameNow]
  grind
theorem zfY{id:Nat}{g:Bool}{b:Blk}{c:Int}{R:List (List Cl)}{v:Value}(hm:MR own σ j M w)(h:zi4 M id=some (b,c,R))(hv:VC σ j (.map id g) v) :
  ∃(l clock:Nat) (es:Array MapEntry),v=.map (some l)/\j id b.gen=some (.mp l g)/\M[id]?=some (some b)/\w.heap[l]?=some (.map es clock)/\c=clock/\zgY σ j g R es.toList/\MB σ j b l g w:=by
 cases hv with
 |map _ _ _ l hj =>
  unfold zi4 at h;split at h
  ·rename_i b' hlk;obtain⟨hb,hg⟩:=zaz hlk;split at h
   ·rename_i c' r' u6;cases h;obtain⟨pl,hpl,hbr,_⟩:=hm.vL id b hb;rw[<-hg,hj]at hpl;cases hpl;obtain⟨es,clock,R',h1,h2,h3,h4⟩:=hbr.st;rw[u6]at h2;cases h2;exact⟨l,clock,es,rfl,by grind,hb,h1,rfl,⟨h3,h4⟩,hbr⟩
   grind
  grind
theorem zim{kt:TypeId}{kk k:IntKind}{n:Int}{es:List MapEntry}{r:Option (Nat×Value)}(hk:P.underlying kt=some (.int kk))(h:Instr.findNow (.int kk) (.int k n) es 0=some r):(Instr.findKey kt (.int k n) es).run P w=.ok r w:=by
 simp[Instr.findKey,run_underlying hk,h]
theorem zgn{kt:TypeId}{kk k:IntKind}{n:Int}{e:Bool}(hk:P.underlying kt=some (.int kk)):(Instr.checkKey e 10000 kt (.int k n)).run P w=.ok () w:=by
 have:∀d,(Instr.checkKey e (d+1) kt (.int k n)).run P w=.ok () w:=fun d=>by simp[Instr.checkKey,run_underlying hk]
 grind
theorem zmF{t:TypeId}{g:Bool}(h:zpP P t=some g):∃kt e kk,P.underlying t=some (.map kt e)/\P.underlying kt=some (.int kk)/\zeU P e=some g:=by
 grind [zpP]
theorem zAr{t:TypeId}{ok g:Bool}{z:WV}{xs:List WV}{vm vk:Value}{av:AV}{M':Mem}{fp:FP}(ht:zpP P t=some g)(hz:zCD P t=some z)(h:znp M ok g z xs=some (av,M',fp))(hr:zac σ j xs [vm,vk])(hag:zM σ w)(hm:MR own σ j M w) :
  za0 own σ j M w av M' ((Instr.lookup t vm vk ok).run P w):=by
 obtain⟨kt,e,kk,hu,hk,hg⟩:=zmF ht;obtain⟨x,y,rfl,hx,hy⟩:=zac.two hr;have hzr:∃zv,(zeroValue e).run P w=.ok zv w/\WVR σ j z zv:=by
  unfold zCD at hz;rw[hu]at hz;simp only[znJ]at hz;split at hz
  ·split at hz
   ·simp_all [zcJ,zkd]
   grind
  grind
 obtain⟨zv,hzv,hzr⟩:=hzr;unfold znp at h;split at h
 ·rename_i m k n e1;cases e1;cases hy;have out:∀(u:Value) (x:WV) (b:Bool),WVR σ j x u->AVR σ j (if ok then .t [x,.c (.bool b)] else .w x) (if ok then .tuple #[u,.bool b] else u):=by
   intro u x b hu;cases ok with
   |true=>exact⟨_,rfl,zac.cons hu (zac.cons (show WVR σ j (.c (.bool b)) _ from .bool _ _) zac.nil)⟩
   |false=>exact hu
  split at h
  ·cases h;cases hx;refine za0.same (v:=if ok then .tuple #[zv,.bool false] else zv) ?_ (out zv z false hzr) hag hm;simp[Instr.lookup,run_underlying hu,zgn hk,zim hk (show Instr.findNow (.int kk) (.int k n) [] 0=some none from rfl),hzv]
  ·split at h
   ·rename_i hgg;subst hgg;split at h
    ·rename_i b c R hat;obtain⟨l,clock,es,rfl,hj,hb,hl,rfl,hR,hmb⟩:=zfY hm hat hx;split at h
     ·rename_i p vs hf;rcases zfZ (kk:=kk) hR hf with⟨h1,_⟩ |⟨p',e',x',h1,h2,h3,h4,h5,h6⟩
      ·grind
      ·cases h1;split at h
       ·rename_i v hv;rw[h5]at hv;cases hv;cases h;refine za0.same (v:=if ok then .tuple #[e'.val,.bool true] else e'.val) ?_ (out e'.val x' true h6) hag hm;simp[Instr.lookup,run_underlying hu,zda hl,zgn hk,zim hk h4]
       grind
     ·rename_i hf;cases h;rcases zfZ (kk:=kk) hR hf with⟨_,h4⟩ |⟨p',e',x',h1,_⟩
      ·refine za0.same (v:=if ok then .tuple #[zv,.bool false] else zv) ?_ (out zv z false hzr) hag hm;simp[Instr.lookup,run_underlying hu,zda hl,zgn hk,zim hk h4,hzv]
      grind
     grind
    grind
   grind
  grind
 grind
theorem zgY.push{g:Bool}{R:List (List Cl)}{es:List MapEntry}(h:zgY σ j g R es){e:MapEntry}{k:IntKind}{n:Int}{vc:List Cl}{x:WV}(hk:e.key=.int k n)(hx:zaI g vc=some x)(hv:WVR σ j x e.val):zgY σ j g (R++[.int .i64 e.born::.int k n::vc]) (es++[e]):=by
 refine⟨by simp[h.1],fun i row e' hr he=>?_⟩;rw[ub]at hr he;rw[h.1]at hr;split at hr
 ·rename_i hi;rw[if_pos hi]at he;exact h.2 i row e' hr he
 grind
theorem zgY.modify{g:Bool}{R:List (List Cl)}{es:List MapEntry}(h:zgY σ j g R es){p:Nat}{f:List Cl->List Cl}{f':MapEntry->MapEntry}
  (hf:∀row e,R[p]?=some row->es[p]?=some e->∃k n vc x,f row=.int .i64 (f' e).born::.int k n::vc/\(f' e).key=.int k n/\zaI g vc=some x/\WVR σ j x (f' e).val):zgY σ j g (R.modify p f) (es.modify p f'):=by
 refine⟨by simp[h.1],fun i row e' hr he=>?_⟩;by_cases hp:p=i
 ·grind
 ·exact h.2 i row e' (by grind) (by grind)
theorem zgY.erase{g:Bool}{R:List (List Cl)}{es:List MapEntry}(h:zgY σ j g R es)(p:Nat):zgY σ j g (R.eraseIdx p) (es.eraseIdx p):=by
 refine⟨by rw[List.length_eraseIdx,List.length_eraseIdx,h.1],fun i row e' hr he=>?_⟩;rw[List.getElem?_eraseIdx]at hr he;split at hr
 ·rename_i hi;rw[if_pos hi]at he;exact h.2 i row e' hr he
 ·rename_i hi;rw[if_neg hi]at he;exact h.2 (i+1) row e' hr he
theorem zlU{id l c':Nat}{g:Bool}{b:Blk}{es es':Array MapEntry}{c:Nat}{R':List (List Cl)}(hag:zM σ w)(hm:MR own σ j M w)(hb:M[id]?=some (some b))(hj:j id b.gen=some (.mp l g))(hl:w.heap[l]?=some (.map es c))(hmb:MB σ j b l g w)
  (hR:zgY σ j g R' es'.toList):zM σ (w.putObj l (.map es' c'))/\MR own σ j (zlW M id b ([.int .i64 c']::R')) (w.putObj l (.map es' c'))/\za2 own M.length σ j M w σ j (zlW M id b ([.int .i64 c']::R')) (w.putObj l (.map es' c')):=by
 refine zpn (b':={ b with rows:=[.int .i64 c']::R',ver:=b.ver+1 }) hag hm hb hj rfl (by grind) (by grind) rfl rfl ?_;exact(⟨hmb.box,es',c',R',World.putObj_heap_same (jH.1 hl).1,rfl,hR.1,hR.2⟩:MB σ j { b with rows:=[.int .i64 c']::R',ver:=b.ver+1 } l g _)
theorem zsX{g:Bool}{v:WV}(h:okW g v=true):zaI g v.cells=some v:=by
 cases v with
 |c x=>cases g<;>simp[okW]at h<;>rfl
 |a cs=>cases g<;>simp[okW]at h<;>rfl
theorem zt2{k:IntKind}{n:Int}:(Instr.keyThatStays (.int k n) (.int k n)).run P w=.ok (.int k n) w:=by
 simp[Instr.sameBits,Instr.keyThatStays]
theorem zzv{t:TypeId}{g:Bool}{xs:List WV}{vm vk vv:Value}{av:AV}{M':Mem}{fp:FP}(ht:zpP P t=some g)(h:zoJ M g xs=some (av,M',fp))(hr:zac σ j xs [vm,vk,vv])(hag:zM σ w)(hm:MR own σ j M w) :
  av=.u/\∃w',(Instr.mapUpdate t vm vk vv).run P w=.ok () w'/\zM σ w'/\MR own σ j M' w'/\za2 own M.length σ j M w σ j M' w':=by
 obtain⟨kt,e,kk,hu,hk,hg⟩:=zmF ht;unfold zoJ at h;split at h
 ·rename_i id g' k n v;obtain⟨_,_,q,hx,hs⟩:=hr.kO;cases q;obtain⟨_,_,q,hy,hz⟩:=zac.two hs;cases q;cases hy;split at h
  ·rename_i hgg;obtain⟨rfl,hok⟩:=hgg;split at h
   ·rename_i b c R hat;obtain⟨l,clock,es,rfl,hj,hb,hl,rfl,hR,hmb⟩:=zfY hm hat hx;split at h
    ·rename_i p vs hf;cases h;rcases zfZ (kk:=kk) hR hf with⟨h1,_⟩ |⟨p',e',x',h1,h2,h3,h4,h5,h6⟩
     ·grind
     ·cases h1;have hmod:(es.modify (0+p') fun e=>{ e with key:=.int k n,val:=vv }).toList=es.toList.modify p' fun e=>{ e with key:=.int k n,val:=vv }:=by simp
      have hR':zgY σ j g' (R.modify (0+p') fun row=>row.take 1++.int k n::v.cells) (es.modify (0+p') fun e=>{ e with key:=.int k n,val:=vv }).toList:=by
       rw[hmod,jF];refine hR.modify fun row e0 hr0 he0=>⟨k,n,v.cells,v,?_,rfl,zsX hok,hz⟩
       obtain⟨_,_,_,_,q1,_⟩:=hR.2 p' row e0 hr0 he0
       grind
      obtain⟨r1,r2,r3⟩:=zlU (c':=clock) hag hm hb hj hl hmb hR';refine⟨rfl,_,?_,r1,r2,r3⟩;have hold:((es[0+p']?).map (·.key)).getD (.int k n)=.int k n:=by
       grind
      simp only[jF]at hold h4 ⊢;simp[Instr.mapUpdate,run_underlying hu,zda hl,zgn hk,zim hk h4,hold,zt2,zkk _ hl]
    ·rename_i hf;cases h;rcases zfZ (kk:=kk) hR hf with⟨_,h4⟩ |⟨p',e',x',h1,_⟩
     ·have hR':zgY σ j g' (R++[.int .i64 (clock:Int)::.int k n::v.cells]) (es.push { key:=.int k n,val:=vv,born:=clock }).toList:=by
       rw[Array.toList_push];exact hR.push (e:={ key:=.int k n,val:=vv,born:=clock }) rfl (zsX hok) hz
      obtain⟨r1,r2,r3⟩:=zlU (c':=clock+1) hag hm hb hj hl hmb hR';refine⟨rfl,_,?_,r1,r2,r3⟩;simp[Instr.mapUpdate,run_underlying hu,zda hl,zgn hk,zim hk h4,zkk _ hl]
     grind
    grind
   grind
  grind
 grind
theorem ZlE{t:TypeId}{g:Bool}{xs:List WV}{vm vk vv:Value}{av:AV}{M':Mem}{fp:FP}(ht:zpP P t=some g)(h:Zig M g xs=some (av,M',fp))(hr:zac σ j xs [vm,vk,vv])(hag:zM σ w)(hm:MR own σ j M w) :
  av=.u/\∃w' σ',(Instr.mapUpdate t vm vk vv).run P w=.ok () w'/\zM σ' w'/\MR own σ' j M' w'/\za2 own M.length σ j M w σ' j M' w':=by
 unfold Zig at h;split at h
 ·rename_i m k v;split at h
  ·rename_i v' hf;split at h
   ·rename_i a M1 l hp;cases h;obtain⟨_,_,q,hx,hs⟩:=hr.kO;cases q;obtain⟨_,_,q,hy,hs⟩:=hs.kO;cases q;obtain⟨_,_,q,hz,hs⟩:=hs.kO;cases q;obtain⟨σ1,q1,q2,q3,q4,q5⟩:=zhe v.sls hm hag;have hv:=zq8 hm q1 q2 q5 hf hz;obtain⟨r1,w',h1,h2,h3,h4⟩:=zzv (P:=P) ht hp (zac.cons (hx.mono q1 (Inj.le_refl _)) (zac.cons (hy.mono q1 (Inj.le_refl _)) (zac.cons hv zac.nil))) q2 q3;exact⟨r1,w',σ1,h1,h2,h3,q4.trans (by grind [zgi])⟩
   grind
  grind
 grind
theorem zAt{t ty u:TypeId}{g:Bool}{xs:List WV}{vm vk:Value}{av:AV}{M':Mem}{fp:FP}(ht:zpP P t=some g)(h:zoK M xs=some (av,M',fp))(hr:zac σ j xs [vm,vk])(hag:zM σ w)(hm:MR own σ j M w) :
  za0 own σ j M w av M' ((Builtin.delete_ #[t,u] ty #[vm,vk]).run P w):=by
 obtain⟨kt,e,kk,hu,hk,hg⟩:=zmF ht;obtain⟨x,y,rfl,hx,hy⟩:=zac.two hr;unfold zoK at h;split at h
 ·rename_i m k n e1;cases e1;have hx:VC σ j m vm:=hx;cases hy;split at h
  ·cases h;cases hx;refine za0.same (v:=.tuple #[]) ?_ ⟨#[],rfl,zac.nil⟩ hag hm
   simp_all [Builtin.delete_,run_underlying,zgn]
  ·rename_i id g' _;split at h
   ·rename_i b c R hat;obtain⟨l,clock,es,rfl,hj,hb,hl,rfl,hR,hmb⟩:=zfY hm hat hx;have same:w.putObj l (.map es clock)=w:=by
     unfold World.putObj
     congr 1
     grind
    split at h
    ·rename_i p vs hf;cases h;rcases zfZ (kk:=kk) hR hf with⟨h1,_⟩ |⟨p',e',x',h1,h2,h3,h4,h5,h6⟩
     ·grind
     ·cases h1;have hR':zgY σ j g' (R.eraseIdx (0+p')) (es.eraseIdxIfInBounds (0+p')).toList:=by
       have:(es.eraseIdxIfInBounds (0+p')).toList=es.toList.eraseIdx (0+p'):=by simp
       rw[this];exact hR.erase _
      obtain⟨r1,r2,r3⟩:=zlU (c':=clock) hag hm hb hj hl hmb hR';refine⟨.tuple #[],_,σ,j,?_,⟨#[],rfl,zac.nil⟩,r1,r2,r3⟩;simp[Builtin.delete_,run_underlying hu,zda hl,zgn hk,zim hk h4,zkk _ hl]
    ·rename_i hf;cases h;rcases zfZ (kk:=kk) hR hf with⟨_,h4⟩ |⟨p',e',x',h1,_⟩
     ·refine za0.same (v:=.tuple #[]) ?_ ⟨#[],rfl,zac.nil⟩ hag hm;simp[Builtin.delete_,run_underlying hu,zda hl,zgn hk,zim hk h4,zkk _ hl,same]
     grind
    grind
   grind
  grind
 grind
theorem zyv{t ty kt e:TypeId}{xs:List WV}{vm:Value}{av:AV}{M':Mem}{fp:FP}(ht:P.underlying t=some (.map kt e))(h:zno M xs=some (av,M',fp))(hr:zac σ j xs [vm])(hag:zM σ w)(hm:MR own σ j M w) :
  za0 own σ j M w av M' ((Builtin.len_ #[t] ty #[vm]).run P w):=by
 obtain⟨x,rfl,hx⟩:=zac.one hr;unfold zno at h;split at h
 ·rename_i m e1;cases e1;split at h
  ·cases h;cases hx;refine za0.same (v:=.int .i64 0) ?_ (show VC σ j _ _ from .int _ _ _) hag hm;simp[Builtin.len_,run_underlying ht,goInt]
  ·split at h
   ·rename_i b c R hat;obtain⟨l,clock,es,rfl,hj,hb,hl,rfl,hR,hmb⟩:=zfY hm hat hx;cases h;have hlen:R.length=es.size:=by have:=hR.1;grind
    refine za0.same (v:=.int .i64 es.size) ?_ (show VC σ j _ _ by rw[hlen];exact .int _ _ _) hag hm;simp[Builtin.len_,run_underlying ht,zda hl,goInt]
   grind
  grind
 grind
theorem zqZ{it:Nat}{b:Blk}{v:Value}(hm:MR own σ j M w)(h:look M it 0=some b)(hv:VC σ j (.mit it) v):∃l,v=.pointer (some ⟨l,0,none⟩)/\j it b.gen=some (.mi l)/\M[it]?=some (some b)/\IB σ j b l w:=by
 cases hv with
 |mit _ _ l hj =>
  obtain⟨hb,hg⟩:=zaz h;obtain⟨pl,hpl,hbr,_⟩:=hm.vL it b hb;rw[<-hg,hj]at hpl;cases hpl;exact⟨l,rfl,by grind,hb,hbr⟩
theorem zjh{l m since last clock:Nat}{seen:Array Nat}{es:Array MapEntry}{ty:TypeId}(h1:w.heap[l]?=some (.mapIter (some m) since seen last))(h2:w.heap[m]?=some (.map es clock))(hne:es.toList=[]\/∃e,es.toList=[e]/\e.born<last/\seen = #[e.born]) :
  (Instr.next (.pointer (some ⟨l,0,none⟩)) false ty).run P w=.ok (.tuple #[.bool false]) w:=by
 rcases hne with he |⟨e,he,hlt,rfl⟩
 ·have:es = #[]:=by grind
  subst this;simp[Instr.next,zhi h1,zda h2,Question.forced]
 ·have:es = #[e]:=by grind
  subst this;have:¬(last<=e.born):=by omega
  simp[Instr.next,zhi h1,zda h2,Question.forced,this]
theorem ztR{l m since last clock:Nat}{e:MapEntry}{es:Array MapEntry}{ty:TypeId}(h1:w.heap[l]?=some (.mapIter (some m) since #[] last))(h2:w.heap[m]?=some (.map es clock))(he:es.toList=[e])(hlt:e.born<since) :
  (Instr.next (.pointer (some ⟨l,0,none⟩)) false ty).run P w=.ok (.tuple #[.bool true,e.key,e.val]) (w.putObj l (.mapIter (some m) since #[e.born] clock)):=by
 have:es = #[e]:=by grind
 subst this;have h3:¬(since<=e.born):=by omega
 simp[Instr.next,zhi h1,zda h2,Question.forced,hlt,h3,zuO _ h1]
theorem zys{ty:TypeId}{xs:List WV}{vi:Value}{av:AV}{M':Mem}{fp:FP}(h:zmG M xs=some (av,M',fp))(hr:zac σ j xs [vi])(hag:zM σ w)(hm:MR own σ j M w) :
  za0 own σ j M w av M' ((Instr.next vi false ty).run P w):=by
 obtain⟨x,rfl,hx⟩:=zac.one hr;have over:∀{r:Result Value},r=.ok (.tuple #[.bool false]) w->za0 own σ j M w (.t [.c (.bool false)]) M r:=fun hr=>za0.same hr ⟨_,rfl,zac.cons (show WVR σ j (.c (.bool false)) (.bool false) from VC.bool _ _) zac.nil⟩ hag hm
 unfold zmG at h;split at h
 ·rename_i it e1;cases e1;have hx:VC σ j (.mit it) vi:=hx;split at h
  ·rename_i b hlk;obtain⟨l,rfl,hj,hb,hib⟩:=zqZ hm hlk hx;split at h
   ·rename_i u6;cases h;rcases hib.st with⟨h1,_⟩ |⟨id,g,m,since,last,_,⟨_,h2⟩ |⟨s,_,h2⟩⟩
    ·exact over (by simp[Instr.next,zhi h1])
    ·grind
    grind
   ·rename_i id g since seen u6;split at h
    ·rename_i b2 c r seen' hat hseen;rcases hib.st with⟨_,h2⟩ |⟨id',g',m,Bf,last,hjm,h0⟩
     ·grind
     ·have hid:id'=id/\g'=g:=by
       rcases h0 with⟨_,h2⟩ |⟨s,_,h2⟩<;>(grind)
      obtain⟨rfl,rfl⟩:=hid;obtain⟨m',clock,es,e2,hjm',hbm,hl,rfl,hR,hmb⟩:=zfY hm hat (VC.map j id' g' m hjm);cases e2;rcases h0 with⟨h1,h2⟩ |⟨s,h1,h2⟩
      ·rw[u6]at h2;cases h2;cases hseen;split at h
       ·cases h;exact over (zjh h1 hl (.inl (jM hR.1.symm)))
       ·rename_i born k vs e3;split at h
        ·rename_i hlt;split at h
         ·rename_i v hv;cases h;obtain⟨e,es',k',n,vc,x,he,hrow,hk,hxc,hxv,hs⟩:=hR.kO;cases hrow;rw[hv]at hxc;cases hxc;obtain rfl:es'=[]:=jM hs.1.symm;have ul:=ztR (P:=P) (ty:=ty) h1 hl he (by omega);have hbr':IB σ j { b with rows:=[[.map id' g',.int .i64 Bf,.int .i64 e.born,.int .i64 clock]],ver:=b.ver+1 } l (w.putObj l (.mapIter (some m) Bf #[e.born] clock)) :=
           ⟨hib.box,.inr ⟨id',g',m,Bf,clock,hjm,.inr ⟨e.born,World.putObj_heap_same (jH.1 h1).1,rfl⟩⟩⟩
          obtain⟨q1,q2,q3⟩:=zpn (id:=it) (b':={ b with rows:=[[.map id' g',.int .i64 Bf,.int .i64 e.born,.int .i64 clock]],ver:=b.ver+1 }) (o:=.mapIter (some m) Bf #[e.born] clock) hag hm hb hj rfl
           (by grind) (by grind) rfl rfl
           hbr'
          refine⟨_,_,σ,j,ul,⟨_,rfl,zac.cons (show WVR σ j (.c (.bool true)) (.bool true) from VC.bool _ _) (zac.cons ?_ (zac.cons hxv zac.nil))⟩,q1,q2,q3⟩;rw[hk];exact VC.int _ _ _
         grind
        grind
       ·grind
       ·grind
       grind
      ·rw[u6]at h2;cases h2;cases hseen;cases r with
       |nil =>
        cases h;exact over (zjh h1 hl (.inl (jM hR.1.symm)))
       |cons row tl =>
        obtain⟨e,es',k',n,vc,x,he,rfl,hk,hxc,hxv,hs⟩:=hR.kO;cases tl with
        |nil =>
         simp only at h;split at h
         ·rename_i hc;cases h;obtain rfl:es'=[]:=jM hs.1.symm
          grind [zjh]
         grind
        |cons _ _=>grind
    grind
   grind
  grind
 grind
theorem zw0{xs:List WV}{vi:Value}{av:AV}{M':Mem}{fp:FP}(h:zil M xs=some (av,M',fp))(hr:zac σ j xs [vi])(hag:zM σ w)(hm:MR own σ j M w) :
  za0 own σ j M w av M' ((Instr.entry vi).run P w):=by
 obtain⟨x,rfl,hx⟩:=zac.one hr;unfold zil at h;split at h
 ·rename_i it e1;cases e1;split at h
  ·rename_i b hlk;obtain⟨l,rfl,hj,hb,hib⟩:=zqZ hm hlk hx;split at h
   ·rename_i id g since s last u6;split at h
    ·rename_i b2 c born k vs hat;split at h
     ·rename_i hc;obtain⟨rfl,rfl⟩:=hc;split at h
      ·rename_i v hv;cases h;rcases hib.st with⟨_,h2⟩ |⟨id',g',m,Bf,CV,hjm,⟨_,h2⟩ |⟨s',h1,h2⟩⟩
       ·grind
       ·grind
       ·rw[u6]at h2;cases h2;obtain⟨m',clock,es,e2,hjm',hbm,hl,hcl,hR,hmb⟩:=zfY hm hat (VC.map j _ _ m hjm);cases e2;obtain⟨e,es',k',n,vc,x,he,hrow,hk,hxc,hxv,hs⟩:=hR.kO;cases hrow;rw[hv]at hxc;cases hxc;have hclk:CV=clock:=by omega
        subst hclk;have hes:es.toList.find? (fun e'=>e'.born==e.born)=some e:=by grind
        have hes2:es.find? (fun e'=>e'.born==e.born)=some e:=by grind
        refine za0.same (v:=.tuple #[e.key,e.val]) ?_ ⟨_,rfl,zac.cons (show WVR σ j _ _ by rw[hk];exact VC.int _ _ _) (zac.cons hxv zac.nil)⟩ hag hm;simp[Instr.entry,zhi h1,zda hl,hes2]
      grind
     grind
    grind
   grind
  grind
 grind
theorem zpC:∀{cs:List Cl} {vs:List Value} {bs:List UInt8},zo4 cs=some bs->VCs σ j cs vs->∃xs:List Int,vs=xs.map (Value.int .u8)/\bs=xs.map fun n=>UInt8.ofNat n.toNat
 |[],vs,bs,h,hv=>by cases h;exact⟨[],hv.vG,rfl⟩
 |c::cs,vs,bs,h,hv=>by
  obtain⟨v,vs',rfl,h1,h2⟩:=hv.kO;cases c with
  |int k n =>
   cases k<;>first |(cases h) |skip
   simp only[zo4,ja]at h;obtain⟨bs',hb,rfl⟩:=h;obtain⟨xs,rfl,rfl⟩:=zpC hb h2;cases h1;exact⟨n::xs,rfl,rfl⟩
  |_=>cases h
theorem zsC{src dst e b off len cap:Nat}{cs:List Cl}{vs:List Value}{bs:List UInt8}{ad:Option Addr}(hs:P.underlying src=some (.slice e))(he:P.underlying e=some (.int .u8))(hd:P.underlying dst=some .string)(hb:zo4 cs=some bs)(hv:VCs σ j cs vs)(hl:vs.length=len)
  (ha:len≠0->ad=some ⟨b,off,none⟩/\∀(k:Nat) (u:Value),vs[k]?=some u->w.cell? ⟨b,off+k,none⟩=some u) :
  (convert src dst (.slice ad len cap)).run P w=.ok (.string ⟨bs.toArray⟩) w:=by
 obtain⟨xs,rfl,rfl⟩:=zpC hb hv;by_cases h0:len=0
 ·subst h0;obtain rfl:xs=[]:=by grind
  rw[run_convert_bytes_string w src dst e ad 0 cap hs he hd];cases ad with
  |none=>rfl
  |some ad=>rfl
 ·obtain⟨rfl,hc⟩:=ha h0;rw[km]at hl;exact run_convert_bytes_arg w src e hs he b off len cap xs hl (fun i hi=>hc i _ (by grind)) dst hd
theorem ztg{id g i k n:Nat}{cs:List Cl}{L:Loc}(hm:MR own σ j M w)(h:ziB M id g i k n=some cs)(hj:j id g=some (.loc L)) :
  ∃vs,VCs σ j cs vs/\vs.length=n/\(zfJ M id g=false->VCs σ zb1 cs vs)/\∀(q:Nat) (u:Value),vs[q]?=some u->w.cell? ⟨L.blk,L.off+i*L.esz+k+q,none⟩=some u:=by
 unfold ziB at h;split at h
 ·rename_i b hlk;obtain⟨hb,rfl⟩:=zaz hlk;have hbx:zfJ M id b.gen=b.box:=by grind [zfJ]
  split at h
  ·rename_i row hrow;obtain⟨h1,h2,h3⟩:=zmL h;have kZ:∀(m:Nat) (c:Cl),cs[m]?=some c->∃v,w.cell? ⟨L.blk,L.off+i*L.esz+(k+m),none⟩=some v/\VC σ j c v/\VC σ (if b.box then j else zb1) c v:=fun m c hc=>hm.cell hb hj hrow (h3 m c hc)
   refine⟨cs.zipIdx.map fun(c,m)=>(w.cell? ⟨L.blk,L.off+i*L.esz+(k+m),none⟩).getD undef,?_,by simp[h1],?_,?_⟩
   ·refine VCs.B9 (by simp) fun m c hc=>?_
    grind
   ·intro hbf;refine VCs.B9 (by simp) fun m c hc=>?_
    grind
   grind
  grind
 grind
theorem Zso{w:World}{l n:Nat}{C:Array Value}{T:TypeId}{fr:Nat×Nat}(h:w.heap[l]?=some (.cells C T fr)):(w.freeze ⟨l,n,none⟩ 1).heap[l]?=some (.cells C T (if fr.1==fr.2 then(n,n+1) else(min fr.1 n,max fr.2 (n+1)))):=by
 unfold World.freeze;rw[if_neg (by decide)];simp only[qR,if_true,h,qm]
theorem ZrX{w:World}{l n k:Nat}(h:k≠l):(w.freeze ⟨l,n,none⟩ 1).heap[k]?=w.heap[k]?:=by
 unfold World.freeze;rw[if_neg (by decide)];simp only[qR,if_neg (qX h)]
theorem Zsn{w:World}{l n:Nat}:(w.freeze ⟨l,n,none⟩ 1).heap.size=w.heap.size:=by
 unfold World.freeze;rw[if_neg (by decide)];simp
theorem ZsB{src:TypeId}{xs:List WV}{vx:Value}{av:AV}{M':Mem}{fp:FP}(hs:zq3 P src=true)(h:ZrW M xs=some (av,M',fp))(hr:zac σ j xs [vx])(hag:zM σ w)(hm:MR own σ j M w) :
  za0 own σ j M w av M' ((convert src src vx).run P w):=by
 obtain⟨e,CG,he⟩:∃e,P.underlying src=some (.slice e)/\P.underlying e=some (.int .u8):=by
  grind [zq3]
 obtain⟨x,rfl,hx⟩:=zac.one hr;unfold ZrW at h;split at h
 ·rename_i id g es off len cap e1;cases e1;split at h
  ·rename_i b hb0;obtain⟨hbk,rfl⟩:=zaz hb0;split at h
   ·rename_i hc;obtain⟨vt,hl0⟩:=hc;cases h;cases hx with
    |slice _ _ _ _ _ _ _ pl ad c hj hl yK ha =>
     obtain⟨L,rfl,q2,rfl,hf2⟩:=ha (by omega);obtain⟨pl',ya,hbr,hown⟩:=hm.blk id b hbk;rw[hj]at ya;cases ya;have hbr:BL σ j b L w:=hbr;obtain⟨C,T,fr,hC,hfr,hsz,hrow⟩:=hbr.heap;have hsh:w.shape? L.blk=some (T,C.size):=by simp[World.shape?,hC]
     have hfr2:(if fr.1==fr.2 then(C.size,C.size+1) else(min fr.1 C.size,max fr.2 (C.size+1)))=(C.size,C.size+1):=by
      by_cases h0:fr=(0,0)
      ·rw[h0];rfl
      ·rw[(hfr h0).2];simp
     have hw:(w.freeze ⟨L.blk,C.size,none⟩ 1).heap[L.blk]?=some (.cells C T (C.size,C.size+1)):=by
      rw[Zso hC,hfr2]
     have hblt:L.blk<w.heap.size:=(jH.1 hC).1;refine⟨.slice (some ⟨L.blk,L.off+off*L.esz,none⟩) len c,w.freeze ⟨L.blk,C.size,none⟩ 1,σ,j,?_,?_,?_,?_,?_⟩
     ·simp[convert,run_underlying CG,run_underlying he,markStringish,hsh]
     ·exact(show VC σ j _ _ from .slice _ _ _ _ _ _ _ _ _ _ hj hl yK (fun _=>⟨L,rfl,q2,rfl,hf2⟩))
     ·refine⟨fun b' o v hv=>?_,hag.kY⟩;have hold:=hag.cells b' o v hv;by_cases hbb:b'=L.blk
      ·subst hbb;simp only[World.cell?,hC,kG,jE,if_false]at hold;simp only[World.cell?,hw,kG,jE,if_false];exact hold
      ·simp only[World.cell?,ZrX hbb]at hold ⊢;exact hold
     ·refine hm.write hbk hj rfl (fun k hk=>ZrX hk) ?_;exact⟨hbr.esz,hbr.pos,hbr.len,hbr.fit,⟨C,T,_,hw,fun _=>⟨rfl,rfl⟩,hsz,hrow⟩,fun o h1 h2=>hbr.A0 o h1 (fun _=>h2 rfl)⟩
     ·refine⟨zP.le_refl _,fun _ _ _ _ h=>h,Aw Zsn.symm,fun b' hb' ho=>?_,fun _ _ _ h=>.inl h,fun id' b' hid hb'=>?_,?_⟩
      ·exact ZrX (fun e=>ho (e ▸ hown L rfl))
      ·by_cases yw:id=id'
       ·subst yw;rw[hbk]at hb';cases hb';exact⟨_,by simp[hid];rfl,by simp,fun h=>by simp at h⟩
       ·refine⟨b',by rw[jD yw];exact hb',jm _,fun _=>⟨rfl,fun L' hL'=>?_⟩⟩;exact ZrX (fun e=>yw (hm.vo id id' b b' L' hbk hb' (by rw[e];exact Inj.uQ hj) hL'))
      ·have:(w.freeze ⟨L.blk,C.size,none⟩ 1).os=w.os/\(w.freeze ⟨L.blk,C.size,none⟩ 1).output=w.output/\(w.freeze ⟨L.blk,C.size,none⟩ 1).tape=w.tape/\(w.freeze ⟨L.blk,C.size,none⟩ 1).drawn=w.drawn:=by
        unfold World.freeze;rw[if_neg (by decide)];exact⟨rfl,rfl,rfl,rfl⟩
       exact⟨this.1,this.2.1,this.2.2.1,fun _=>by rw[this.2.2.2];exact jm _⟩
   ·cases h
  ·cases h
 ·cases h
theorem ZsD{t e:TypeId}{n:Nat}{xo yo:Operand}{xs:List WV}{vx vy:Value}{av:AV}{M':Mem}{fp:FP}(ht:P.underlying t=some (.pointer e))(hn:zbL P e=some (n+1))(h:Zr8 M xs=some (av,M',fp))(hr:zac σ j xs [vx,vy])(hag:zM σ w)(hm:MR own σ j M w) :
  za0 own σ j M w av M' ((do eqGuard .eql t xo yo vx vy;binOp .eql t vx vy:Sem Value).run P w):=by
 unfold Zr8 at h;split at h
 ·rename_i id g i k id' g' i' k';obtain⟨u,us,e1,hx,hr2⟩:=hr.kO;cases e1;obtain⟨u2,us2,e2,hy,_⟩:=hr2.kO;cases e2;split at h
  ·rename_i b b' hb0 hb0';obtain⟨hbk,rfl⟩:=zaz hb0;obtain⟨hbk',rfl⟩:=zaz hb0';split at h
   ·rename_i hc;obtain⟨hne,hfz,hfz'⟩:=hc;cases h;have hx:VC σ j _ vx:=hx;have hy:VC σ j _ vy:=hy;cases hx with
    |ptr _ _ _ _ _ L hj =>
    cases hy with
    |ptr _ _ _ _ _ L' hj' =>
    have get:∀{id:Nat} {b:Blk} {L:Loc},M[id]?=some (some b)->b.fz=false->j id b.gen=some (.loc L)->∃C T,w.heap[L.blk]?=some (.cells C T (0,0)):=fun {id b L} hbk hfz hj=>by
     obtain⟨pl',ya,hbr,_⟩:=hm.blk id b hbk;rw[hj]at ya;cases ya;obtain⟨C,T,fr,hC,hfr,_⟩:=(hbr:BL σ j b L w).heap;by_cases h0:fr=(0,0)
     ·rw[h0]at hC;exact⟨C,T,hC⟩
     ·rw[(hfr h0).1]at hfz;cases hfz
    obtain⟨C,T,hC⟩:=get hbk hfz hj;obtain⟨C',T',hC'⟩:=get hbk' hfz' hj';have hblk:L.blk≠L'.blk:=fun e=>hne (hm.vo id id' b b' L.blk hbk hbk' (Inj.uQ hj) (by rw[e];exact Inj.uQ hj'))
    obtain⟨ti,hti,hsz⟩:∃ti,P.info? e=some ti/\ti.size=n+1:=by
     unfold zbL at hn;cases hi:P.info? e with
     |none=>rw[hi]at hn;cases hn
     |some ti=>rw[hi]at hn;exact⟨ti,rfl,by simpa using hn⟩
    have hq:=run_eql_ptr_other (P:=P) w ht hti (by omega) (a:=⟨L.blk,L.off+i*L.esz+k,none⟩) (b:=⟨L'.blk,L'.off+i'*L'.esz+k',none⟩) (fun e=>hblk (congrArg Addr.block e)) hC hC';refine za0.same (v:=.bool false) ?_ (show VC σ j _ _ from .bool _ _) hag hm;simpa [eqGuard]using hq
   ·cases h
  ·cases h
 ·cases h
theorem zv6{src dst:TypeId}{xs:List WV}{vx:Value}{av:AV}{M':Mem}{fp:FP}(hs:zq3 P src=true)(hd:P.underlying dst=some .string)(h:zkf M xs=some (av,M',fp))(hr:zac σ j xs [vx])(hag:zM σ w)(hm:MR own σ j M w) :
  za0 own σ j M w av M' ((convert src dst vx).run P w):=by
 obtain⟨e,CG,he⟩:∃e,P.underlying src=some (.slice e)/\P.underlying e=some (.int .u8):=by
  grind [zq3]
 obtain⟨x,rfl,hx⟩:=zac.one hr;unfold zkf at h;split at h
 ·rename_i id g i k es len cap e1;cases e1;split at h
  ·split at h
   ·rename_i cs hcs;split at h
    ·rename_i bs hbs;cases h;cases hx with
     |bsl _ _ _ _ _ _ _ _ L ad hj hl ha =>
      obtain⟨vs,q1,q2,_,q3⟩:=ztg hm hcs hj;refine za0.same (zsC CG he hd hbs q1 q2 (b:=L.blk) (off:=L.off+i*L.esz+k) fun hne=>⟨by grind,q3⟩) (show VC σ j _ _ from .str _ _) hag hm
    grind
   grind
  grind
 ·rename_i x' _ e1;cases e1;split at h
  ·rename_i ys hys;split at h
   ·rename_i bs hbs;cases h;obtain⟨ad,c,news,rfl,u6,hc⟩:=zi7 hys hx hag hm;have hlen:news.length=ys.length:=by have:=u6.1;grind
    have hv:VCs σ zb1 (ys.map fun r=>r.headD .kP) news:=by
     refine⟨by grind,fun n c v hc hv=>?_⟩;simp only[kF,ja]at hc;obtain⟨row,hrow,rfl⟩:=hc;have hr1:=u6.2.1 row (zat hrow);obtain⟨cl,rfl⟩:∃cl,row=[cl]:=yk.1 hr1;obtain⟨v',q1,q2⟩:=u6.2.2 n [cl] 0 cl hrow rfl
     grind
    refine za0.same (zsC CG he hd hbs hv hlen (b:=((ad.getD ⟨0,0,none⟩).block)) (off:=(ad.getD ⟨0,0,none⟩).off) fun hne=>?_) (show VC σ j _ _ from .str _ _) hag hm;obtain⟨b,o,rfl,hcell⟩:=hc (by grind)
    grind
   grind
  grind
 grind
theorem zyW{t u ty e es:TypeId}{e':TypeId}{xs:List WV}{vd vs:Value}{av:AV}{M':Mem}{fp:FP}(ht:P.underlying t=some (.slice e))(hu:P.underlying u=some (.slice e'))(hs:zbL P e=some es)(h:zoY M es xs=some (av,M',fp))(hr:zac σ j xs [vd,vs])(hag:zM σ w)(hm:MR own σ j M w) :
  za0 own σ j M w av M' ((Builtin.copy_ #[t,u] ty #[vd,vs]).run P w):=by
 obtain⟨x,y,rfl,hx,hy⟩:=zac.two hr;unfold zoY at h;split at h
 ·rename_i id g i k es' len cap src e1;cases e1;have hy:VC σ j src vs:=hy;split at h
  ·split at h
   ·cases h;cases hy;cases hx with
    |bsl _ _ _ _ _ _ _ _ L ad hj hl ha =>
     refine za0.same (v:=.int .i64 0) ?_ (show VC σ j _ _ from .int _ _ _) hag hm
     simp_all [Builtin.copy_,run_underlying,Builtin.lenOf,zaJ,Builtin.firstCells,storeCells,goInt]
   ·rename_i id2 g2 i2 k2 es2 Ci cap2 _;split at h
    ·rename_i hes;subst hes;split at h
     ·rename_i cs hcs;split at h
      ·rename_i vt;simp only[ja,jt]at h;obtain⟨M1,hst,rfl,rfl,rfl⟩:=h;cases hx with
       |bsl _ _ _ _ _ _ _ _ L ad hj hl ha =>
        cases hy with
        |bsl _ _ _ _ _ _ _ _ L2 ad2 hj2 hl2 ha2 =>
         obtain⟨us,q1,q2,_,q3⟩:=ztg hm hcs hj2;obtain⟨w',ul,r1,r2,r3⟩:=zkh (P:=P) hst hj (by rw[if_pos vt];omega) hag hm;refine⟨.int .i64 (min Ci len:Nat),w',σ,j,?_,show VC σ j _ _ from by exact .int _ _ _,r1,r2,r3⟩;have hfc:(Builtin.firstCells es2 (min Ci len) (.slice (some ad2) Ci cap2)).run P w=.ok us.toArray w:=by
          grind [zdy]
         have yI:(storeCells ad us).run P w=.ok () w':=by
          by_cases h0:us=[]
          ·grind [storeCells]
          ·have hc1:cap≠0:=by
            rintro rfl
            simp_all
           grind
         have CK:Nat.min Ci len=min Ci len:=rfl;simp only[Nat.min_def]at hfc ⊢;simp[Builtin.copy_,run_underlying ht,Builtin.lenOf,zaJ hs,CK,Nat.min_def,hfc,yI,goInt]
      grind
     grind
    grind
   grind
  grind
 grind
theorem zlY{id:Nat}{b':Blk}{pl:Pl}{o:Obj}{v:Value}{c:Cl}{M':Mem}(hn:zg M id b'=some M')(hag:zM σ w)(hm:MR own σ j M w)(hown:∀b,w.heap.size<=b->own b)(hg0:b'.gen=0)(hno:∀C T f,o≠.cells C T f)
  (hat:pl.at=some w.heap.size) (hbr:BR σ (j.put id 0 pl) b' pl (w.alloc o)) (hv:VC σ (j.put id 0 pl) c v) (h0:∀L,pl≠.loc L:=by intro L e;cases e):za0 own σ j M w (.w (.c c)) M' (.ok v (w.alloc o)):=by
 obtain⟨Bc,hlt,rfl⟩:=za1 hn;have hold:∀k,k<w.heap.size->(w.alloc o).heap[k]?=w.heap[k]?:=fun k hk=>by
  show(w.heap.push o)[k]?=_
  grind
 obtain⟨vg,hm'⟩:=hm.renew (w':=w.alloc o) (id:=id) (b':=b') (pl':=pl) hlt (fun b hb=>by grind)
  (fun k b q _ hb hq=>by
   have:=hm.uh hb hq
   grind) (by grind) (fun k e=>by grind) (fun _ L e=>absurd e (h0 L))
 rw[hg0]at vg hm';refine⟨v,_,σ,_,rfl,hv,hag.AS (fun b o v hv=>hold b (hag.lt hv)),hm',zP.le_refl _,fun id' g pl' _ h=>Inj.Aq vg id' g pl' h,by grind,fun k hk _=>hold k hk,fun _ _ _ h=>.inl h,fun id' b hid hb=>⟨b,?_,jm _,fun _=>⟨rfl,fun q hq=>hold q (hm.uh hb hq)⟩⟩,zd9.C5 hno⟩
 grind
theorem zwG{t:TypeId}{id:Nat}{g:Bool}{av:AV}{M':Mem}{fp:FP}{xs:List WV}(h:zi2 M id (.mk g) xs=some (av,M',fp))(hag:zM σ w)(hm:MR own σ j M w)(hown:∀b,w.heap.size<=b->own b) :
  za0 own σ j M w av M' ((Instr.makeMap t none).run P w):=by
 cases xs with
 |cons x xs=>cases h
 |nil =>
  simp only[zi2,ja,jt]at h;obtain⟨M1,hn,rfl,rfl,rfl⟩:=h;have:=zlY (o:=.map #[] 0) (pl:=.mp w.heap.size g) (v:=.map (some w.heap.size)) (c:=.map id g) hn hag hm hown rfl (by grind) rfl
   (⟨rfl,#[],0,[],by show(w.heap.push _)[w.heap.size]?=_;simp,rfl,rfl,fun i row e hr=>by grind⟩:MB σ _ _ _ g _) (.map _ _ _ _ (Inj.ve _ _ _ _))
  simp_all [Instr.makeMap]
theorem zwx{t:TypeId}{id:Nat}{g:Bool}{av:AV}{M':Mem}{fp:FP}{xs:List WV}{vm:Value}(ht:zpP P t=some g)(h:zi2 M id .range xs=some (av,M',fp))(hr:zac σ j xs [vm])(hag:zM σ w)(hm:MR own σ j M w)(hown:∀b,w.heap.size<=b->own b) :
  za0 own σ j M w av M' ((Instr.range t vm).run P w):=by
 obtain⟨kt,e,kk,hu,hk,hg⟩:=zmF ht;obtain⟨x,rfl,hx⟩:=zac.one hr;unfold zi2 at h;split at h<;>rename_i e1<;>first |(cases e1;done) |skip
 ·cases e1;cases hx;simp only[ja,jt]at h;obtain⟨M1,hn,rfl,rfl,rfl⟩:=h;have:=zlY (o:=.mapIter none 0 #[] 0) (pl:=.mi w.heap.size) (v:=.pointer (some ⟨w.heap.size,0,none⟩)) (c:=.mit id) hn hag hm hown rfl (by grind) rfl
   (⟨rfl,.inl ⟨by show(w.heap.push _)[w.heap.size]?=_;simp,rfl⟩⟩:IB σ _ _ _ _) (.mit _ _ _ (Inj.ve _ _ _ _))
  simp_all [Instr.range,run_underlying]
 ·cases e1;rename_i m g' _;split at h
  ·rename_i b c R hat;obtain⟨l,clock,es,rfl,hj,hb,hl,rfl,hR,hmb⟩:=zfY hm hat hx;simp only[ja,jt]at h;obtain⟨M1,hn,rfl,rfl,rfl⟩:=h;have vg:j id 0=none:=by
    obtain⟨Bc,hlt,_⟩:=za1 hn;cases h0:j id 0 with
    |none=>rfl
    |some pl=>obtain⟨b,hb,_⟩:=hm.dom _ _ _ h0;grind
   have hj0:j m 0=some (.mp l g'):=by cases hx with |map _ _ _ _ h=>grind
   have:=zlY (o:=.mapIter (some l) clock #[] clock) (pl:=.mi w.heap.size) (v:=.pointer (some ⟨w.heap.size,0,none⟩)) (c:=.mit id) hn hag hm hown rfl (by grind) rfl
    (⟨rfl,.inr ⟨m,g',l,clock,clock,Inj.Aq vg _ _ _ hj0,.inl ⟨by show(w.heap.push _)[w.heap.size]?=_;simp,rfl⟩⟩⟩:IB σ _ _ _ _) (.mit _ _ _ (Inj.ve _ _ _ _))
   simpa [Instr.range,run_underlying hu,zda hl]using this
  grind
 grind
theorem ztb:∀(vs:List Value) (k:Nat) (C:Array Value),k+vs.length<=C.size->(∀v∈vs,v.cells = #[v]) ->
  ∃C',Instr.fill (fun i=>some (i*1,1)) C ((vs.zipIdx k).map fun x=>(x.2,x.1))=some C'/\C'.size=C.size/\∀i,C'[i]?=if k<=i/\i<k+vs.length then vs[i-k]? else C[i]?
 |[],k,C,_,_=>⟨C,rfl,rfl,fun i=>by grind⟩
 |v::vs,k,C,hk,hv=>by
  obtain⟨C',q1,q2,q3⟩:=ztb vs (k+1) (C.setIfInBounds k v) (by grind) (fun x hx=>hv x (jI _ hx))
  grind [List.zipIdx_cons,Instr.fill]
theorem zyD{t e len id:Nat}{parts:Array (Nat×Value)}{vs:List Value}{xs:List WV}{av:AV}{M':Mem}{fp:FP}(ht:P.underlying t=some (.slice e))(hs:zbL P e=some 1)(hf:zAk P e=true)(hpo:parts.toList=(vs.zipIdx 0).map fun x=>(x.2,x.1))(hlen:vs.length=len)(hl:len<=1000)
  (h:zi2 M id .C8 xs=some (av,M',fp)) (hr:zac σ j xs vs) (hag:zM σ w) (hm:MR own σ j M w) (hown:∀b,w.heap.size<=b->own b) {zv:Value} (hz:(zeroValue e).run P w=.ok zv w) :
  za0 own σ j M w av M' ((Instr.buildSlice t len parts).run P w):=by
 simp only[zi2]at h;split at h
 ·rename_i hc;obtain⟨hok,uO⟩:=hc;simp only[ja,jt]at h;obtain⟨M1,hn,rfl,rfl,rfl⟩:=h;have hxl:xs.length=len:=by rw[hr.1,hlen]
  have A8:∀v∈vs,v.cells = #[v]:=by
   intro v hv;obtain⟨n,hn'⟩:=jW hv;have hnx:n<xs.length:=by rw[hr.1];exact zC hn'
   have hx:=hr.2 n _ v (jr hnx) hn';have hk:=jz.1 hok _ (jf hnx);generalize xs[n]=x at hx hk;cases x with
   |c x=>exact VC.one hx
   |a cs=>grind [okW]
  obtain⟨C,q1,q2,q3⟩:=ztb vs 0 ((Array.range (len*1)).map fun i=>zv.cells[i % zv.cells.size]!) (by grind) A8;have hC:C=vs.toArray:=by
   grind
  obtain⟨Bc,hlt,rfl⟩:=za1 hn;have hrow:∀(i:Nat) (row:List Cl) (n:Nat) (cl:Cl),(xs.map WV.cells)[i]?=some row->row[n]?=some cl->row.length=1/\n=0/\∃v,vs[i]?=some v/\VC σ j cl v:=by
   intro i row n cl hi hn';simp only[kF,ja]at hi;obtain⟨x,hx,rfl⟩:=hi;have hil:i<vs.length:=by grind
   have hxv:=hr.2 i x _ hx (jr hil);have hk:=jz.1 hok _ (zat hx);cases x with
   |a cs=>grind [okW]
   |c x =>
    cases n with
    |zero=>simp[WV.cells]at hn';subst hn';exact⟨rfl,rfl,_,jr hil,hxv⟩
    |succ n=>grind [WV.cells]
  obtain⟨_,yR,hm',hst⟩:=zmH (b':={ box:=true,esz:=1,rows:=xs.map WV.cells,gen:=xs.length,fz:=false,ver:=xs.length }) (C:=vs.toArray) (T:=e) (w':=w.alloc (.cells vs.toArray e (0,0))) hm hag hown hlt
   (fun b hb=>by grind) rfl (zd9.AR rfl rfl rfl) (show 0<1 by simp) (fun row hrw=>by
    obtain⟨x,hx,rfl⟩:=jZ.1 hrw;have hk:=jz.1 hok _ hx;cases x with
    |c x=>rfl
    |a cs=>grind [okW]) (by grind) (fun i row n cl hi hn'=>by
    grind)
  refine⟨.slice (some ⟨w.heap.size,0,none⟩) len len,_,σ,_,?_,?_,yR,hm',hst⟩
  ·have hne:len≠0:=by omega
   simp only[Instr.buildSlice,Sem.run_bind,run_underlying ht,Result.andThen_ok,zaJ hs];rw[if_neg (by omega)];simp only[show ¬(len*1=0) by omega,if_false,Sem.run_bind,hz,Result.andThen_ok,Sem.run_pure];rw[hpo,q1,hC];simp[newRow]
  ·have:=VC.slice (σ:=σ) (j.put id xs.length (.loc ⟨w.heap.size,0,1,vs.toArray.size⟩)) id xs.length 1 0 xs.length none _ (some ⟨w.heap.size,0,none⟩) len (Inj.ve _ _ _ _) (by omega) (by grind)
    (fun _=>⟨_,rfl,rfl,by simp,by grind⟩)
   show VC _ _ _ _
   grind
 grind
end
end Go.Eng
namespace Go.Eng
open Go
variable[zb0]
section
variable{own:Nat->Prop}{σ:zP}{j:Inj}{M:Mem}{w:World}{E:Nat->Option AV}{a:Act}{P:Program}{cf:za4}
theorem zr0{z:Array Value}{n esz:Nat}(hz:z.size=esz)(uO:0<esz){i k:Nat}(hi:i<n)(hk:k<esz):(Builtin.zeroCells z n)[i*esz+k]?=z[k]?:=by
 have hrow:=zjf (esz:=esz) hi;have hmod:(i*esz+k) % z.size=k:=by grind [Nat.add_comm,Nat.add_mul_mod_self_right,Nat.mod_eq_of_lt]
 grind [Builtin.zeroCells]
theorem zw7{t ty e:TypeId}{z:List Cl}{x:Cl}{av:AV}{M':Mem}{fp:FP}(ht:P.underlying t=some (.slice e))(hz:zhL P e=some z)(h:zgI M z x=some (av,M',fp))(hag:zM σ w)(hm:MR own σ j M w){vx:Value} :
  VC σ j x vx->za0 own σ j M w av M' ((Builtin.clear_ #[t] ty #[vx]).run P w):=by
 unfold zgI at h;split at h
 ·cases h;intro hx;cases hx;exact za0.same (v:=.tuple #[]) (by simp[Builtin.clear_,run_underlying ht]) ⟨#[],rfl,zac.nil⟩ hag hm
 ·rename_i id g es off len cap;split at h
  ·rename_i h0;subst h0;cases h;intro hx;cases hx with
   |slice _ _ _ _ _ _ _ pl ad c hj hl yK ha =>
    exact za0.same (v:=.tuple #[]) (by cases ad<;>simp[Builtin.clear_,run_underlying ht]) ⟨#[],rfl,zac.nil⟩ hag hm
  ·rename_i h0;split at h
   ·rename_i b hb0;obtain⟨hbk,Bi⟩:=zaz hb0;subst Bi;split at h
    ·rename_i hc;simp only[jl,qs,decide_eq_true_eq]at hc;obtain⟨⟨⟨⟨vt,hfz⟩,AW⟩,hzn⟩,hzi⟩:=hc;cases h;intro hx;cases hx with
     |slice _ _ _ _ _ _ _ pl ad c hj hl yK ha =>
      obtain⟨L,rfl,_,rfl,hf2⟩:=ha (by omega);obtain⟨i,zv,hi,hzv,hzc⟩:=zew hz;have hzr:VCs σ zb1 z zv.cells.toList:=(zdu (σ:=σ) (j:=j) hzc).yO hzi;have hzs:zv.cells.size=b.esz:=by rw[<-hzn];simpa using hzr.1.symm
      obtain⟨pl',ya,hbr,hown⟩:=hm.blk id b hbk;rw[hj]at ya;cases ya;have hbr:BL σ j b L w:=hbr;obtain⟨C,T,fr,hC,hfr,hsz,hrow⟩:=hbr.heap;have hf0:fr=(0,0):=by
       by_cases h:fr=(0,0)
       ·exact h
       ·rw[(hfr h).1]at hfz;cases hfz
      subst hf0;have hes:=hbr.esz;have BY:=hbr.fit;have uO:=hbr.pos;generalize hvs:(Builtin.zeroCells zv.cells len).toList=vs;have hvl:vs.length=len*b.esz:=by rw[<-hvs];simp[size_zeroCells,hzs]
      have hvget:∀i k,i<len->k<b.esz->∀cl,z[k]?=some cl->∃v,vs[i*b.esz+k]?=some v/\VC σ zb1 cl v:=by
       intro i k hi hk cl hcl;obtain⟨v,hv,hvc⟩:=hzr.get hcl
       grind [zr0]
      have Dv:∀v∈vs,v.oneCell'=true:=by
       intro v hv;obtain⟨k,hk⟩:=jW hv;have hkl:=zC hk;have hi':k / b.esz<len:=(yu uO).2 (by omega);have hn':k % b.esz<z.length:=by rw[hzn];exact ug _ uO
       obtain⟨v',hv',hvc⟩:=hvget (k / b.esz) (k % b.esz) hi' (ug _ uO) _ (jr hn');have e1:k / b.esz*b.esz+k % b.esz=k:=by rw[uj];exact vO k b.esz
       rw[e1,hk]at hv';cases hv';exact hvc.B8
      have hm1:(off+len)*b.esz=off*b.esz+len*b.esz:=qf _ _ _;have hm2:(off+len)*b.esz<=b.rows.length*b.esz:=kj _ AW;have ku:L.off+off*L.esz+vs.length<=C.size:=by grind
      have hst:=run_storeCells_at P L.blk (L.off+off*L.esz) T vs 0 C w hC (by omega) Dv;simp only[qY]at hst;generalize hC':(C.toList.take (L.off+off*L.esz)++vs++C.toList.drop (L.off+off*L.esz+vs.length)).toArray=C' at hst;have BH:C'.size=C.size:=by grind
      have vU:∀p,C'[p]?=if p<L.off+off*L.esz then C[p]? else if p<L.off+off*L.esz+vs.length then vs[p-(L.off+off*L.esz)]? else C[p]?:=by
       intro p;rw[<-hC',uu,zdb _ _ _ (by grind)];simp
      have yF:(w.setRow L.blk C').heap[L.blk]?=some (.cells C' T (0,0)):=setRow_heap w _ C C' T _ hC;generalize A6:b.rows.take off++List.replicate len z++b.rows.drop (off+len)=vH;have hrl:vH.length=b.rows.length:=by grind
      have AI:∀i,vH[i]?=if i<off then b.rows[i]? else if i<off+len then some z else b.rows[i]?:=by
       intro i;have:=zdb b.rows (List.replicate len z) off (by simp;omega) i;simp only[uY]at this;rw[<-A6,this];split
       ·rfl
       ·split
        ·rw[v6,if_pos (by omega)]
        ·rfl
      refine⟨.tuple #[],w.setRow L.blk C',σ,j,?_,⟨#[],rfl,zac.nil⟩,?_,?_,?_⟩
      ·have:len≠0:=h0;simp only[Builtin.clear_,Sem.run_bind,run_underlying ht,Result.andThen_ok,uu,v7];cases len with
       |zero=>exact absurd rfl h0
       |succ m=>simp[zcJ hi hzv,hvs,hst]
      ·refine⟨?_,hag.kY⟩;intro b' o v hv';have hold:=hag.cells b' o v hv';by_cases hbb:b'=L.blk
       ·subst hbb;have hlo:o<L.off:=by
         rcases qr o L.off with h|h
         ·grind
         ·have:=hbr.A0 o h (fun hh=>by grind)
          grind
        simp only[World.cell?,hC,kG,jE,if_false]at hold;simp only[World.cell?,yF,kG,jE,if_false]
        grind
       grind [World.cell?,setRow_other]
      ·refine hm.write hbk hj rfl (fun k' hk'=>setRow_other w _ _ _ hk') ?_;refine⟨hes,uO,fun r hr'=>?_,by grind,⟨C',T,(0,0),yF,fun h=>absurd rfl h,by grind,fun i' r n cl hi' hn=>?_⟩,fun o h1 h2=>hbr.A0 o h1 (fun h=>by grind)⟩
       ·obtain⟨q,hq⟩:=jW hr';rw[AI]at hq;split at hq
        ·exact hbr.len r (zat hq)
        ·split at hq
         ·cases hq;exact hzn
         ·exact hbr.len r (zat hq)
       ·simp only at hi' ⊢;simp only[vt,jE,if_false];have hnl:=zC hn;rw[AI]at hi';rw[vU];by_cases h1:i'<off
        ·rw[if_pos h1]at hi';obtain⟨v,hv1,hv2⟩:=hrow i' r n cl hi' hn;rw[if_neg (by simp[vt])]at hv2;have:=zjf (esz:=b.esz) h1;have:=hbr.len r (zat hi');exact⟨v,by rw[if_pos (by rw[hes];omega)];exact hv1,hv2⟩
        ·rw[if_neg h1]at hi';by_cases h2:i'<off+len
         ·rw[if_pos h2]at hi';cases hi';obtain⟨v,hv1,hv2⟩:=hvget (i'-off) n (by omega) (by omega) cl hn;have e1:i'*b.esz=off*b.esz+(i'-off)*b.esz:=by rw[<-qf];congr 1;omega
          have:=zjf (esz:=b.esz) (show i'-off<len by omega);refine⟨v,?_,hv2⟩;rw[if_neg (by rw[e1,hes];omega),if_pos (by rw[e1,hes,hvl];omega),<-hv1]
          congr 1
          rw[e1,hes];omega
         ·rw[if_neg h2]at hi';obtain⟨v,hv1,hv2⟩:=hrow i' r n cl hi' hn;rw[if_neg (by simp[vt])]at hv2;have e1:(off+len)*b.esz<=i'*b.esz:=kj _ (by omega);refine⟨v,?_,hv2⟩;rw[if_neg (by rw[hes];omega),if_neg (by rw[hes,hvl];omega)];exact hv1
      ·refine⟨zP.le_refl _,fun _ _ _ _ h=>h,by simp[World.setRow],fun b' hb' ho=>?_,fun _ _ _ h=>.inl h,fun id' b' hid hb'=>?_,zd9.setRow _ _ _⟩
       ·exact setRow_other w _ _ _ (fun e=>ho (e ▸ hown L rfl))
       ·by_cases yw:id=id'
        ·subst yw;rw[hbk]at hb';cases hb';exact⟨_,by simp[hid];rfl,by simp,fun h=>by simp at h⟩
        ·refine⟨b',by rw[jD yw];exact hb',jm _,fun _=>⟨rfl,fun L' hL'=>?_⟩⟩;exact setRow_other w _ _ _ (fun e=>yw (hm.vo id id' b b' L' hbk hb' (by rw[e];exact Inj.uQ hj) hL'))
    grind
   grind
 grind
def CO.CE:CO->Bool
 |.call ..=>true
 |_=>false
def zaa(own:Nat->Prop)(σ:zP)(j:Inj)(M:Mem)(w:World)(av:AV)(M':Mem)(r:Result Next):Prop :=
 (∃v w' σ' j',r=.ok (.value v) w'/\AVR σ' j' av v/\zM σ' w'/\MR own σ' j' M' w'/\za2 own M.length σ j M w σ' j' M' w') \/
 (av=.u/\∃w' σ',r=.ok .skip w'/\zM σ' w'/\MR own σ' j M' w'/\za2 own M.length σ j M w σ' j M' w')
theorem zaa.kX{av:AV}{M':Mem}{s:Sem Value}(h:za0 own σ j M w av M' (s.run P w)):zaa own σ j M w av M' ((do pure (.value (<-s)):Sem Next).run P w):=by
 obtain⟨v,w',σ',j',h1,h2⟩:=h;exact .inl ⟨v,w',σ',j',by simp[h1],h2⟩
theorem zaa.vN{o:Option Cl}{av:AV}{M':Mem}{fp:FP}{s:Sem Value}(h:zhN o M=some (av,M',fp))(hv:∀c,o=some c->∃v,s.run P w=.ok v w/\VC σ j c v)(hag:zM σ w)(hm:MR own σ j M w) :
  zaa own σ j M w av M' ((do pure (.value (<-s)):Sem Next).run P w):=by
 simp only[zhN,ja]at h;obtain⟨c,hc,he⟩:=h;cases he;obtain⟨v,h1,h2⟩:=hv c hc;exact zaa.kX (za0.same h1 h2 hag hm)
theorem zqL{o:Option Cl}{av:AV}{M':Mem}{fp:FP}(h:zhN o M=some (av,M',fp)):∃c,o=some c/\av=.w (.c c)/\M'=M/\fp=.no:=by
 grind [zhN,Option.map_eq_some_iff]
theorem AVR.agg{cs:List Cl}{arr:Array Value}(h:VCs σ j cs arr.toList):AVR σ j (.w (.a cs)) (.agg arr):=⟨arr,rfl,h⟩
theorem AVR.ofW{x:WV}{v:Value}(h:WVR σ j x v):AVR σ j (.w x) v:=h
theorem AVR.cell{c:Cl}{v:Value}(h:VC σ j c v):AVR σ j (.w (.c c)) v:=h
theorem zwD{id esz:Nat}{M':Mem}(h:zg M id { box:=false,esz,rows:=[],gen:=0,fz:=false,ver:=0 }=some M')(hag:zM σ w)(hm:MR own σ j M w) :
  za0 own σ j M w (.w (.c (.slice id 0 esz 0 0 none))) M' (.ok (.slice none 0 0) w):=by
 obtain⟨Bc,hlt,rfl⟩:=za1 h;obtain⟨vg,hm'⟩:=hm.renew (w':=w) (b':={ box:=false,esz,rows:=[],gen:=0,fz:=false,ver:=0 }) (pl':=.empty) hlt (fun b hb=>by grind)
  (fun k b L _ hb hL=>⟨rfl,fun e=>by cases e⟩) ⟨rfl,rfl⟩ (fun L e=>by cases e)
 refine⟨.slice none 0 0,w,σ,_,rfl,?_,hag,hm',?_⟩
 ·exact VC.slice _ id 0 esz 0 0 none _ none 0 (Inj.ve _ _ _ _) (jm _) (by simp) (fun h=>absurd rfl h)
 ·refine⟨zP.le_refl _,fun id' g pl _ h=>Inj.Aq vg id' g pl h,jm _,fun _ _ _=>rfl,fun _ _ _ h=>.inl h,fun id' b hid hb=>⟨b,?_,jm _,fun _=>⟨rfl,fun _ _=>rfl⟩⟩,zd9.refl _⟩
  grind
theorem zt4{x:Operand}(h:zmI x=true):a.eval x=.slice none 0 0:=by
 unfold zmI at h;split at h
 ·rfl
 grind
theorem zxx{q:Nat}{o:Oper}{co:CO}{n0:Nat}{av:AV}{M':Mem}{fp:FP}{x:Operand}(hco:(if zmI x then match P.underlying o.type with
   |some (.slice e)=>(zbL P e).map (.kA q)
   |_=>(za5 x).map .mv
  else(za5 x).map .mv)=some co) (hop:opF cf n0 E M co=some (av,M',fp))
  (hE:zcs σ j E a.tmps) (hag:zM σ w) (hm:MR own σ j M w):zaa own σ j M w av M' (.ok (.value (a.eval x)) w):=by
 have plain:(za5 x).map .mv=some co->zaa own σ j M w av M' (.ok (.value (a.eval x)) w):=by
  intro hco;simp only[ja]at hco;obtain⟨x',hx,rfl⟩:=hco;simp only[opF]at hop;split at hop
  ·rename_i v hv;cases hop;exact .inl ⟨_,w,σ,j,rfl,ztM hag.kY hE hx hv,hag,hm,za2.refl⟩
  grind
 split at hco
 ·rename_i As;split at hco
  ·simp only[ja]at hco;obtain⟨n,hn,rfl⟩:=hco;simp only[opF,ja,jt]at hop;obtain⟨M1,h1,rfl,rfl,rfl⟩:=hop;obtain⟨v,w',σ',j',e,r⟩:=zwD h1 hag hm;cases e;rw[zt4 As];exact .inl ⟨_,_,σ',j',rfl,r⟩
  grind
 grind
theorem zBv{q:Nat}{m:zbz}{o:Oper}{co:CO}{n0:Nat}{av:AV}{M':Mem}{fp:FP}{x:Operand}(ho:o.op=.move x)(hco:zA P q m o=some co)(hop:opF cf n0 E M co=some (av,M',fp))
  (hE:zcs σ j E a.tmps) (hag:zM σ w) (hm:MR own σ j M w) (hown:∀b,w.heap.size<=b->own b):zaa own σ j M w av M' ((execOp a.eval o).run P w):=by
 simp only[zA,ho]at hco;have:=zxx hco hop hE hag hm
 simp_all [execOp]
theorem zyp{q:Nat}{m:zbz}{o:Oper}{co:CO}{n0:Nat}{av:AV}{M':Mem}{fp:FP}{x:Operand}(ho:o.op=.assign x)(hco:zA P q m o=some co)(hop:opF cf n0 E M co=some (av,M',fp))
  (hE:zcs σ j E a.tmps) (hag:zM σ w) (hm:MR own σ j M w) (hown:∀b,w.heap.size<=b->own b):zaa own σ j M w av M' ((execOp a.eval o).run P w):=by
 simp only[zA,ho]at hco;have:=zxx hco hop hE hag hm
 simp_all [execOp]
theorem zBt{q:Nat}{m:zbz}{o:Oper}{co:CO}{n0:Nat}{av:AV}{M':Mem}{fp:FP}{c x y:Operand}(ho:o.op=.pick c x y)(hco:zA P q m o=some co)(hop:opF cf n0 E M co=some (av,M',fp))
  (hE:zcs σ j E a.tmps) (hag:zM σ w) (hm:MR own σ j M w) (hown:∀b,w.heap.size<=b->own b):zaa own σ j M w av M' ((execOp a.eval o).run P w):=by
 simp only[zA,ho]at hco;split at hco
 ·rename_i c' x' y' hc hx hy;cases hco;simp only[opF]at hop;split at hop
  ·rename_i t ht;split at hop
   ·cases hop;have hcv:a.eval c=.bool t:=zmx (zWl hag.kY hE hc ht);refine .inl ⟨if t then a.eval x else a.eval y,w,σ,j,?_,?_,hag,hm,za2.refl⟩
    ·simp_all [execOp,asBool]
    ·cases t with
     |true=>exact zWl hag.kY hE hx (by grind)
     |false=>exact zWl hag.kY hE hy (by grind)
   grind
  grind
 grind
theorem zzV{q:Nat}{m:zbz}{o:Oper}{co:CO}{n0:Nat}{av:AV}{M':Mem}{fp:FP}{t:TypeId}(ho:o.op=.alloc t)(hco:zA P q m o=some co)(hop:opF cf n0 E M co=some (av,M',fp))
  (hE:zcs σ j E a.tmps) (hag:zM σ w) (hm:MR own σ j M w) (hown:∀b,w.heap.size<=b->own b):zaa own σ j M w av M' ((execOp a.eval o).run P w):=by
 simp only[zA,ho]at hco;split at hco
 ·rename_i zs hz;cases hco;simp only[opF,Opd.ev]at hop;split at hop
  ·rename_i hc;simp only[jl,decide_eq_true_eq]at hc;simp only[ja]at hop;obtain⟨M1,hM1,he⟩:=hop;obtain⟨i,zv,hi,hzv,hzc⟩:=zew hz;have:=zaa.kX (zvD (P:=P) (t:=t) (vx:=zv) (zdu hzc) rfl hc.2 hM1 hag hm hown)
   simp_all [execOp,Instr.alloc,zcJ]
  grind
 grind
theorem zCz{q:Nat}{m:zbz}{o:Oper}{co:CO}{n0:Nat}{av:AV}{M':Mem}{fp:FP}{t:TypeId}{x:Operand}(ho:o.op=.box t x)(hco:zA P q m o=some co)(hop:opF cf n0 E M co=some (av,M',fp))
  (hE:zcs σ j E a.tmps) (hag:zM σ w) (hm:MR own σ j M w) (hown:∀b,w.heap.size<=b->own b):zaa own σ j M w av M' ((execOp a.eval o).run P w):=by
 simp only[zA,ho]at hco;split at hco
 ·rename_i x' n hx hn;cases hco;simp only[opF]at hop;split at hop
  ·rename_i v hv;split at hop
   ·rename_i hc;simp only[jl,decide_eq_true_eq]at hc;simp only[ja]at hop;obtain⟨M1,hM1,he⟩:=hop;have:=zaa.kX (zvD (P:=P) (t:=t) (vx:=a.eval x) (zWl hag.kY hE hx hv).cells hc.1 hc.2 hM1 hag hm hown)
    grind [execOp,Instr.box]
   grind
  grind
 grind
theorem zzT{q:Nat}{m:zbz}{o:Oper}{co:CO}{n0:Nat}{av:AV}{M':Mem}{fp:FP}{t:TypeId}{parts:Array (Nat×Operand)}(ho:o.op=.build t parts)(hco:zA P q m o=some co)(hop:opF cf n0 E M co=some (av,M',fp))
  (hE:zcs σ j E a.tmps) (hag:zM σ w) (hm:MR own σ j M w) (hown:∀b,w.heap.size<=b->own b):zaa own σ j M w av M' ((execOp a.eval o).run P w):=by
 simp only[zA,ho]at hco;split at hco
 ·rename_i fs z ht hz;split at hco
  ·rename_i ps hps;simp only[ja]at hco;obtain⟨cps,hp,rfl⟩:=hco;simp only[opF,ja]at hop;obtain⟨cs,hcs,he⟩:=hop;obtain⟨arr,h1,h2⟩:=zoj (w:=w) hag.kY hE ht hz hps hp hcs
   grind [zaa.kX,za0.same,AVR.agg,execOp]
  grind
 ·rename_i len e z ht hz;split at hco
  ·rename_i n hn;simp only[ja]at hco;obtain⟨cps,hp,rfl⟩:=hco;simp only[opF,ja]at hop;obtain⟨cs,hcs,he⟩:=hop;obtain⟨arr,h1,h2⟩:=zo5 (w:=w) hag.kY hE ht hz hn hp hcs
   grind [zaa.kX,za0.same,AVR.agg,execOp]
  grind
 grind
theorem ZlF{q:Nat}{o:Oper}{co:CO}{n0:Nat}{av:AV}{M':Mem}{fp:FP}{t:TypeId}{len:Nat}{parts:Array (Nat×Operand)}(ho:o.op=.buildSlice t len parts)(hco:cSl P q t len parts=some co)(hop:opF cf n0 E M co=some (av,M',fp))
  (hE:zcs σ j E a.tmps) (hag:zM σ w) (hm:MR own σ j M w) (hown:∀b,w.heap.size<=b->own b):zaa own σ j M w av M' ((execOp a.eval o).run P w):=by
 unfold cSl at hco;split at hco
 ·rename_i e ht;split at hco
  ·split at hco
   ·rename_i hc;obtain⟨hix,hs1,hl,hzs⟩:=hc;simp only[ja]at hco;obtain⟨xs,hxs,rfl⟩:=hco;simp only[opF]at hop;split at hop
    ·rename_i vs hvs;have hr:=zbr hag.kY hE hxs hvs;have hlen:parts.toList.length=len:=by have:=congrArg List.length hix;grind
     have hpo:(parts.map fun(x:Nat×Operand)=>(x.1,a.eval x.2)).toList=(((parts.toList.map (·.2)).map a.eval).zipIdx 0).map fun x=>(x.2,x.1):=by
      apply uf;intro i;have hi:(parts.toList.map (·.1))[i]?=(List.range len)[i]?:=by grind
      simp only[Array.toList_map,kF,List.getElem?_zipIdx,Option.map_map]at hi ⊢;by_cases hil:i<parts.toList.length
      ·rw[jr hil]at hi ⊢;rw[List.getElem?_range (by omega)]at hi;simp at hi ⊢;exact hi
      ·rw[qE (by omega)];rfl
     have hz:∃zv,(zeroValue e).run P w=.ok zv w:=by
      obtain⟨zs,hzs⟩:=Option.isSome_iff_exists.1 hzs;obtain⟨i,zv,hi,hzv,_⟩:=zew hzs
      simp_all [zcJ]
     grind [zaa.kX,zyD,execOp]
    grind
   grind
  grind [opF,Option.map_eq_some_iff,zaa.kX,zz3,execOp]
 grind
theorem ZlC{m:zbz}{r:Option CO}{co:CO}(h:Zlx m r=some co):r=some co\/∃q y n,r=some (.lit q 1 [[y]] [(0,.k (.c (.int .i64 n)))])/\co=.Ac (.Cb n) q []:=by
 unfold Zlx at h
 grind
theorem zr7{q:Nat}{m:zbz}{o:Oper}{co:CO}{n0:Nat}{av:AV}{M':Mem}{fp:FP}{t:TypeId}{len:Nat}{parts:Array (Nat×Operand)}(ho:o.op=.buildSlice t len parts)(hco:zA P q m o=some co)(hop:opF cf n0 E M co=some (av,M',fp))
  (hE:zcs σ j E a.tmps) (hag:zM σ w) (hm:MR own σ j M w) (hown:∀b,w.heap.size<=b->own b):zaa own σ j M w av M' ((execOp a.eval o).run P w):=by
 simp only[zA,ho]at hco;rcases ZlC hco with h |⟨q',y,n,h,rfl⟩
 ·grind [ZlF]
 ·simp only[opF,evs,zi2,ja,jt]at hop;obtain⟨M1,h1,rfl,rfl,rfl⟩:=hop;obtain⟨p1,p2,rfl⟩:=za1 h1;have hlit:opF cf n0 E M (.lit q' 1 [[y]] [(0,.k (.c (.int .i64 n)))])=some (.w (.c (.slice (n0+q') 1 1 0 1 none)),M.set (n0+q') (some { box:=false,esz:=1,rows:=[[.int .i64 n]],gen:=1,fz:=false,ver:=1 }),.no):=by
   simp[opF,zdS,zcf,Opd.ev,yL,zdR,WV.cells,WV.sls,slC,zcl,zbg,zg,p1]
  rcases ZlF (cf:=cf) ho h hlit hE hag hm hown with⟨v,w',σ',j',r1,r2,r3,r4,r5⟩ |⟨r1,_⟩
  ·obtain⟨σ1,q1,q2,q3,q4,q5⟩:=zhe [n0+q'] r4 r3;have hv:VC σ' j' (.slice (n0+q') 1 1 0 1 none) v:=r2;have hz:=zq9 r4 q1 q2 (c:=.slice (n0+q') 1 1 0 1 none) (c':=.jb [[.int .i64 n]]) (fun id hid=>q5 id hid) (by grind [zdR,look]) hv;have e:zbg (M.set (n0+q') (some { box:=false,esz:=1,rows:=[[.int .i64 n]],gen:=1,fz:=false,ver:=1 })) [n0+q']=M.set (n0+q') (some { box:=false,esz:=1,rows:=[[.int .i64 n]],gen:=1,fz:=true,ver:=2 }):=by
    simp[zbg,zX,p2]
   rw[e]at q3 q4;rw[Ay]at q4;exact .inl ⟨v,w',σ1,j',r1,hz,q2,q3,r5.trans q4⟩
  grind
theorem zBx{q:Nat}{m:zbz}{o:Oper}{co:CO}{n0:Nat}{av:AV}{M':Mem}{fp:FP}{t:TypeId}{p:Operand}(ho:o.op=.load t p)(hco:zA P q m o=some co)(hop:opF cf n0 E M co=some (av,M',fp))
  (hE:zcs σ j E a.tmps) (hag:zM σ w) (hm:MR own σ j M w) (hown:∀b,w.heap.size<=b->own b):zaa own σ j M w av M' ((execOp a.eval o).run P w):=by
 simp only[zA,ho]at hco;split at hco
 ·rename_i p' g n hp hg hn;cases hco;simp only[opF]at hop;split at hop
  ·rename_i c hc;have:=zaa.kX (zyC hg hn hop (zWl hag.kY hE hp hc) hag hm)
   grind [execOp]
  grind
 grind
theorem zzM{q:Nat}{m:zbz}{o:Oper}{co:CO}{n0:Nat}{av:AV}{M':Mem}{fp:FP}{t:TypeId}{p v:Operand}(ho:o.op=.store t p v)(hco:zA P q m o=some co)(hop:opF cf n0 E M co=some (av,M',fp))
  (hE:zcs σ j E a.tmps) (hag:zM σ w) (hm:MR own σ j M w) (hown:∀b,w.heap.size<=b->own b):zaa own σ j M w av M' ((execOp a.eval o).run P w):=by
 simp only[zA,ho]at hco;split at hco
 ·rename_i p' v' n hp hv hn;cases hco;simp only[opF]at hop;split at hop
  ·rename_i c x hc hx;obtain⟨e,w',σ',h1,h2,h3,h4⟩:=zwc hn hop (zWl hag.kY hE hp hc) (zWl hag.kY hE hv hx) hag hm;exact .inr ⟨e,w',σ',by simp_all [execOp],h2,h3,h4⟩
  grind
 grind
theorem zuZ{q:Nat}{m:zbz}{o:Oper}{co:CO}{n0:Nat}{av:AV}{M':Mem}{fp:FP}{x:Operand}(ho:o.op=.nilCheck x)(hco:zA P q m o=some co)(hop:opF cf n0 E M co=some (av,M',fp))
  (hE:zcs σ j E a.tmps) (hag:zM σ w) (hm:MR own σ j M w) (hown:∀b,w.heap.size<=b->own b):zaa own σ j M w av M' ((execOp a.eval o).run P w):=by
 simp only[zA,ho]at hco;simp only[ja]at hco;obtain⟨x',hx,rfl⟩:=hco;simp only[opF]at hop;have hx1:∀c,x'.ev E=some (.c c)->∃v,a.eval x=v/\VC σ j c v:=fun c h=>⟨_,rfl,zWl hag.kY hE hx h⟩
 split at hop
 ·rename_i id g i k hv;cases hop;obtain⟨v,e,hr⟩:=hx1 _ hv;have hr2:=hr;cases hr;exact .inl ⟨_,w,σ,j,by simp_all [execOp],AVR.cell hr2,hag,hm,za2.refl⟩
 ·rename_i id g hv;cases hop;obtain⟨v,e,hr⟩:=hx1 _ hv;have hr2:=hr;cases hr;exact .inl ⟨_,w,σ,j,by simp_all [execOp],AVR.cell hr2,hag,hm,za2.refl⟩
 ·rename_i f fi ca hv;cases hop;obtain⟨v,e,hr⟩:=hx1 _ hv;have hr2:=hr;cases hr;exact .inl ⟨_,w,σ,j,by simp_all [execOp],AVR.cell hr2,hag,hm,za2.refl⟩
 grind
theorem zzU{q:Nat}{m:zbz}{o:Oper}{co:CO}{n0:Nat}{av:AV}{M':Mem}{fp:FP}{op:BinOp}{t yt:TypeId}{x y:Operand}(ho:o.op=.binOp op t x y yt)(hco:zA P q m o=some co)(hop:opF cf n0 E M co=some (av,M',fp))
  (hE:zcs σ j E a.tmps) (hag:zM σ w) (hm:MR own σ j M w) (hown:∀b,w.heap.size<=b->own b):zaa own σ j M w av M' ((execOp a.eval o).run P w):=by
 simp only[zA,ho]at hco;split at hco
 ·rename_i x' y' hx hy;split at hco
  ·rename_i k ht;cases hco;simp only[opF]at hop;split at hop
   ·rename_i c d hc hd;have:=zaa.vN hop (fun r hr=>zAI (P:=P) (w:=w) (t:=t) (xo:=x) (yo:=y) hr (zWl hag.kY hE hx hc) (zWl hag.kY hE hy hd)) hag hm;simpa only[execOp,ho]using this
   grind
  ·rename_i ht;split at hco
   ·cases hco;simp only[opF]at hop;split at hop
    ·rename_i c d hc hd;have:=zaa.vN hop (fun r hr=>zvo (P:=P) (w:=w) (op:=.eql) (t:=t) (xo:=x) (yo:=y) ht (.inl ⟨rfl,rfl⟩) hr (zWl hag.kY hE hx hc) (zWl hag.kY hE hy hd)) hag hm;simpa only[execOp,ho]using this
    grind
   ·cases hco;simp only[opF]at hop;split at hop
    ·rename_i c d hc hd;have:=zaa.vN hop (fun r hr=>zvo (P:=P) (w:=w) (op:=.neq) (t:=t) (xo:=x) (yo:=y) ht (.inr ⟨rfl,rfl⟩) hr (zWl hag.kY hE hx hc) (zWl hag.kY hE hy hd)) hag hm;simpa only[execOp,ho]using this
    grind
   ·cases hco
  ·cases hco;simp only[opF]at hop;split at hop
   ·rename_i c d hc hd;split at hop
    ·rename_i r hr;cases hop;unfold p2F at hr;split at hr
     ·rename_i o1 a1 b1 e1;cases e1;simp only[ja]at hr;obtain⟨c1,hc1,rfl⟩:=hr;have hvx:=zWl hag.kY hE hx hc;have hvy:=zWl hag.kY hE hy hd;have hvx:VC σ j (.str a1) (a.eval x):=hvx;have hvy:VC σ j (.str b1) (a.eval y):=hvy;generalize hex:a.eval x=ex at hvx;generalize hey:a.eval y=ey at hvy;cases hvx;cases hvy;obtain⟨v,h1,h2⟩:=Dl (σ:=σ) (j:=j) (P:=P) (w:=w) (t:=t) (xo:=x) (yo:=y) hc1;have:=zaa.kX (za0.same h1 (AVR.cell h2) hag hm);simpa only[execOp,ho,hex,hey]using this
     ·grind
     grind
    grind
   grind
  ·rename_i e ht;split at hco
   ·rename_i As;have hyn:a.eval y=.pointer none:=by
     unfold zq1 at As;split at As
     ·rfl
     grind
    split at hco
    ·cases hco;simp only[opF]at hop;split at hop
     ·rename_i c hc;have:=zaa.vN hop (fun r hr=>zq0 (P:=P) (w:=w) (op:=.eql) (t:=t) (xo:=x) (yo:=y) ht (.inl ⟨rfl,rfl⟩) hr (zWl hag.kY hE hx hc)) hag hm;simpa only[execOp,ho,hyn]using this
     grind
    ·cases hco;simp only[opF]at hop;split at hop
     ·rename_i c hc;have:=zaa.vN hop (fun r hr=>zq0 (P:=P) (w:=w) (op:=.neq) (t:=t) (xo:=x) (yo:=y) ht (.inr ⟨rfl,rfl⟩) hr (zWl hag.kY hE hx hc)) hag hm;simpa only[execOp,ho,hyn]using this
     grind
    grind
   ·split at hco
    ·rename_i n hn;cases hco;simp only[opF]at hop;split at hop
     ·rename_i vs hvs;have hx2:zdB [x,y]=some [x',y']:=by simp[zdB,hx,hy]
      have:=zaa.kX (ZsD (P:=P) (xo:=x) (yo:=y) ht hn hop (zbr hag.kY hE hx2 hvs) hag hm);simpa only[execOp,ho]using this
     grind
    grind
  ·rename_i fs ht;split at hco
   ·rename_i sh hsh;split at hco
    ·grind
    ·rename_i hgd;have hok:=zs8 10000 t sh hsh;have key:∀{op:BinOp} {neg:Bool} {as bs:List Cl} {c:Cl},(op=.eql/\neg=false)\/(op=.neq/\neg=true)->x'.ev E=some (.a as)->y'.ev E=some (.a bs)->as.length=sh.length->bs.length=sh.length->((zbM sh as bs).map fun r=>Cl.bool (if neg then !r else r))=some c ->
       ∃v,(do eqGuard op t x y (a.eval x) (a.eval y);binOp op t (a.eval x) (a.eval y):Sem Value).run P w=.ok v w/\VC σ j c v:=by
      intro op neg as bs c hopp hxa hyb hl1 hl2 hcc;simp only[ja]at hcc;obtain⟨r,hr,rfl⟩:=hcc;obtain⟨va,hva,hra⟩:=zWl hag.kY hE hx hxa;obtain⟨vb,hvb,hrb⟩:=zWl hag.kY hE hy hyb;rw[hva,hvb];obtain⟨_,h1|h1⟩:=hok
      ·have he:=h1.2.2 σ j w as bs va.toList vb.toList r hra hrb hl1 hl2 hr;have he:(Op.equalIn 10000 t (.agg va) (.agg vb)).run P w=.ok r w:=by simpa using he
       rcases hopp with⟨rfl,rfl⟩ |⟨rfl,rfl⟩
       ·refine⟨.bool r,?_,.bool _ _⟩
        grind [Sem.run_bind,run_eqGuard_agg,Result.andThen_ok,run_eql_struct]
       ·refine⟨.bool (!r),?_,.bool _ _⟩
        grind [Sem.run_bind,run_eqGuard_agg,Result.andThen_ok,run_neq_struct]
      grind [zeU]
     split at hco
     ·cases hco;simp only[opF]at hop;split at hop
      ·rename_i c d hc hd;split at hop
       ·rename_i hl;have:=zaa.vN hop (fun r hr=>key (.inl ⟨rfl,rfl⟩) hc hd hl.1 hl.2 hr) hag hm
        grind [execOp]
       grind
      grind
     ·cases hco;simp only[opF]at hop;split at hop
      ·rename_i c d hc hd;split at hop
       ·rename_i hl;have:=zaa.vN hop (fun r hr=>key (.inr ⟨rfl,rfl⟩) hc hd hl.1 hl.2 hr) hag hm
        grind [execOp]
       grind
      grind
     grind
   grind
  ·rename_i ms ht;split at hco
   ·rename_i As;obtain rfl:y=.const .nilIface:=by
     unfold Zss at As;split at As
     ·rfl
     grind
    have key:∀{op:BinOp} {neg:Bool},(op=.eql/\neg=false)\/(op=.neq/\neg=true)->opF cf n0 E M (.pop (.Bh neg) [x'])=some (av,M',fp)->zaa own σ j M w av M' ((do pure (.value (<-(do eqGuard op t x (.const .nilIface) (a.eval x) .nilIface;binOp op t (a.eval x) .nilIface:Sem Value))):Sem Next).run P w):=by
     intro op neg hopp hop;simp only[opF,evs]at hop;cases hv:x'.ev E with
     |none=>grind
     |some v =>
      rw[hv]at hop;simp only at hop;split at hop
      ·rename_i r hr;cases hop;obtain⟨u,h1,h2⟩:=Zsm (P:=P) (w:=w) (t:=t) (xo:=x) (c0:=.nilIface) ht hopp hr (zWl hag.kY hE hx hv)
       grind [zaa.kX,za0.same]
      grind
    have hyn:a.eval (.const .nilIface)=.nilIface:=rfl;split at hco
    ·cases hco;have:=key (.inl ⟨rfl,rfl⟩) hop;simpa only[execOp,ho,hyn]using this
    ·cases hco;have:=key (.inr ⟨rfl,rfl⟩) hop;simpa only[execOp,ho,hyn]using this
    grind
   grind
  ·rename_i ps rs vr ht;split at hco
   ·rename_i As;have hyn:a.eval y=.nilFunc:=by
     unfold zxA at As;split at As
     ·rfl
     grind
    have key:∀{op:BinOp} {neg:Bool},(op=.eql/\neg=false)\/(op=.neq/\neg=true)->opF cf n0 E M (.pop (.A5 neg) [x'])=some (av,M',fp)->zaa own σ j M w av M' ((do pure (.value (<-(do eqGuard op t x y (a.eval x) .nilFunc;binOp op t (a.eval x) .nilFunc:Sem Value))):Sem Next).run P w):=by
     intro op neg hopp hop;simp only[opF,evs]at hop;cases hv:x'.ev E with
     |none=>grind
     |some v =>
      rw[hv]at hop;simp only at hop;split at hop
      ·rename_i r hr;cases hop;obtain⟨u,h1,h2⟩:=zvb (P:=P) (w:=w) (t:=t) (xo:=x) (yo:=y) ht hopp hr (zWl hag.kY hE hx hv)
       grind [zaa.kX,za0.same]
      grind
    split at hco
    ·cases hco;have:=key (.inl ⟨rfl,rfl⟩) hop;simpa only[execOp,ho,hyn]using this
    ·cases hco;have:=key (.inr ⟨rfl,rfl⟩) hop;simpa only[execOp,ho,hyn]using this
    grind
   grind
  grind
 grind
end
end Go.Eng
namespace Go.Eng
open Go
variable[zb0]
section
variable{own:Nat->Prop}{σ:zP}{j:Inj}{M:Mem}{w:World}{E:Nat->Option AV}{a:Act}{P:Program}{cf:za4}
theorem zi1{n0:Nat}{k:MK}{xs:List Opd}{av:AV}{M':Mem}{fp:FP}(h:opF cf n0 E M (.mop k xs)=some (av,M',fp)):∃vs,evs E xs=some vs/\zCC M k vs=some (av,M',fp):=by
 grind [opF]
theorem zu2{n0 q:Nat}{k:ML}{xs:List Opd}{av:AV}{M':Mem}{fp:FP}(h:opF cf n0 E M (.Ac k q xs)=some (av,M',fp)):∃vs,evs E xs=some vs/\zi2 M (n0+q) k vs=some (av,M',fp):=by
 grind [opF]
theorem zxs{n0:Nat}{k:PK}{xs:List Opd}{av:AV}{M':Mem}{fp:FP}(h:opF cf n0 E M (.pop k xs)=some (av,M',fp)):∃vs r,evs E xs=some vs/\ztH k vs=some r/\av=r/\M'=M:=by
 grind [opF]
theorem zxE{x y:Opd}{vs:List WV}(h:evs E [x,y]=some vs):∃u v,vs=[u,v]:=by
 grind [evs]
theorem zqO{x:Operand}{o:Opd}(h:za5 x=some o):zdB [x]=some [o]:=by simp[zdB,h]
theorem zBr{q:Nat}{m:zbz}{o:Oper}{co:CO}{n0:Nat}{av:AV}{M':Mem}{fp:FP}{op:UnOp}{t:TypeId}{x:Operand}(ho:o.op=.unOp op t x)(hco:zA P q m o=some co)(hop:opF cf n0 E M co=some (av,M',fp))
  (hE:zcs σ j E a.tmps) (hag:zM σ w) (hm:MR own σ j M w) (hown:∀b,w.heap.size<=b->own b):zaa own σ j M w av M' ((execOp a.eval o).run P w):=by
 simp only[zA,ho]at hco;simp only[ja]at hco;obtain⟨x',hx,rfl⟩:=hco;simp only[opF]at hop;split at hop
 ·rename_i c hc;have:=zaa.vN (P:=P) (s:=Op.unary op (a.eval x)) hop (fun r hr=>by
   have hxr:=zWl hag.kY hE hx hc;unfold unC at hr;split at hr
   ·cases hr;rw[zef hxr];exact⟨_,by simp[Op.unary,Op.intArith],.int _ _ _⟩
   ·cases hr;rw[zmx hxr];exact⟨_,by simp[Op.unary],.bool _ _⟩
   grind) hag hm
  grind [execOp]
 grind
theorem zwC{q:Nat}{m:zbz}{o:Oper}{co:CO}{n0:Nat}{av:AV}{M':Mem}{fp:FP}{s d:TypeId}{x:Operand}(ho:o.op=.convert s d x)(hco:zA P q m o=some co)(hop:opF cf n0 E M co=some (av,M',fp))
  (hE:zcs σ j E a.tmps) (hag:zM σ w) (hm:MR own σ j M w) (hown:∀b,w.heap.size<=b->own b):zaa own σ j M w av M' ((execOp a.eval o).run P w):=by
 simp only[zA,ho]at hco;split at hco
 ·rename_i k0 k x' hs hd hx;cases hco;simp only[opF]at hop;split at hop
  ·rename_i k1 n hc;have hv:a.eval x=.int k1 n:=zef (zWl hag.kY hE hx hc);have:=zaa.kX (P:=P) (s:=convert s d (a.eval x)) (za0.same (v:=.int k (k.wrap n)) (by simp_all [convert,run_underlying,Conv.intToInt]) (AVR.cell (.int _ _ _)) hag hm)
   grind [execOp]
  grind
 ·rename_i e x' hs hd hx;split at hco
  ·rename_i hb;cases hco;obtain⟨vs,hvs,hop⟩:=zi1 hop;have:=zaa.kX (zv6 (P:=P) hb hd hop (zbr hag.kY hE (zqO hx) hvs) hag hm)
   grind [execOp]
  grind
 ·rename_i x' hs hd hx;split at hco
  ·rename_i hb;cases hco;simp only[jl,beq_iff_eq]at hb;obtain⟨rfl,hb⟩:=hb;obtain⟨vs,hvs,hop⟩:=zi1 hop;have:=zaa.kX (ZsB (P:=P) hb hop (zbr hag.kY hE (zqO hx) hvs) hag hm)
   grind [execOp]
  grind
 grind
theorem zu0{q:Nat}{m:zbz}{o:Oper}{co:CO}{n0:Nat}{av:AV}{M':Mem}{fp:FP}{f:FuncId}{fi ca:Array Operand}(ho:o.op=.makeFunc (.func f) fi ca)(hco:zA P q m o=some co)(hop:opF cf n0 E M co=some (av,M',fp))
  (hE:zcs σ j E a.tmps) (hag:zM σ w) (hm:MR own σ j M w) (hown:∀b,w.heap.size<=b->own b):zaa own σ j M w av M' ((execOp a.eval o).run P w):=by
 simp only[zA,ho]at hco;split at hco
 ·rename_i fi' ca' hfi hca;cases hco;simp only[opF]at hop;split at hop
  ·rename_i as bs has hbs;split at hop
   ·rename_i vh;simp only[jl]at vh;have cellsOf:∀{xs:List WV} {vs:List Value},xs.all (fun |.c _=>true |.a _=>false)=true->zac σ j xs vs->VCs σ j (xs.flatMap WV.cells) vs:=by
     intro xs;induction xs with
     |nil=>intro vs _ h;have:=h.vG;grind [VCs.nil]
     |cons x xs ih =>
      intro vs hx h;obtain⟨v,vs',rfl,h1,h2⟩:=h.kO;cases x with
      |c c=>exact VCs.cons h1 (ih (by grind) h2)
      |a cs=>grind
    have h1:=cellsOf vh.1 (zbr hag.kY hE hfi has);have h2:=cellsOf vh.2 (zbr hag.kY hE hca hbs);have:=zaa.kX (P:=P) (s:=Instr.makeFunc (.func f) (fi.map a.eval) (ca.map a.eval)) (za0.same (v:=.func (.func f) (fi.map a.eval) (ca.map a.eval)) (by simp[Instr.makeFunc])
     (AVR.cell (.fn _ f _ _ _ _ (by simpa using h1.1) (by simpa using h2.1) (fun n c v hc hv=>h1.2 n c v hc (by grind)) (fun n c v hc hv=>h2.2 n c v hc (by grind)))) hag hm)
    grind [execOp]
   grind
  grind
 grind
theorem ztO{q:Nat}{m:zbz}{o:Oper}{co:CO}{n0:Nat}{av:AV}{M':Mem}{fp:FP}{t:TypeId}{l c:Operand}(ho:o.op=.makeSlice t l c)(hco:zA P q m o=some co)(hop:opF cf n0 E M co=some (av,M',fp))
  (hE:zcs σ j E a.tmps) (hag:zM σ w) (hm:MR own σ j M w) (hown:∀b,w.heap.size<=b->own b):zaa own σ j M w av M' ((execOp a.eval o).run P w):=by
 simp only[zA,ho]at hco;split at hco
 ·split at hco
  ·rename_i n b z l' c' hn hb hz hl hc;split at hco
   ·cases hco;simp only[opF]at hop;split at hop
    ·rename_i k1 l1 k2 c1 hl1 hc1;split at hop
     ·simp only[ja]at hop;have hvl:a.eval l=.int k1 l1:=zef (zWl hag.kY hE hl hl1);have hvc:a.eval c=.int k2 c1:=zef (zWl hag.kY hE hc hc1)
      grind [zaa.kX,Instr.makeSlice,ztU,execOp]
     grind
    grind
   grind
  grind
 grind
theorem zzN{q:Nat}{m:zbz}{o:Oper}{co:CO}{n0:Nat}{av:AV}{M':Mem}{fp:FP}{t:TypeId}{x:Operand}{lo hi mx:Option Operand}(ho:o.op=.slice t x lo hi mx)(hco:zA P q m o=some co)(hop:opF cf n0 E M co=some (av,M',fp))
  (hE:zcs σ j E a.tmps) (hag:zM σ w) (hm:MR own σ j M w) (hown:∀b,w.heap.size<=b->own b):zaa own σ j M w av M' ((execOp a.eval o).run P w):=by
 simp only[zA,ho]at hco;split at hco
 ·rename_i e ht;split at hco
  ·rename_i n x' lo' hi' mx' hn hx hlo hhi hmx;cases hco;simp only[opF]at hop;split at hop
   ·rename_i c hc;have:=zaa.vN (P:=P) (s:=Instr.sliceAt t (a.eval x) (lo.map a.eval) (hi.map a.eval) (mx.map a.eval)) hop (fun r hr=>zwj hag.kY hE ht hn (zWl hag.kY hE hx hc) hlo hhi hmx hr) hag hm
    grind [execOp]
   grind
  grind
 ·rename_i ht;split at hco
  ·rename_i xs hxs;cases hco;obtain⟨vs,r,hvs,hr,rfl,rfl⟩:=zxs hop;obtain⟨v,h1,h2⟩:=zuJ (P:=P) (w:=w) (lo:=lo.map a.eval) (hi:=hi.map a.eval) ht (by simpa [Option.toList_map]using zbr hag.kY hE hxs hvs) (by simpa using hr)
   grind [zaa.kX,za0.same,execOp]
  grind
 ·rename_i n e ht;split at hco
  ·rename_i xs hxs;simp only[ja]at hco;obtain⟨es,hes,rfl⟩:=hco;obtain⟨vs,r,hvs,hr,rfl,rfl⟩:=zxs hop;obtain⟨v,h1,h2⟩:=zvH (P:=P) (w:=w) (lo:=lo.map a.eval) (hi:=hi.map a.eval) ht hes (by simpa [Option.toList_map]using zbr hag.kY hE hxs hvs) (by simpa using hr)
   grind [zaa.kX,za0.same,execOp]
  grind
 grind
theorem ztQ{q:Nat}{m:zbz}{o:Oper}{co:CO}{n0:Nat}{av:AV}{M':Mem}{fp:FP}{t:TypeId}{x:Operand}{f:Nat}(ho:o.op=.fieldAddr t x f)(hco:zA P q m o=some co)(hop:opF cf n0 E M co=some (av,M',fp))
  (hE:zcs σ j E a.tmps) (hag:zM σ w) (hm:MR own σ j M w) (hown:∀b,w.heap.size<=b->own b):zaa own σ j M w av M' ((execOp a.eval o).run P w):=by
 simp only[zA,ho]at hco;split at hco
 ·rename_i fs x' ht hx;split at hco
  ·rename_i fd hf;split at hco
   ·rename_i n hn;split at hco
    ·grind
    ·rename_i h0;cases hco;simp only[opF]at hop;split at hop
     ·rename_i c hc;have:=zaa.vN (P:=P) (s:=Instr.fieldAt t (a.eval x) f) hop (fun r hr=>zwY ht hf hn h0 hr (zWl hag.kY hE hx hc)) hag hm
      grind [execOp]
     grind
   grind
  grind
 grind
theorem zzR{q:Nat}{m:zbz}{o:Oper}{co:CO}{n0:Nat}{av:AV}{M':Mem}{fp:FP}{t:TypeId}{x:Operand}{f:Nat}(ho:o.op=.field t x f)(hco:zA P q m o=some co)(hop:opF cf n0 E M co=some (av,M',fp))
  (hE:zcs σ j E a.tmps) (hag:zM σ w) (hm:MR own σ j M w) (hown:∀b,w.heap.size<=b->own b):zaa own σ j M w av M' ((execOp a.eval o).run P w):=by
 simp only[zA,ho]at hco;split at hco
 ·rename_i fs x' ht hx;split at hco
  ·split at hco
   ·rename_i n g hn hg;cases hco;simp only[opF]at hop;split at hop
    ·rename_i cs hc;split at hop
     ·rename_i cs' Bk;simp only[ja]at hop;obtain⟨v,hv,he⟩:=hop;obtain⟨arr,Cc,hr⟩:=zWl hag.kY hE hx hc;obtain⟨u,h1,h2⟩:=zsW (P:=P) (w:=w) hn hg hr Bk hv;have:=zaa.kX (P:=P) (s:=Instr.field t (a.eval x) f) (za0.same (v:=u) (by simp_all [Instr.field,run_underlying,asAgg]) (AVR.ofW h2) hag hm)
      grind [execOp]
     grind
    grind
   grind
  grind
 grind
theorem ztP{q:Nat}{m:zbz}{o:Oper}{co:CO}{n0:Nat}{av:AV}{M':Mem}{fp:FP}{t:TypeId}{x i:Operand}(ho:o.op=.indexAddr t x i)(hco:zA P q m o=some co)(hop:opF cf n0 E M co=some (av,M',fp))
  (hE:zcs σ j E a.tmps) (hag:zM σ w) (hm:MR own σ j M w) (hown:∀b,w.heap.size<=b->own b):zaa own σ j M w av M' ((execOp a.eval o).run P w):=by
 simp only[zA,ho]at hco;split at hco
 ·rename_i e x' i' ht hx hi;split at hco
  ·rename_i n hn;cases hco;simp only[opF]at hop;split at hop
   ·rename_i c d hc hd;have:=zaa.vN (P:=P) (s:=Instr.indexAt t (a.eval x) (a.eval i)) hop (fun r hr=>zwV ht hn hr (zWl hag.kY hE hx hc) (zWl hag.kY hE hi hd)) hag hm
    grind [execOp]
   grind
  grind
 ·rename_i len e x' i' ht hx hi;split at hco
  ·rename_i n hn;cases hco;simp only[opF]at hop;split at hop
   ·rename_i c d hc hd;have:=zaa.vN (P:=P) (s:=Instr.indexAt t (a.eval x) (a.eval i)) hop (fun r hr=>zxe ht hn hr (zWl hag.kY hE hx hc) (zWl hag.kY hE hi hd)) hag hm
    grind [execOp]
   grind
  grind
 grind
theorem zzQ{q:Nat}{m:zbz}{o:Oper}{co:CO}{n0:Nat}{av:AV}{M':Mem}{fp:FP}{t:TypeId}{x i:Operand}(ho:o.op=.index t x i)(hco:zA P q m o=some co)(hop:opF cf n0 E M co=some (av,M',fp))
  (hE:zcs σ j E a.tmps) (hag:zM σ w) (hm:MR own σ j M w) (hown:∀b,w.heap.size<=b->own b):zaa own σ j M w av M' ((execOp a.eval o).run P w):=by
 simp only[zA,ho]at hco;split at hco
 ·rename_i len e x' i' ht hx hi;split at hco
  ·rename_i n g hn hg;split at hco
   ·cases hco;simp only[opF]at hop;split at hop
    ·rename_i cs k m hc hd;split at hop
     ·rename_i q hq;split at hop
      ·rename_i cs' Bk;simp only[ja]at hop;obtain⟨v,hv,he⟩:=hop;obtain⟨arr,Cc,hr⟩:=zWl hag.kY hE hx hc;have hvi:a.eval i=.int k m:=zef (zWl hag.kY hE hi hd);obtain⟨h1,h2,h3,h4⟩:=zg9 hq;have hcut':cut cs (q*n) (if g then n else 1)=some cs':=by
        grind
       obtain⟨u,q1,q2⟩:=zsW (P:=P) (w:=w) hn hg hr hcut' hv;have:=zaa.kX (P:=P) (s:=Instr.index t (a.eval x) (a.eval i)) (za0.same (v:=u) (by simp_all [Instr.index,asIntOf,run_underlying,zaJ]) (AVR.ofW q2) hag hm)
       grind [execOp]
      grind
     grind
    grind
   grind
  grind
 ·rename_i x' i' ht hx hi;cases hco;simp only[opF]at hop;split at hop
  ·rename_i c d hc hd;split at hop
   ·rename_i r hr;unfold p2F at hr;split at hr
    ·grind
    ·rename_i s1 k1 n1 _;split at hr
     ·simp only[ja]at hr;obtain⟨b,hb,rfl⟩:=hr;have hvx:VC σ j (.str s1) (a.eval x):=zWl hag.kY hE hx hc;have hvi:a.eval i=.int k1 n1:=zef (zWl hag.kY hE hi hd);have hex:a.eval x=.string s1:=by
       generalize a.eval x=v at hvx;cases hvx;rfl
      have:=zaa.kX (P:=P) (s:=Instr.index t (a.eval x) (a.eval i)) (za0.same (v:=.int .u8 b.toNat) (by simp_all [Instr.index,asIntOf,run_underlying]) (AVR.cell (.int _ _ _)) hag hm)
      grind [execOp]
     grind
    grind
   grind
  grind
 grind
theorem zwB{q:Nat}{m:zbz}{o:Oper}{co:CO}{n0:Nat}{av:AV}{M':Mem}{fp:FP}{t:Operand}{i:Nat}(ho:o.op=.extract t i)(hco:zA P q m o=some co)(hop:opF cf n0 E M co=some (av,M',fp))
  (hE:zcs σ j E a.tmps) (hag:zM σ w) (hm:MR own σ j M w) (hown:∀b,w.heap.size<=b->own b):zaa own σ j M w av M' ((execOp a.eval o).run P w):=by
 simp only[zA,ho]at hco;split at hco
 ·rename_i t';cases hco;simp only[opF]at hop;split at hop
  ·rename_i xs hxs;split at hop
   ·rename_i v hv;obtain⟨arr,Cc,hr⟩:=zqt hE hxs;obtain⟨u,hu,hur⟩:=hr.get hv;have:=zaa.kX (P:=P) (s:=Instr.extract (a.eval (.tmp t')) i) (za0.same (v:=u) (by simp_all [Instr.extract]) (AVR.ofW hur) hag hm)
    grind [execOp]
   grind
  grind
 grind
theorem zBw{q:Nat}{m:zbz}{o:Oper}{co:CO}{n0:Nat}{av:AV}{M':Mem}{fp:FP}{t:TypeId}{x:Operand}(ho:o.op=.makeInterface t x)(hco:zA P q m o=some co)(hop:opF cf n0 E M co=some (av,M',fp))
  (hE:zcs σ j E a.tmps) (hag:zM σ w) (hm:MR own σ j M w) (hown:∀b,w.heap.size<=b->own b):zaa own σ j M w av M' ((execOp a.eval o).run P w):=by
 simp only[zA,ho]at hco;split at hco
 ·grind
 ·rename_i d x' hni hd hx;cases hco;simp only[opF]at hop;split at hop
  ·rename_i v hv;split at hop
   ·rename_i r hr;obtain⟨_,Bx⟩:=zxt hr (zWl hag.kY hE hx hv);have ul:(Instr.makeInterface t (a.eval x)).run P w=.ok (.iface t (a.eval x)) w:=by
     simp only[Instr.makeInterface,Sem.run_bind,run_underlying hd,Result.andThen_ok];cases d<;>first |rfl |exact absurd rfl (hni _)
    grind [zaa.kX,za0.same,execOp]
   grind
  grind
 grind
theorem zBs{q:Nat}{m:zbz}{o:Oper}{co:CO}{n0:Nat}{av:AV}{M':Mem}{fp:FP}{x:Operand}{tx t:TypeId}{ok:Bool}(ho:o.op=.typeAssert x tx t ok)(hco:zA P q m o=some co)(hop:opF cf n0 E M co=some (av,M',fp))
  (hE:zcs σ j E a.tmps) (hag:zM σ w) (hm:MR own σ j M w) (hown:∀b,w.heap.size<=b->own b):zaa own σ j M w av M' ((execOp a.eval o).run P w):=by
 simp only[zA,ho]at hco;split at hco
 ·grind
 ·rename_i d zw x' hni hd hz hx;cases hco;simp only[opF]at hop;split at hop
  ·rename_i v hv;split at hop
   ·rename_i r hr;cases hop;obtain⟨i,zv,hi,hzv,hzc⟩:∃i zv,P.info? t=some i/\i.zero=some zv/\zzh zv=some zw:=by
     grind [znJ]
    have hzrun:(zeroValue t).run P w=.ok zv w:=zcJ hi hzv;have CW:WVR σ j zw zv:=zkd hzc;have Bx:=zxt hr (zWl hag.kY hE hx hv);have nb:∀{e:Value} {rr:AV},(Instr.typeAssert (a.eval x) tx t ok).run P w=.ok e w->AVR σ j rr e->zaa own σ j M w rr M ((execOp a.eval o).run P w):=by
     grind [zaa.kX,za0.same,execOp]
    obtain⟨t',u',⟨he,⟨ht,hrr⟩ |⟨ht,hok,rfl⟩⟩ |⟨he,hok,rfl⟩⟩:=Bx
    ·refine nb ?_ hrr;rw[he];simp only[Instr.typeAssert,Sem.run_bind,run_underlying hd,Result.andThen_ok];cases d<;>first |exact absurd rfl (hni _) |simp[ht]
    ·refine nb (e:=.tuple #[zv,.bool false]) ?_ ⟨_,rfl,zac.cons CW (zac.cons (show WVR σ j (.c (.bool false)) _ from .bool _ _) zac.nil)⟩;rw[he];simp only[Instr.typeAssert,Sem.run_bind,run_underlying hd,Result.andThen_ok];cases d<;>first |exact absurd rfl (hni _) |simp[ht,hok,hzrun]
    ·refine nb (e:=.tuple #[zv,.bool false]) ?_ ⟨_,rfl,zac.cons CW (zac.cons (show WVR σ j (.c (.bool false)) _ from .bool _ _) zac.nil)⟩;rw[he];simp only[Instr.typeAssert,Sem.run_bind,run_underlying hd,Result.andThen_ok];cases d<;>first |exact absurd rfl (hni _) |simp[hok,hzrun]
   grind
  grind
 grind
theorem zBz{q:Nat}{m:zbz}{o:Oper}{co:CO}{n0:Nat}{av:AV}{M':Mem}{fp:FP}{c:Call}(hnc:co.CE=false)(ho:o.op=.call c)(hco:zA P q m o=some co)(hop:opF cf n0 E M co=some (av,M',fp))
  (hE:zcs σ j E a.tmps) (hag:zM σ w) (hm:MR own σ j M w) (hown:∀b,w.heap.size<=b->own b):zaa own σ j M w av M' ((execOp a.eval o).run P w):=by
 simp only[zA,ho]at hco;obtain⟨callee,args,argTypes⟩:=c;cases callee with
 |value f =>
  simp only at hco;split at hco
  ·cases hco;cases hnc
  grind
 |invoke r mm=>grind
 |builtin b =>
  cases b with
  |len =>
   simp only at hco;split at hco
   ·rename_i t x htl hxl;have e1:argTypes = #[t]:=qC (by grind);have e2:args = #[x]:=qC (by grind);subst e1;subst e2;split at hco
    ·rename_i e x' ht hx;cases hco;simp only[opF]at hop;have fin:∀n:Nat,(∃ad c,a.eval x=.slice ad n c)->av=.w (.c (.int .i64 n))->M'=M->zaa own σ j M w av M' ((execOp a.eval o).run P w):=by
      rintro n ⟨ad,c,hv⟩ rfl rfl;refine .inl ⟨.int .i64 n,w,σ,j,?_,AVR.cell (.int _ _ _),hag,hm,za2.refl⟩
      simp_all [execOp,resolve,invoke,builtin,Builtin.len_,run_underlying,goInt]
     split at hop
     ·rename_i id g es off len cap hc;cases hop;have hr:VC σ j _ _:=zWl hag.kY hE hx hc;generalize hv:a.eval x=v at hr;cases hr
      grind
     ·rename_i es rows cap hc;cases hop;have hr:VC σ j _ _:=zWl hag.kY hE hx hc;generalize hv:a.eval x=v at hr;cases hr
      grind
     ·rename_i hc;cases hop;have hr:VC σ j _ _:=zWl hag.kY hE hx hc;generalize hv:a.eval x=v at hr;cases hr
      grind
     ·rename_i hc;cases hop;have hr:VC σ j _ _:=zWl hag.kY hE hx hc;generalize hv:a.eval x=v at hr;cases hr
      grind
     grind
    ·rename_i x' ht hx;cases hco;simp only[opF]at hop;split at hop
     ·rename_i s hc;cases hop;have hr:VC σ j _ _:=zWl hag.kY hE hx hc;generalize hv:a.eval x=v at hr;cases hr;refine .inl ⟨.int .i64 s.size,w,σ,j,?_,AVR.cell (.int _ _ _),hag,hm,za2.refl⟩
      simp_all [execOp,resolve,invoke,builtin,Builtin.len_,run_underlying,goInt]
     grind
    ·rename_i kt e x' ht hx;cases hco;obtain⟨vs,hvs,hop⟩:=zi1 hop;have:=zaa.kX (zyv (P:=P) (ty:=o.type) ht hop (zbr hag.kY hE (zqO hx) hvs) hag hm)
     grind [execOp,resolve,invoke,builtin]
    grind
   grind
  |delete =>
   simp only at hco;split at hco
   ·rename_i t u m k htl hxl;have e1:argTypes = #[t,u]:=qC (by grind);subst e1;simp only[ja]at hco;obtain⟨g,hg,rfl⟩:=hco;obtain⟨vs,hvs,hop⟩:=zi1 hop;have hr:=zbr hag.kY hE hxl hvs;obtain⟨y,z,hyz⟩:=zxE hvs;subst hyz;obtain⟨v1,r1,q1,_,h2⟩:=hr.kO;obtain⟨v2,r2,q2,_,h3⟩:=h2.kO;have q3:=h3.vG;subst q3;subst q2;rw[q1]at hr;have:=zaa.kX (zAt (P:=P) (ty:=o.type) (u:=u) hg hop hr hag hm);have ea:args.map a.eval = #[v1,v2]:=qC (by simp_all)
    grind [execOp,resolve,invoke,builtin]
   grind
  |copy =>
   simp only at hco;split at hco
   ·rename_i t u m k htl hxl;have e1:argTypes = #[t,u]:=qC (by grind);subst e1;split at hco
    ·rename_i e e' ht hu;simp only[ja]at hco;obtain⟨n,hn,rfl⟩:=hco;obtain⟨vs,hvs,hop⟩:=zi1 hop;have hr:=zbr hag.kY hE hxl hvs;obtain⟨y,z,hyz⟩:=zxE hvs;subst hyz;obtain⟨v1,r1,q1,_,h2⟩:=hr.kO;obtain⟨v2,r2,q2,_,h3⟩:=h2.kO;have q3:=h3.vG;subst q3;subst q2;rw[q1]at hr;have:=zaa.kX (zyW (P:=P) (ty:=o.type) ht hu hn hop hr hag hm);have ea:args.map a.eval = #[v1,v2]:=qC (by simp_all)
     grind [execOp,resolve,invoke,builtin]
    grind
   grind
  |max =>
   simp only[ja]at hco;obtain⟨xs,hxs,rfl⟩:=hco;simp only[opF]at hop;split at hop
   ·rename_i k n r hr;obtain⟨c,hc,rfl,rfl,rfl⟩:=zqL hop;have hvs:=zbr hag.kY hE hxs hr;obtain⟨v0,vs,hl,h1,h2⟩:=hvs.kO;obtain⟨u,q1,q2⟩:=zoT (P:=P) (w:=w) (mx:=true) hc h2;have hv0:v0=.int k n:=zef h1;subst hv0;refine .inl ⟨u,w,σ,j,?_,AVR.cell q2,hag,hm,za2.refl⟩
    simp_all [if_true,execOp,resolve,invoke,builtin,Builtin.max_]
   grind
  |min =>
   simp only[ja]at hco;obtain⟨xs,hxs,rfl⟩:=hco;simp only[opF]at hop;split at hop
   ·rename_i k n r hr;obtain⟨c,hc,rfl,rfl,rfl⟩:=zqL hop;have hvs:=zbr hag.kY hE hxs hr;obtain⟨v0,vs,hl,h1,h2⟩:=hvs.kO;obtain⟨u,q1,q2⟩:=zoT (P:=P) (w:=w) (mx:=false) hc h2;have hv0:v0=.int k n:=zef h1;subst hv0;refine .inl ⟨u,w,σ,j,?_,AVR.cell q2,hag,hm,za2.refl⟩
    simp_all [jE,if_false,execOp,resolve,invoke,builtin,Builtin.min_]
   grind
  |append =>
   simp only at hco;split at hco
   ·rename_i t u s x htl hxl;have e1:argTypes = #[t,u]:=qC (by simpa using htl);have e2:args = #[s,x]:=qC (by simpa using hxl);subst e1;subst e2;split at hco
    ·rename_i e e' ht hu;split at hco
     ·rename_i n b z s' x' hn hb hz hs hx;split at hco
      ·rename_i yQ;cases hco;simp only[opF]at hop;split at hop
       ·rename_i c d hc hd;have:=zaa.kX (zvJ (P:=P) (ty:=o.type) ht ⟨e',hu⟩ hn hb hz yQ.2 yQ.1 hop (zWl hag.kY hE hs hc) (zWl hag.kY hE hx hd) hag hm hown);simpa [execOp,ho,resolve,invoke,builtin]using this
       ·cases hop
      ·cases hco
     ·cases hco
    ·cases hco
   grind
  |clear =>
   simp only at hco;split at hco
   ·rename_i t x htl hxl;have e1:argTypes = #[t]:=qC (by simpa using htl);have e2:args = #[x]:=qC (by simpa using hxl);subst e1;subst e2;split at hco
    ·rename_i e ht;split at hco
     ·rename_i z x' hz hx;cases hco;simp only[opF]at hop;split at hop
      ·rename_i c hc;have:=zaa.kX (zw7 (P:=P) (ty:=o.type) ht hz hop hag hm (zWl hag.kY hE hx hc));simpa [execOp,ho,resolve,invoke,builtin]using this
      ·cases hop
     ·cases hco
    ·cases hco
   ·cases hco
  |_=>cases hco
theorem zwA{q:Nat}{m:zbz}{o:Oper}{co:CO}{n0:Nat}{av:AV}{M':Mem}{fp:FP}{t:TypeId}{r:Option Operand}(ho:o.op=.makeMap t r)(hco:zA P q m o=some co)(hop:opF cf n0 E M co=some (av,M',fp))
  (hE:zcs σ j E a.tmps) (hag:zM σ w) (hm:MR own σ j M w) (hown:∀b,w.heap.size<=b->own b):zaa own σ j M w av M' ((execOp a.eval o).run P w):=by
 simp only[zA,ho]at hco;cases r with
 |some r=>grind
 |none =>
  simp only[ja]at hco
  grind [zu2,zaa.kX,zwG,execOp]
theorem zyn{q:Nat}{m:zbz}{o:Oper}{co:CO}{n0:Nat}{av:AV}{M':Mem}{fp:FP}{t:TypeId}{x i:Operand}{ok:Bool}(ho:o.op=.lookup t x i ok)(hco:zA P q m o=some co)(hop:opF cf n0 E M co=some (av,M',fp))
  (hE:zcs σ j E a.tmps) (hag:zM σ w) (hm:MR own σ j M w) (hown:∀b,w.heap.size<=b->own b):zaa own σ j M w av M' ((execOp a.eval o).run P w):=by
 simp only[zA,ho]at hco;split at hco
 ·rename_i g z xs hg hz hxs;split at hco
  ·cases hco;obtain⟨vs,hvs,hop⟩:=zi1 hop;have:=zaa.kX (zAr (P:=P) hg hz hop (zbr hag.kY hE hxs hvs) hag hm)
   grind [execOp]
  grind
 grind
theorem zzO{t:TypeId}{g:Bool}{xs:List Opd}{mm k v:Operand}{n0:Nat}{av:AV}{M':Mem}{fp:FP}(hg:zpP P t=some g)(hxs:zdB [mm,k,v]=some xs)(hop:opF cf n0 E M (.mop (.set g) xs)=some (av,M',fp))(hE:zcs σ j E a.tmps)(hag:zM σ w)(hm:MR own σ j M w) :
  zaa own σ j M w av M' ((do Instr.mapUpdate t (a.eval mm) (a.eval k) (a.eval v);pure .skip:Sem Next).run P w):=by
 obtain⟨vs,hvs,hop⟩:=zi1 hop;obtain⟨rfl,w',σ',h1,h2,h3,h4⟩:=ZlE (P:=P) hg hop (zbr hag.kY hE hxs hvs) hag hm;exact .inr ⟨rfl,w',σ',by simp[h1],h2,h3,h4⟩
theorem ztN{q:Nat}{m:zbz}{o:Oper}{co:CO}{n0:Nat}{av:AV}{M':Mem}{fp:FP}{t:TypeId}{x k v:Operand}(ho:o.op=.mapUpdate t x k v)(hco:zA P q m o=some co)(hop:opF cf n0 E M co=some (av,M',fp))
  (hE:zcs σ j E a.tmps) (hag:zM σ w) (hm:MR own σ j M w) (hown:∀b,w.heap.size<=b->own b):zaa own σ j M w av M' ((execOp a.eval o).run P w):=by
 simp only[zA,ho]at hco;split at hco
 ·rename_i g xs hg hxs;cases hco;have:=zzO (cf:=cf) hg hxs hop hE hag hm;simpa [execOp,ho]using this
 ·cases hco
theorem zyo{q:Nat}{m:zbz}{o:Oper}{co:CO}{n0:Nat}{av:AV}{M':Mem}{fp:FP}{t:TypeId}{x k v:Operand}(ho:o.op=.insert t x k v)(hco:zA P q m o=some co)(hop:opF cf n0 E M co=some (av,M',fp))
  (hE:zcs σ j E a.tmps) (hag:zM σ w) (hm:MR own σ j M w) (hown:∀b,w.heap.size<=b->own b):zaa own σ j M w av M' ((execOp a.eval o).run P w):=by
 simp only[zA,ho]at hco;split at hco
 ·rename_i g xs hg hxs;cases hco;have:=zzO (cf:=cf) hg hxs hop hE hag hm;simpa [execOp,ho]using this
 ·cases hco
theorem zzP{q:Nat}{m:zbz}{o:Oper}{co:CO}{n0:Nat}{av:AV}{M':Mem}{fp:FP}{t:TypeId}{x:Operand}(ho:o.op=.range t x)(hco:zA P q m o=some co)(hop:opF cf n0 E M co=some (av,M',fp))
  (hE:zcs σ j E a.tmps) (hag:zM σ w) (hm:MR own σ j M w) (hown:∀b,w.heap.size<=b->own b):zaa own σ j M w av M' ((execOp a.eval o).run P w):=by
 simp only[zA,ho]at hco;split at hco
 ·rename_i g xs hg hxs;cases hco;obtain⟨vs,hvs,hop⟩:=zu2 hop;have:=zaa.kX (zwx (P:=P) hg hop (zbr hag.kY hE hxs hvs) hag hm hown)
  grind [execOp]
 grind
theorem zBu{q:Nat}{m:zbz}{o:Oper}{co:CO}{n0:Nat}{av:AV}{M':Mem}{fp:FP}{x:Operand}{isS:Bool}(ho:o.op=.next x isS)(hco:zA P q m o=some co)(hop:opF cf n0 E M co=some (av,M',fp))
  (hE:zcs σ j E a.tmps) (hag:zM σ w) (hm:MR own σ j M w) (hown:∀b,w.heap.size<=b->own b):zaa own σ j M w av M' ((execOp a.eval o).run P w):=by
 simp only[zA,ho]at hco;cases isS with
 |true=>grind
 |false =>
  simp only[ja]at hco;obtain⟨xs,hxs,rfl⟩:=hco;obtain⟨vs,hvs,hop⟩:=zi1 hop;have:=zaa.kX (zys (P:=P) (ty:=o.type) hop (zbr hag.kY hE hxs hvs) hag hm)
  grind [execOp]
theorem zzS{q:Nat}{m:zbz}{o:Oper}{co:CO}{n0:Nat}{av:AV}{M':Mem}{fp:FP}{x:Operand}(ho:o.op=.entry x)(hco:zA P q m o=some co)(hop:opF cf n0 E M co=some (av,M',fp))
  (hE:zcs σ j E a.tmps) (hag:zM σ w) (hm:MR own σ j M w) (hown:∀b,w.heap.size<=b->own b):zaa own σ j M w av M' ((execOp a.eval o).run P w):=by
 simp only[zA,ho]at hco;simp only[ja]at hco;obtain⟨xs,hxs,rfl⟩:=hco;obtain⟨vs,hvs,hop⟩:=zi1 hop;have:=zaa.kX (zw0 (P:=P) hop (zbr hag.kY hE hxs hvs) hag hm)
 grind [execOp]
theorem zBy{q:Nat}{m:zbz}{o:Oper}{co:CO}{n0:Nat}{av:AV}{M':Mem}{fp:FP}(hnc:co.CE=false)(hco:zA P q m o=some co)(hop:opF cf n0 E M co=some (av,M',fp))
  (hE:zcs σ j E a.tmps) (hag:zM σ w) (hm:MR own σ j M w) (hown:∀b,w.heap.size<=b->own b):zaa own σ j M w av M' ((execOp a.eval o).run P w):=by
 cases ho:o.op with
 |move x=>exact zBv ho hco hop hE hag hm hown
 |assign x=>exact zyp ho hco hop hE hag hm hown
 |pick x y z=>exact zBt ho hco hop hE hag hm hown
 |alloc t=>exact zzV ho hco hop hE hag hm hown
 |box t x=>exact zCz ho hco hop hE hag hm hown
 |build t p=>exact zzT ho hco hop hE hag hm hown
 |buildSlice t n p=>exact zr7 ho hco hop hE hag hm hown
 |load t p=>exact zBx ho hco hop hE hag hm hown
 |store t p v=>exact zzM ho hco hop hE hag hm hown
 |nilCheck x=>exact zuZ ho hco hop hE hag hm hown
 |binOp op t x y yt=>exact zzU ho hco hop hE hag hm hown
 |unOp op t x=>exact zBr ho hco hop hE hag hm hown
 |convert s d x=>exact zwC ho hco hop hE hag hm hown
 |makeSlice t l c=>exact ztO ho hco hop hE hag hm hown
 |slice t x l h m=>exact zzN ho hco hop hE hag hm hown
 |fieldAddr t x f=>exact ztQ ho hco hop hE hag hm hown
 |field t x f=>exact zzR ho hco hop hE hag hm hown
 |indexAddr t x i=>exact ztP ho hco hop hE hag hm hown
 |index t x i=>exact zzQ ho hco hop hE hag hm hown
 |extract t i=>exact zwB ho hco hop hE hag hm hown
 |call c=>exact zBz hnc ho hco hop hE hag hm hown
 |makeInterface t x=>grind [zBw]
 |typeAssert x tx t ok=>exact zBs ho hco hop hE hag hm hown
 |makeMap t r=>exact zwA ho hco hop hE hag hm hown
 |lookup t x i ok=>exact zyn ho hco hop hE hag hm hown
 |mapUpdate t x k v=>exact ztN ho hco hop hE hag hm hown
 |insert t x k v=>exact zyo ho hco hop hE hag hm hown
 |range t x=>exact zzP ho hco hop hE hag hm hown
 |next x s=>exact zBu ho hco hop hE hag hm hown
 |entry x=>exact zzS ho hco hop hE hag hm hown
 |makeFunc fn fi ca =>
  grind [zu0,zA]
 |_=>simp only[zA,ho]at hco;cases hco
end
end Go.Eng
namespace Go.Eng
open Go
variable[zb0]
def zi8(ρ:Nat->Option Nat)(j j':Inj):Prop:=∀id id' g pl,ρ id=some id'->j id g=some pl->j' id' g=some pl
section
variable{own:Nat->Prop}{σ:zP}{j j':Inj}{M:Mem}{w:World}{P:Program}{ρ:Nat->Option Nat}
theorem zbC(hr:zi8 ρ j j'){c c':Cl}{v:Value}(h:qM ρ c=some c')(hv:VC σ j c v):VC σ j' c' v:=by
 cases hv with
 |ptr _ id g i k L hL =>
  simp only[qM,ja]at h;obtain⟨id',hid,rfl⟩:=h;exact .ptr _ _ _ _ _ L (hr _ _ _ _ hid hL)
 |slice _ id g es off len cap pl a c hj hl hc ha =>
  simp only[qM,ja]at h;obtain⟨id',hid,rfl⟩:=h;exact .slice _ _ _ _ _ _ _ pl _ _ (hr _ _ _ _ hid hj) hl hc ha
 |fn _ f fi ca fi' ca' l1 l2 h1 h2 =>
  unfold qM at h;split at h<;>first
   |(rename_i heq;cases heq;done)
   |skip
  ·rename_i heq;cases heq;cases h;exact .fn _ _ _ _ _ _ l1 l2 (fun n c v hc _=>by grind) (fun n c v hc _=>by grind)
  ·grind
  grind
 |yD=>grind [qM]
 |yC=>grind [qM]
 |yld _ id f sh l r h0 =>
  simp only[qM,ja]at h;obtain⟨id',hid,rfl⟩:=h;exact .yld _ _ _ _ l r (hr _ _ _ _ hid h0)
 |map _ id g l h0 =>
  simp only[qM,ja]at h;obtain⟨id',hid,rfl⟩:=h;exact .map _ _ _ l (hr _ _ _ _ hid h0)
 |mit _ id l h0 =>
  simp only[qM,ja]at h;obtain⟨id',hid,rfl⟩:=h;exact .mit _ _ l (hr _ _ _ _ hid h0)
 |bsl _ id g i k es len cap L a h0 hl ha =>
  simp only[qM,ja]at h;obtain⟨id',hid,rfl⟩:=h;exact .bsl _ _ _ _ _ _ _ _ L a (hr _ _ _ _ hid h0) hl ha
 |qS=>simp only[qM,jh]at h;subst h;exact .qS _
 |bool=>simp only[qM,jh]at h;subst h;exact .bool _ _
 |int=>simp only[qM,jh]at h;subst h;exact .int _ _ _
 |str=>simp only[qM,jh]at h;subst h;exact .str _ _
 |uT _ row k b o val h1 h2=>simp only[qM,jh]at h;subst h;exact .uT _ row k b o val h1 h2
 |kP=>simp only[qM,jh]at h;subst h;exact .kP _
 |jb _ esz rows a c b o val q1 q3 q4 q5 q6=>simp only[qM,jh]at h;subst h;exact .jb _ esz rows a c b o val q1 q3 q4 q5 q6
 |jc=>simp only[qM,jh]at h;subst h;exact .jc _
 |qZ=>simp only[qM,jh]at h;subst h;exact .qZ _
 |qu=>simp only[qM,jh]at h;subst h;exact .qu _
theorem zhk(hr:zi8 ρ j j'):∀{cs cs':List Cl} {vs:List Value},Ah ρ cs=some cs'->VCs σ j cs vs->VCs σ j' cs' vs
 |[],cs',vs,h,hv=>by simp only[Ah,jh]at h;have:=hv.vG;grind [VCs.nil]
 |c::cs,cs',vs,h,hv=>by
  simp only[Ah]at h;split at h
  ·rename_i y ys hy hys;cases h;obtain⟨v,vs',rfl,h1,h2⟩:=hv.kO;exact VCs.cons (zbC hr hy h1) (zhk hr hys h2)
  grind
theorem zko(hr:zi8 ρ j j'){c c':Cl}{v:Value}(h:zeS ρ c=some c')(hv:VC σ j c v):VC σ j' c' v:=by
 cases hv with
 |yld _ id f sh l r h0=>exact zbC (c:=.yld id f sh) hr h (.yld _ id f sh l r h0)
 |map _ id g l h0=>exact zbC (c:=.map id g) hr h (.map _ id g l h0)
 |mit _ id l h0=>exact zbC (c:=.mit id) hr h (.mit _ id l h0)
 |bsl _ id g i k es len cap L a h0 hl ha=>exact zbC (c:=.bsl id g i k es len cap) hr h (.bsl _ id g i k es len cap L a h0 hl ha)
 |fn _ f fi ca fi' ca' l1 l2 h1 h2 =>
  simp only[zeS]at h;split at h
  ·rename_i x y hx hy;cases h;have q1:=zhk (σ:=σ) hr hx ⟨l1,h1⟩;have q2:=zhk (σ:=σ) hr hy ⟨l2,h2⟩;exact .fn _ f x y fi' ca' q1.1 q2.1 q1.2 q2.2
  grind
 |yD _ t c v hv =>
  simp only[zeS,ja]at h;obtain⟨cs,hcs,rfl⟩:=h;have q:=zhk (σ:=σ) hr hcs (VCs.cons hv VCs.nil)
  match cs,q with
  |[c'],q =>
   obtain⟨u,us,hu,q1,q2⟩:=q.kO;cases hu;exact .yD _ t c' v q1
  |[],q=>have:=q.1;grind
  |_::_::_,q=>have:=q.1;grind
 |yC _ t cs vs l hv =>
  simp only[zeS,ja]at h;obtain⟨cs',hcs,rfl⟩:=h;have q:=zhk (σ:=σ) hr hcs ⟨l,hv⟩;exact .yC _ t cs' vs q.1 q.2
 |ptr _ id g i k L hL=>exact zbC (c:=.ptr id g i k) hr h (.ptr _ id g i k L hL)
 |slice _ id g es off len cap pl a c hj hl hc ha=>exact zbC (c:=.slice id g es off len cap) hr h (.slice _ id g es off len cap pl a c hj hl hc ha)
 |bool=>exact zbC (c:=.bool _) hr h (.bool _ _)
 |int=>exact zbC (c:=.int _ _) hr h (.int _ _ _)
 |str=>exact zbC (c:=.str _) hr h (.str _ _)
 |uT _ row k b o val h1 h2=>exact zbC (c:=.uT row k) hr h (.uT _ row k b o val h1 h2)
 |kP=>exact zbC (c:=.kP) hr h (.kP _)
 |jb _ esz rows a c b o val q1 q3 q4 q5 q6=>exact zbC (c:=.jb rows) hr h (.jb _ esz rows a c b o val q1 q3 q4 q5 q6)
 |jc=>exact zbC (c:=.jc) hr h (.jc _)
 |qZ=>exact zbC (c:=.qZ) hr h (.qZ _)
 |qu=>exact zbC (c:=.qu) hr h (.qu _)
 |qS=>exact zbC (c:=.qS) hr h (.qS _)
theorem ziW(hr:zi8 ρ j j'):∀{cs cs':List Cl} {vs:List Value},zfe ρ cs=some cs'->VCs σ j cs vs->VCs σ j' cs' vs
 |[],cs',vs,h,hv=>by simp only[zfe,jh]at h;have:=hv.vG;grind [VCs.nil]
 |c::cs,cs',vs,h,hv=>by
  simp only[zfe]at h;split at h
  ·rename_i y ys hy hys;cases h;obtain⟨v,vs',rfl,h1,h2⟩:=hv.kO;exact VCs.cons (zko hr hy h1) (ziW hr hys h2)
  grind
theorem zoE:∀{cs cs':List Cl},zfe ρ cs=some cs'->cs'.length=cs.length/\∀(n:Nat) (c':Cl),cs'[n]?=some c'->∃c,cs[n]?=some c/\zeS ρ c=some c'
 |[],cs',h=>by simp only[zfe,jh]at h;subst h;exact⟨rfl,by simp⟩
 |c::cs,cs',h=>by
  simp only[zfe]at h;split at h
  ·rename_i y ys hy hys;obtain⟨h1,h2⟩:=zoE hys
   grind
  grind
theorem ziV:∀{rs rs':List (List Cl)},zez ρ rs=some rs'->rs'.length=rs.length/\(∀(n:Nat) (r':List Cl),rs'[n]?=some r'->∃r,rs[n]?=some r/\zfe ρ r=some r')
 |[],rs',h=>by simp only[zez,jh]at h;subst h;exact⟨rfl,by simp⟩
 |r::rs,rs',h=>by
  simp only[zez]at h;split at h
  ·rename_i y ys hy hys;obtain⟨h1,h2⟩:=ziV hys
   grind
  grind
theorem zqB(hr:zi8 ρ j j'){x y:WV}{v:Value}(h:zpM ρ x=some y)(hv:WVR σ j x v):WVR σ j' y v:=by
 cases x with
 |c x =>
  simp only[zpM,ja]at h;obtain⟨c,hc,rfl⟩:=h;exact zko hr hc hv
 |a cs =>
  simp only[zpM,ja]at h;obtain⟨c,hc,rfl⟩:=h;obtain⟨arr,rfl,hv⟩:=hv;exact⟨arr,rfl,ziW hr hc hv⟩
theorem zlS(hr:zi8 ρ j j'):∀{cs cs':List WV} {vs:List Value},ziU ρ cs=some cs'->zac σ j cs vs->zac σ j' cs' vs
 |[],cs',vs,h,hv=>by simp only[ziU,jh]at h;have:=hv.vG;grind [zac.nil]
 |c::cs,cs',vs,h,hv=>by
  simp only[ziU]at h;split at h
  ·rename_i y ys hy hys;cases h;obtain⟨v,vs',rfl,h1,h2⟩:=hv.kO;exact zac.cons (zqB hr hy h1) (zlS hr hys h2)
  grind
theorem znm(hr:zi8 ρ j j'){x y:AV}{v:Value}(h:znn ρ x=some y)(hv:AVR σ j x v):AVR σ j' y v:=by
 cases x with
 |w x =>
  simp only[znn,ja]at h;obtain⟨c,hc,rfl⟩:=h;exact zqB hr hc hv
 |t cs =>
  simp only[znn,ja]at h;obtain⟨c,hc,rfl⟩:=h;obtain⟨arr,rfl,hv⟩:=hv;exact⟨arr,rfl,zlS hr hc hv⟩
 |u=>simp only[znn,jh]at h;subst h;exact hv
theorem zcE{b b':Blk}(h:zhj ρ b=some b'):b'.box=b.box/\b'.esz=b.esz/\b'.gen=b.gen/\b'.fz=b.fz/\b'.ver=b.ver/\b'.rows.length=b.rows.length:=by
 unfold zhj at h;split at h
 ·simp only[ja]at h;obtain⟨r,hr,rfl⟩:=h;exact⟨rfl,rfl,rfl,rfl,rfl,(ziV hr).1⟩
 grind
theorem zfW{c:Cl}{cs ys:List Cl}(h:zfe ρ (c::cs)=some ys):∃y ys',ys=y::ys'/\zeS ρ c=some y/\zfe ρ cs=some ys':=by
 grind [zfe]
theorem zkn{c:List Cl}{cs ys:List (List Cl)}(h:zez ρ (c::cs)=some ys):∃y ys',ys=y::ys'/\zfe ρ c=some y/\zez ρ cs=some ys':=by
 grind [zez]
theorem znT{k:IntKind}{n:Int}{y:Cl}(h:zeS ρ (.int k n)=some y):y=.int k n:=by grind [zeS,qM]
theorem zu1(hr:zi8 ρ j j'){g:Bool}{vc vc':List Cl}{x:WV}{v:Value}(hx:zaI g vc=some x)(h:zfe ρ vc=some vc')(hv:WVR σ j x v):∃x',zaI g vc'=some x'/\WVR σ j' x' v:=by
 cases g with
 |true =>
  simp[zaI]at hx;subst hx;obtain⟨arr,rfl,hs⟩:=hv;exact⟨.a vc',by simp[zaI],arr,rfl,ziW hr h hs⟩
 |false =>
  match vc,hx with
  |[c],hx =>
   simp[zaI]at hx;subst hx;obtain⟨y,ys,rfl,h1,h2⟩:=zfW h;cases h2;exact⟨.c y,by simp[zaI],zko hr h1 hv⟩
theorem zwt(hr:zi8 ρ j j'){b b':Blk}{l:Nat}{g:Bool}(h:zhj ρ b=some b')(hb:MB σ j b l g w):MB σ j' b' l g w:=by
 obtain⟨es,clock,R,h1,h2,h3,h4⟩:=hb.st;unfold zhj at h;rw[if_pos hb.box]at h;simp only[ja]at h;obtain⟨rs,hrs,rfl⟩:=h;rw[h2]at hrs;obtain⟨y,R',rfl,q1,q2⟩:=zkn hrs;obtain⟨z,zs,rfl,q3,q4⟩:=zfW q1;obtain rfl:=znT q3;cases q4;obtain⟨q5,q6⟩:=ziV q2;refine⟨hb.box,es,clock,R',h1,rfl,by grind,fun i row e hi he=>?_⟩;obtain⟨row0,hi0,hrow⟩:=q6 i row hi;obtain⟨k,n,vc,x,rfl,p2,p3,p4⟩:=h4 i row0 e hi0 he;obtain⟨y1,ys1,rfl,s1,s2⟩:=zfW hrow;obtain⟨y2,ys2,rfl,s3,s4⟩:=zfW s2;obtain rfl:=znT s1;obtain rfl:=znT s3
 grind [zu1]
theorem zwu(hr:zi8 ρ j j'){b b':Blk}{l:Nat}(h:zhj ρ b=some b')(hb:IB σ j b l w):IB σ j' b' l w:=by
 unfold zhj at h;rw[if_pos hb.box]at h;simp only[ja]at h;obtain⟨rs,hrs,rfl⟩:=h;have ints:∀{cs ys:List Cl},zfe ρ cs=some ys->(∀c∈cs,∃n,c=.int .i64 n)->ys=cs:=by
  intro cs;induction cs with
  |nil=>intro ys h _;cases h;rfl
  |cons c cs ih =>
   intro ys h hc;obtain⟨y,ys',rfl,q1,q2⟩:=zfW h;obtain⟨n,rfl⟩:=hc c (jy ..)
   grind [znT,List.mem_cons_of_mem]
 rcases hb.st with⟨h1,h2⟩ |⟨id,g,m,since,last,h0,hh⟩
 ·rw[h2]at hrs;obtain⟨y,R',rfl,q1,q2⟩:=zkn hrs;cases q2;obtain⟨z,zs,rfl,q3,q4⟩:=zfW q1;cases q4;simp[zeS,qM]at q3;subst q3;exact⟨hb.box,.inl ⟨h1,rfl⟩⟩
 ·have key:∀tl:List Cl,(∀c∈tl,∃n,c=.int .i64 n)->b.rows=[.map id g::tl]->∃id',ρ id=some id'/\rs=[.map id' g::tl]:=by
   intro tl ht h2;rw[h2]at hrs;obtain⟨y,R',rfl,q1,q2⟩:=zkn hrs;cases q2;obtain⟨z,zs,rfl,q3,q4⟩:=zfW q1
   grind [zeS,qM,Option.map_eq_some_iff]
  rcases hh with⟨h1,h2⟩ |⟨s,h1,h2⟩
  ·obtain⟨id',hid,rfl⟩:=key _ (by simp) h2;exact⟨hb.box,.inr ⟨id',g,m,since,last,hr _ _ _ _ hid h0,.inl ⟨h1,rfl⟩⟩⟩
  ·obtain⟨id',hid,rfl⟩:=key _ (by simp) h2;exact⟨hb.box,.inr ⟨id',g,m,since,last,hr _ _ _ _ hid h0,.inr ⟨s,h1,rfl⟩⟩⟩
theorem zkp(hr:zi8 ρ j j'){b b':Blk}{pl:Pl}(h:zhj ρ b=some b')(hb:BR σ j b pl w):BR σ j' b' pl w:=by
 obtain⟨e1,e2,e3,e4,e5,e6⟩:=zcE h;cases pl with
 |empty =>
  obtain⟨h1,h2⟩:=hb;refine⟨?_,by grind⟩
  grind
 |rnd l r f sh =>
  obtain⟨s,cells,pd,vs,h1,h2,h3,h4,h5⟩:=hb.st;unfold zhj at h;rw[if_pos hb.box]at h;simp only[ja]at h;obtain⟨rs,hrs,rfl⟩:=h;rw[h1]at hrs;simp only[zez]at hrs;split at hrs
  ·rename_i y ys hy hys;cases hys;cases hrs;simp only[zfe,zeS,qM]at hy;split at hy
   ·rename_i y' ys' e' hys';cases e';cases hy;exact(⟨hb.box,hb.ok,s,ys',pd,vs,rfl,h2,h3,ziW hr hys' h4,h5⟩:RB σ j' { b with rows:=[.int .i64 s::ys'] } l r f sh w)
   grind
  grind
 |mp l g=>exact zwt hr h hb
 |mi l=>exact zwu hr h hb
 |loc L =>
  obtain⟨C,T,fr,hC,hfr,hsz,hrow⟩:=hb.heap;have key:(∀row∈b'.rows,row.length=b.esz)/\zDq σ (if b.box then j' else zb1) b' L C:=by
   unfold zhj at h;split at h
   ·simp only[ja]at h;obtain⟨rs,hrs,rfl⟩:=h;obtain⟨h1,h2⟩:=ziV hrs;refine⟨fun row hrow'=>?_,fun i row n cl hi hn=>?_⟩
    ·obtain⟨n,hn⟩:=jW hrow';obtain⟨r0,h3,h4⟩:=h2 n row hn;rw[(zoE h4).1];exact hb.len r0 (zat h3)
    ·obtain⟨r0,h3,h4⟩:=h2 i row hi;obtain⟨c0,h5,h6⟩:=(zoE h4).2 n cl hn;obtain⟨v,hv,hvc⟩:=hrow i r0 n c0 h3 h5
     grind [zko]
   ·cases h;refine⟨hb.len,fun i row n cl hi hn=>?_⟩;obtain⟨v,hv,hvc⟩:=hrow i row n cl hi hn
    grind
  exact(⟨by rw[e2];exact hb.esz,by rw[e2];exact hb.pos,by grind,by rw[e6,e2];exact hb.fit,⟨C,T,fr,hC,fun h=>⟨by grind,(hfr h).2⟩,hsz,by grind⟩,
   fun o h1 h2=>hb.A0 o h1 (fun h=>by grind)⟩:BL σ j' b' L w)
theorem zkA:∀{ids:List Nat} {id k:Nat},zd3 ids id=some k->ids[k]?=some id
 |[],id,k,h=>by grind [zd3]
 |x::xs,id,k,h=>by
  simp only[zd3]at h;split at h
  ·grind
  ·simp only[ja]at h;obtain⟨q,hq,rfl⟩:=h;simpa using zkA hq
theorem zgy:∀{ids:List Nat},zku ids=true->ids.Nodup
 |[],_=>List.nodup_nil
 |x::xs,h=>by
  simp only[zku,jl,qs,List.contains_eq_mem,decide_eq_false_iff_not]at h;exact qN.2 ⟨h.1,zgy h.2⟩
theorem zg4:∀{ids:List Nat} {id k:Nat},ids.Nodup->ids[k]?=some id->zd3 ids id=some k
 |[],id,k,_,h=>by grind
 |x::xs,id,k,hn,h=>by
  obtain⟨h1,h2⟩:=qN.1 hn;cases k with
  |zero=>grind [zd3]
  |succ k =>
   have:x≠id:=by grind
   simp[zd3,this,zg4 h2 h]
theorem zwU{ids:List Nat}{id:Nat}(h:zd3 ids id=none):id∉ids:=by
 induction ids with
 |nil=>simp
 |cons x xs ih =>
  grind [zd3,Option.map_eq_none_iff]
theorem zjj{ids:List Nat}{id:Nat}(h:id∉ids):zd3 ids id=none:=by
 cases hh:zd3 ids id with
 |none=>rfl
 |some k=>exact absurd (kJ (zkA hh)) h
theorem zfp:∀{ids:List Nat} {Ms:Mem},zck M ρ ids=some Ms->Ms.length=ids.length/\(∀(k id:Nat),ids[k]?=some id->∃b b',M[id]?=some (some b)/\zhj ρ b=some b'/\Ms[k]?=some (some b')) /\
  ∀(k:Nat) (b':Blk),Ms[k]?=some (some b')->∃id b,ids[k]?=some id/\M[id]?=some (some b)/\zhj ρ b=some b'
 |[],Ms,h=>by simp only[zck,jh]at h;subst h;exact⟨rfl,by simp,by simp⟩
 |id::ids,Ms,h=>by
  simp only[zck]at h;split at h
  ·rename_i b bs hb hbs;simp only[ja]at h;obtain⟨h1,h2,h3⟩:=zfp hbs
   grind
  grind
def zdx(ids:List Nat)(j:Inj):Inj:=fun k g=>match ids[k]? with
 |some id=>j id g
 |none=>none
theorem zkg(ids:List Nat)(j:Inj):zi8 (zd3 ids) j (zdx ids j):=by
 intro id k g pl hk hj;simp[zdx,zkA hk,hj]
def zig(ids:List Nat)(j:Inj)(M:Mem)(w:World):Nat->Prop:=fun k=>(∃id∈ids,∃b,M[id]?=some (some b)/\j.atk id b.gen=some k)\/w.heap.size<=k
theorem MR.sub{ids:List Nat}{Ms:Mem}(hm:MR own σ j M w)(hn:ids.Nodup)(h:zck M (zd3 ids) ids=some Ms):MR (zig ids j M w) σ (zdx ids j) Ms w:=by
 obtain⟨h1,h2,h3⟩:=zfp h;refine⟨fun k b' hb'=>?_,fun k k' b b' q hb hb' hL hL'=>?_,fun k g pl hj=>?_,fun k g pl hj=>?_⟩
 ·obtain⟨id,b,q1,q2,q3⟩:=h3 k b' hb';obtain⟨pl,hpl,hbr,_⟩:=hm.vL id b q2;obtain⟨_,_,e3,_⟩:=zcE q3;refine⟨pl,by grind [zdx],zkp (zkg ids j) q3 hbr,fun L e=>?_⟩;exact .inl ⟨id,kJ q1,b,q2,Inj.yf hpl e⟩
 ·obtain⟨id,b0,q1,q2,q3⟩:=h3 k b hb;obtain⟨id',b0',q1',q2',q3'⟩:=h3 k' b' hb';obtain⟨_,_,e3,_⟩:=zcE q3;obtain⟨_,_,e3',_⟩:=zcE q3';have hL:j.atk id b0.gen=some q:=by grind [Inj.atk,zdx]
  have hL':j.atk id' b0'.gen=some q:=by grind [Inj.atk,zdx]
  have:=hm.vo id id' b0 b0' q q2 q2' hL hL';subst this;have:=zg4 hn q1;rw[zg4 hn q1']at this
  grind
 ·simp only[zdx]at hj;split at hj
  ·rename_i id hid;obtain⟨b,hb,hg⟩:=hm.dom id g pl hj;obtain⟨b0,b',q1,q2,q3⟩:=h2 k id hid;obtain⟨_,_,e3,_⟩:=zcE q2
   grind
  grind
 ·simp only[zdx]at hj;split at hj
  ·exact hm.okP _ _ _ hj
  grind
end
end Go.Eng
namespace Go.Eng
open Go
variable[zb0]
section
variable{own:Nat->Prop}{σ:zP}{j j':Inj}{M:Mem}{w:World}{P:Program}{ρ:Nat->Option Nat}
theorem zrK:∀{ids:List Nat} {Ms M M':Mem} {ch:List Nat},ids.Nodup->back ρ ids Ms M=some (M',ch)->M'.length=M.length/\ids.length<=Ms.length/\(∀id,id∉ids->M'[id]?=M[id]?)/\(∀id∈ch,id∈ids) /\
  ∀(k id:Nat),ids[k]?=some id->∃b b0,Ms[k]?=some (some b)/\M[id]?=some (some b0)/\((b.ver=b0.ver/\M'[id]?=some (some b0))\/(b.ver≠b0.ver/\id∈ch/\∃b',zhj ρ b=some b'/\M'[id]?=some (some b')))
 |[],Ms,M,M',ch,_,h=>by
  obtain⟨rfl,rfl⟩:=h;exact⟨rfl,by simp,fun _ _=>rfl,by simp,by simp⟩
 |id::ids,[],M,M',ch,_,h=>by grind [back]
 |id::ids,none::Ms,M,M',ch,_,h=>by grind [back]
 |id::ids,some b::Ms,M,M',ch,hn,h=>by
  obtain⟨hni,hn'⟩:=qN.1 hn;simp only[back]at h;split at h
  ·split at h
   ·obtain⟨h1,h1',h2,h2',h3⟩:=zrK hn' h
    grind
   ·split at h
    ·rename_i b' M1 ch1 hb' Cu;obtain⟨h1,h1',h2,h2',h3⟩:=zrK hn' Cu
     grind
    grind
  grind
theorem zqD:∀{Ms Ms':Mem},zgx ρ Ms=some Ms'->Ms'.length=Ms.length/\(∀(k:Nat) (b':Blk),Ms'[k]?=some (some b')->∃b,Ms[k]?=some (some b)/\zhj ρ b=some b') /\
  ∀(k:Nat) (b:Blk),Ms[k]?=some (some b)->∃b',Ms'[k]?=some (some b')/\zhj ρ b=some b'
 |[],Ms',h=>by simp only[zgx,jh]at h;subst h;exact⟨rfl,by simp,by simp⟩
 |none::Ms,Ms',h=>by grind [zgx]
 |some b::Ms,Ms',h=>by
  simp only[zgx]at h;split at h
  ·rename_i b' bs' hb hbs;obtain⟨h1,h2,h3⟩:=zqD hbs
   grind
  grind
def zeb(ids:List Nat)(m:Nat):Nat->Option Nat:=fun k=>match ids[k]? with
 |some id=>some id
 |none=>some (m+(k-ids.length))
def zhY(ids:List Nat)(m:Nat)(j j':Inj):Inj:=fun id g=>match zd3 ids id with
 |some k=>j' k g
 |none=>if id<m then j id g else j' (ids.length+(id-m)) g
theorem zwL{ids:List Nat}{m:Nat}{j j':Inj}(hn:ids.Nodup)(hlt:∀id∈ids,id<m):zi8 (zeb ids m) j' (zhY ids m j j'):=by
 intro k id g pl hk hj;simp only[zeb]at hk;split at hk
 ·rename_i id' hid;cases hk;simp[zhY,zg4 hn hid,hj]
 ·cases hk;have hni:m+(k-ids.length)∉ids:=fun h=>by grind
  simp_all [zhY,zjj,if_neg]
theorem zt1{ids:List Nat}{Ms Ms':Mem}{σ':zP}{w':World}{r r3:AV}{M3:Mem}{fp:FP}{v:Value}(hm:MR own σ j M w)(hag:zM σ w)(hn:ids.Nodup)(hown:∀b,w.heap.size<=b->own b)
  (hs:zck M (zd3 ids) ids=some Ms) (yR:zM σ' w') (hm':MR (zig ids j M w) σ' j' Ms' w') (hst:za2 (zig ids j M w) Ms.length σ (zdx ids j) Ms w σ' j' Ms' w') (hr:AVR σ' j' r v)
  (h:uG ids M r Ms'=some (r3,M3,fp)) :
  ∃jn,AVR σ' jn r3 v/\MR own σ' jn M3 w'/\za2 own M.length σ j M w σ' jn M3 w'/\(fp=.no->M3.length=M.length->(∀(id:Nat) (b:Blk),M[id]?=some (some b)->M3[id]?=some (some b))/\∀(id:Nat) (b:Blk) (q:Nat),M[id]?=some (some b)->j.atk id b.gen=some q->w'.heap[q]?=w.heap[q]?):=by
 obtain⟨t1,t2,t3⟩:=zfp hs;have hlt:∀id∈ids,id<M.length:=by
  intro id hid;obtain⟨k,hk⟩:=jW hid;obtain⟨b,_,hb,_⟩:=t2 k id hk;exact zC hb
 have Da:∀b,zig ids j M w b->own b:=by
  rintro b (⟨id,hid,b0,hb0,hL⟩|h)
  ·exact hm.CB hb0 hL
  ·exact hown b h
 simp only[uG]at h;split at h
 ·rename_i M1 ch new r1 Cu Bn hr1;simp only[jh,jt]at h;obtain⟨rfl,rfl,rfl⟩:=h;have Cu:back (zeb ids M.length) ids Ms' M=some (M1,ch):=Cu;have Bn:zgx (zeb ids M.length) (Ms'.drop ids.length)=some new:=Bn;have hr1:znn (zeb ids M.length) r=some r1:=hr1;obtain⟨b1,b1',b2,b2',b3⟩:=zrK hn Cu;obtain⟨n1,n2,n3⟩:=zqD Bn;have By:=zwL (j:=j) (j':=j') (m:=M.length) hn hlt;generalize hjn:zhY ids M.length j j'=jn at By;have jin:∀k id g,ids[k]?=some id->jn id g=j' k g:=by
   intro k id g hk;rw[<-hjn];simp[zhY,zg4 hn hk]
  have jout:∀id g,id∉ids->id<M.length->jn id g=j id g:=by
   intro id g h1 h2;rw[<-hjn];simp[zhY,zjj h1,h2]
  have jnew:∀q g,jn (M.length+q) g=j' (ids.length+q) g:=by
   intro q g;rw[<-hjn];have hni:M.length+q∉ids:=fun h=>by have:=hlt _ h;omega
   have e:ids.length+(M.length+q-M.length)=ids.length+q:=by omega
   simp only[zhY,zjj hni];rw[if_neg (by omega),e]
  have jle:j.le jn:=by
   intro id g pl hj;by_cases hid:id∈ids
   ·obtain⟨k,hk⟩:=jW hid;rw[jin k id g hk];refine hst.jle k g pl (by grind) ?_;simp[zdx,hk,hj]
   ·rw[jout id g hid (hm.lt hj)];exact hj
  have Bm:∀id b q,id∉ids->M[id]?=some (some b)->j.atk id b.gen=some q->¬zig ids j M w q:=by
   rintro id b q hid hb hL (⟨id',yw,b',hb',hL'⟩|h)
   ·have:=hm.vo id' id b' b q hb' hb hL' hL;subst this;exact hid yw
   ·exact absurd (hm.uh hb hL) (by omega)
  have BV:∀k id b,ids[k]?=some id->M[id]?=some (some b)->∀b2,Ms'[k]?=some (some b2)->b2.ver=b.ver->b2.gen=b.gen/\b2.fz=b.fz/\b2.rows.length=b.rows.length/\b2.esz=b.esz/\j' k b.gen=j id b.gen/\∀q,j.atk id b.gen=some q->w'.heap[q]?=w.heap[q]?:=by
   intro k id b hk hb b2' hb2 hv;obtain⟨c,c',q1,q2,q3⟩:=t2 k id hk;rw[hb]at q1;cases q1;obtain⟨e1,e2,e3,e4,e5,e6⟩:=zcE q2;obtain⟨d,hd,_,hd2⟩:=hst.uV k c' (by rw[t1];exact zC hk) q3;rw[hb2]at hd;cases hd;obtain⟨rfl,yF⟩:=hd2 (by rw[e5];exact hv);refine⟨e3,e4,e6,e2,?_,fun q hL=>yF q (by simpa [Inj.atk,zdx,hk,e3]using hL)⟩;obtain⟨pl,hpl,_⟩:=hm.vL id b hb;rw[hpl];exact hst.jle k b.gen pl (by rw[t1];exact zC hk) (by simp[zdx,hk,hpl])
  have hlen1:(M1++new).length=M.length+new.length:=by simp[b1]
  have hblk:∀(id:Nat) (b:Blk),(M1++new)[id]?=some (some b) ->
    (∃(k:Nat) (b0:Blk),ids[k]?=some id/\M[id]?=some (some b0)/\(∃b2,Ms'[k]?=some (some b2)/\((b2.ver=b0.ver/\b=b0)\/(b2.ver≠b0.ver/\id∈ch/\zhj (zeb ids M.length) b2=some b)))) \/
    (id∉ids/\M[id]?=some (some b))\/(∃q b2,id=M.length+q/\Ms'[ids.length+q]?=some (some b2)/\zhj (zeb ids M.length) b2=some b):=by
   intro id b hb;rw[ub]at hb;split at hb
   ·rename_i hidl;by_cases hid:id∈ids
    ·obtain⟨k,hk⟩:=jW hid;obtain⟨c,c0,q1,q2,q3⟩:=b3 k id hk;refine .inl ⟨k,c0,hk,q2,c,q1,?_⟩;rcases q3 with⟨q3,q4⟩ |⟨q3,q5,b',q6,q7⟩
     ·rw[hb]at q4;cases q4;exact .inl ⟨q3,rfl⟩
     ·rw[hb]at q7;cases q7;exact .inr ⟨q3,q5,q6⟩
    grind
   ·rename_i hidl;rw[b1]at hidl hb;obtain⟨c,q1,q2⟩:=n2 _ _ hb;rw[qT]at q1;exact .inr (.inr ⟨id-M.length,c,by omega,q1,q2⟩)
  have Du:∀(id:Nat) (b:Blk) (L:Nat),(M1++new)[id]?=some (some b)->jn.atk id b.gen=some L ->
    (∃k b2,Ms'[k]?=some (some b2)/\j'.atk k b2.gen=some L/\zeb ids M.length k=some id)\/(id∉ids/\M[id]?=some (some b)/\j.atk id b.gen=some L):=by
   intro id b L hb hL;simp only[Inj.atk]at hL ⊢;rcases hblk id b hb with⟨k,b0,hk,hb0,b2,hb2,hc⟩ |⟨hid,hb0⟩ |⟨q,b2,rfl,hb2,AY⟩
   ·refine .inl ⟨k,b2,hb2,?_,by simp[zeb,hk]⟩;rw[jin k id _ hk]at hL;rcases hc with⟨hv,rfl⟩ |⟨_,_,AY⟩
    ·grind
    ·obtain⟨_,_,e3,_⟩:=zcE AY
     grind
   ·grind
   ·obtain⟨_,_,e3,_⟩:=zcE AY;refine .inl ⟨ids.length+q,b2,hb2,by rw[<-jnew,<-e3];exact hL,?_⟩;simp only[zeb];rw[qE (by omega)];simp
  refine⟨jn,znm By hr1 hr,⟨fun id b hb=>?_,fun id id' b b' L hb hb' hL hL'=>?_,fun id g pl hj=>?_,fun id g pl hj=>by
   rw[<-hjn]at hj;simp only[zhY]at hj;split at hj
   ·exact hm'.okP _ _ _ hj
   ·split at hj
    ·exact hm.okP _ _ _ hj
    ·exact hm'.okP _ _ _ hj⟩,?_,?_⟩
  ·rcases hblk id b hb with⟨k,b0,hk,hb0,b2,hb2,hc⟩ |⟨hid,hb0⟩ |⟨q,b2,rfl,hb2,AY⟩
   ·rcases hc with⟨hv,rfl⟩ |⟨_,_,AY⟩
    ·obtain⟨s1,s2,s3,s3',s4,s5⟩:=BV k id b hk hb0 b2 hb2 hv;obtain⟨pl,hpl,hbr,ho⟩:=hm.vL id b hb0;refine⟨pl,by rw[jin k id _ hk,s4];exact hpl,hbr.mono hst.sle jle (fun L e=>s5 L (Inj.yf hpl e)) (fun L e o _ h1 h2=>?_),ho⟩;subst e;obtain⟨pl2,hpl2,hbr2,_⟩:=hm'.vL k b2 hb2;rw[s1,s4,hpl]at hpl2;cases hpl2;have hbr2:BL σ' j' b2 L w':=hbr2;refine hbr2.A0 o h1 (fun hf=>?_);rw[s3,s3'];exact h2 (by rw[<-s2];exact hf)
    ·obtain⟨pl,hpl,hbr,ho⟩:=hm'.vL k b2 hb2;obtain⟨_,_,e3,_⟩:=zcE AY;exact⟨pl,by rw[jin k id _ hk,e3];exact hpl,zkp By AY hbr,fun L e=>Da _ (ho L e)⟩
   ·obtain⟨pl,hpl,hbr,ho⟩:=hm.vL id b hb0;refine⟨pl,jle _ _ _ hpl,hbr.mono hst.sle jle (fun L e=>?_) (fun L e o hold h1 h2=>?_),ho⟩
    ·exact hst.frame _ (hm.uh hb0 (Inj.yf hpl e)) (Bm id b L hid hb0 (Inj.yf hpl e))
    ·subst e;cases hh:σ' L.blk o with
     |none=>rfl
     |some v =>
      rcases hst.B6 _ _ _ hh with h|h
      ·rw[hold]at h;cases h
      ·exact absurd h (Bm id b L.blk hid hb0 (Inj.uQ hpl))
   ·obtain⟨pl,hpl,hbr,ho⟩:=hm'.vL _ b2 hb2;obtain⟨_,_,e3,_⟩:=zcE AY;exact⟨pl,by rw[jnew,e3];exact hpl,zkp By AY hbr,fun L e=>Da _ (ho L e)⟩
  ·rcases Du id b L hb hL with⟨k,c,hc,hcL,hk⟩ |⟨hid,hb0,hL0⟩<;>rcases Du id' b' L hb' hL' with⟨k',c',hc',hcL',hk'⟩ |⟨yw,hb0',hL0'⟩
   ·have:=hm'.vo k k' c c' L hc hc' hcL hcL';subst this;rw[hk]at hk';cases hk';rfl
   ·exact absurd (hm'.CB hc hcL) (Bm id' b' L yw hb0' hL0')
   ·exact absurd (hm'.CB hc' hcL') (Bm id b L hid hb0 hL0)
   ·exact hm.vo id id' b b' L hb0 hb0' hL0 hL0'
  ·rw[<-hjn]at hj;simp only[zhY]at hj;split at hj
   ·rename_i k hk;have hk:=zkA hk;obtain⟨b2',hb2,hg⟩:=hm'.dom k g pl hj;obtain⟨c,c0,q1,q2,q3⟩:=b3 k id hk;rw[hb2]at q1;cases q1;have hl:=zC q2;rcases q3 with⟨q3,q4⟩ |⟨q3,_,b',q6,q7⟩
    ·exact⟨c0,by rw[jq (by omega)];exact q4,by rw[<-(BV k id c0 hk q2 _ hb2 q3).1];exact hg⟩
    ·obtain⟨_,_,e3,_⟩:=zcE q6;exact⟨b',by rw[jq (by omega)];exact q7,by rw[e3];exact hg⟩
   ·rename_i hk;have hni:=zwU hk;split at hj
    ·rename_i hl;obtain⟨b,hb,hg⟩:=hm.dom id g pl hj;exact⟨b,by rw[jq (by omega),b2 id hni];exact hb,hg⟩
    ·rename_i hl;obtain⟨b2',hb2,hg⟩:=hm'.dom _ g pl hj;obtain⟨b',hb',hrr⟩:=n3 (id-M.length) b2' (by rw[qT];exact hb2);obtain⟨_,_,e3,_⟩:=zcE hrr;exact⟨b',by rw[jX (by omega),b1];exact hb',by rw[e3];exact hg⟩
  ·refine⟨hst.sle,fun id g pl _ h=>jle id g pl h,hst.size,fun b hb ho=>hst.frame b hb (fun h=>ho (Da b h)),fun b o v hv=>(hst.B6 b o v hv).imp id (Da b),fun id b hid hb=>?_,hst.side⟩;by_cases hin:id∈ids
   ·obtain⟨k,hk⟩:=jW hin;obtain⟨c,c0,q1,q2,q3⟩:=b3 k id hk;rw[hb]at q2;cases q2;rcases q3 with⟨q3,q4⟩ |⟨q3,_,b',q6,q7⟩
    ·exact⟨b,by rw[jq (by omega)];exact q4,jm _,fun _=>⟨rfl,(BV k id b hk hb c q1 q3).2.2.2.2.2⟩⟩
    ·obtain⟨_,_,_,_,e5,_⟩:=zcE q6;obtain⟨d,d',r1,r2,r3⟩:=t2 k id hk;rw[hb]at r1;cases r1;obtain⟨_,_,_,_,e5',_⟩:=zcE r2;obtain⟨x,hx,hx1,_⟩:=hst.uV k d' (by rw[t1];exact zC hk) r3;rw[q1]at hx;cases hx;exact⟨b',by rw[jq (by omega)];exact q7,by rw[e5,<-e5'];exact hx1,fun h=>absurd (e5 ▸ h) q3⟩
   ·exact⟨b,by rw[jq (by omega),b2 id hin];exact hb,jm _,fun _=>⟨rfl,fun L hL=>hst.frame _ (hm.uh hb hL) (Bm id b L hin hb hL)⟩⟩
  ·intro hfp hlen;have hch:ch=[]:=by
    cases ch with
    |nil=>rfl
    |cons x xs=>simp at hfp
   subst hch;have hno:∀(k id:Nat),ids[k]?=some id->∃(b b0:Blk),Ms'[k]?=some (some b)/\M[id]?=some (some b0)/\b.ver=b0.ver/\M1[id]?=some (some b0):=by
    intro k id hk;obtain⟨c,c0,q1,q2,q3⟩:=b3 k id hk;rcases q3 with⟨q3,q4⟩ |⟨_,q4,_⟩
    ·exact⟨c,c0,q1,q2,q3,q4⟩
    ·cases q4
   refine⟨fun id b hb=>?_,fun id b L hb hL=>?_⟩
   ·rw[jq (by rw[b1];exact zC hb)];by_cases hin:id∈ids
    ·obtain⟨k,hk⟩:=jW hin;obtain⟨c,c0,q1,q2,q3,q4⟩:=hno k id hk;rw[hb]at q2;cases q2;exact q4
    ·rw[b2 id hin];exact hb
   ·by_cases hin:id∈ids
    ·obtain⟨k,hk⟩:=jW hin;obtain⟨c,c0,q1,q2,q3,q4⟩:=hno k id hk;rw[hb]at q2;cases q2;exact(BV k id b hk hb c q1 q3).2.2.2.2.2 L hL
    ·exact hst.frame _ (hm.uh hb hL) (Bm id b L hin hb hL)
 grind
end
end Go.Eng
namespace Go.Eng
open Go
variable[zb0]
section
variable{own:Nat->Prop}{σ:zP}{j j':Inj}{M:Mem}{w:World}{P:Program}{ρ:Nat->Option Nat}
theorem MR.BS{AT:Nat->Prop}(h:MR own σ j M w)(ho:∀b,b<w.heap.size->own b->AT b):MR AT σ j M w :=
 ⟨fun id b hb=>by
  obtain⟨pl,h1,h2,h3⟩:=h.vL id b hb;exact⟨pl,h1,h2,fun L e=>ho _ (h.uh hb (Inj.yf h1 e)) (h3 L e)⟩,h.vo,h.dom,h.okP⟩
def zbs(ρ:Nat->Option Nat)(k:Nat):Prop:=∀id,id<k->ρ id=some id
theorem zwv{k:Nat}(hk:zbs ρ k){c:Cl}(h1:zr c=true)(h2:yq c<=k):qM ρ c=some c:=by
 cases c with
 |ptr id g i o=>simp only[yq]at h2;simp[qM,hk id (by omega)]
 |slice id g es off len cap=>simp only[yq]at h2;simp[qM,hk id (by omega)]
 |yld id f sh=>simp only[yq]at h2;simp[qM,hk id (by omega)]
 |map id g=>simp only[yq]at h2;simp[qM,hk id (by omega)]
 |mit id=>simp only[yq]at h2;simp[qM,hk id (by omega)]
 |bsl id g i k0 es len cap=>simp only[yq]at h2;simp[qM,hk id (by omega)]
 |fn f fi ca =>
  cases fi with
  |nil=>cases ca with
   |nil=>rfl
   |cons=>grind [zr]
  |cons=>grind [zr]
 |iface=>grind [zr]
 |_=>rfl
theorem ziX{k:Nat}(hk:zbs ρ k):∀{cs:List Cl},cs.all (fun x=>zr x&&yq x<=k)=true->Ah ρ cs=some cs
 |[],_=>rfl
 |c::cs,h=>by
  simp only[qz,jl,decide_eq_true_eq]at h;simp[Ah,zwv hk h.1.1 h.1.2,ziX hk (by simpa using h.2)]
theorem zqF{k:Nat}(hk:zbs ρ k){c:Cl}(h:below k c=true):zeS ρ c=some c:=by
 cases c with
 |fn f fi ca =>
  simp only[below,jl]at h
  grind [zeS,ziX]
 |iface t a cs=>grind [below,zeS,ziX]
 |ptr id g i o=>have h:=of_decide_eq_true (show decide (id+1<=k)=true from h);simp[zeS,qM,hk id (by omega)]
 |slice id g es off len cap=>have h:=of_decide_eq_true (show decide (id+1<=k)=true from h);simp[zeS,qM,hk id (by omega)]
 |yld id f sh=>have h:=of_decide_eq_true (show decide (id+1<=k)=true from h);simp[zeS,qM,hk id (by omega)]
 |map id g=>have h:=of_decide_eq_true (show decide (id+1<=k)=true from h);simp[zeS,qM,hk id (by omega)]
 |mit id=>have h:=of_decide_eq_true (show decide (id+1<=k)=true from h);simp[zeS,qM,hk id (by omega)]
 |bsl id g i k0 es len cap=>have h:=of_decide_eq_true (show decide (id+1<=k)=true from h);simp[zeS,qM,hk id (by omega)]
 |_=>rfl
theorem zlT{k:Nat}(hk:zbs ρ k):∀{cs:List Cl},cs.all (below k)=true->zfe ρ cs=some cs
 |[],_=>rfl
 |c::cs,h=>by
  simp only[qz,jl]at h;simp[zfe,zqF hk h.1,zlT hk h.2]
theorem zm7{k:Nat}(hk:zbs ρ k):∀{rs:List (List Cl)},rs.all (fun r=>r.all (below k))=true->zez ρ rs=some rs
 |[],_=>rfl
 |c::cs,h=>by
  simp only[qz,jl]at h;simp[zez,zlT hk h.1,zm7 hk h.2]
theorem zqC{k:Nat}(hk:zbs ρ k){x:WV}(h:x.below k=true):zpM ρ x=some x:=by
 cases x with
 |c x=>grind [WV.below,WV.cells,zpM,zqF]
 |a cs=>grind [WV.below,WV.cells,zpM,zlT]
theorem zpm{k:Nat}(hk:zbs ρ k):∀{xs:List WV},xs.all (WV.below k)=true->ziU ρ xs=some xs
 |[],_=>rfl
 |c::cs,h=>by
  simp only[qz,jl]at h;simp[ziU,zqC hk h.1,zpm hk h.2]
theorem zqH{k:Nat}(hk:zbs ρ k){x:AV}(h:x.below k=true):znn ρ x=some x:=by
 cases x with
 |w x=>simp[znn,zqC hk (show x.below k=true from h)]
 |t xs=>simp[znn,zpm hk (show xs.all (WV.below k)=true from h)]
 |u=>rfl
theorem zqG{k:Nat}(hk:zbs ρ k){b:Blk}(h:b.below k=true):zhj ρ b=some b:=by
 unfold Blk.below at h;unfold zhj;cases hb:b.box with
 |false=>simp
 |true =>
  simp[zm7 hk (show b.rows.all (fun r=>r.all (below k))=true from by grind)];cases b;grind
def Inj.lt(j:Inj)(k:Nat):Prop:=∀id g pl,j id g=some pl->id<k
theorem zsV{k:Nat}(hk:zbs ρ k)(hj:j.lt k){c c':Cl}{v:Value}(h:qM ρ c=some c')(hv:VC σ j c v):c'=c:=by
 cases hv with
 |ptr _ id g i o L hL=>simp[qM,hk id (hj _ _ _ hL)]at h;grind
 |slice _ id g es off len cap pl a c hL=>simp[qM,hk id (hj _ _ _ hL)]at h;grind
 |yld _ id f sh l r hL=>simp[qM,hk id (hj _ _ _ hL)]at h;grind
 |map _ id g l hL=>simp[qM,hk id (hj _ _ _ hL)]at h;grind
 |mit _ id l hL=>simp[qM,hk id (hj _ _ _ hL)]at h;grind
 |bsl _ id g i k es len cap L a hL=>simp[qM,hk id (hj _ _ _ hL)]at h;grind
 |fn _ f fi ca =>
  grind [qM]
 |yD=>grind [qM]
 |yC=>grind [qM]
 |_=>simp[qM]at h;exact h.symm
theorem zii{k:Nat}(hk:zbs ρ k)(hj:j.lt k):∀{cs cs':List Cl} {vs:List Value},Ah ρ cs=some cs'->VCs σ j cs vs->cs'=cs
 |[],cs',vs,h,hv=>by grind [Ah]
 |c::cs,cs',vs,h,hv=>by
  obtain⟨v,vs',rfl,hv,hs⟩:=hv.kO;simp only[Ah]at h;split at h
  ·rename_i y ys h1 h2;cases h;rw[zsV hk hj h1 hv,zii hk hj h2 hs]
  grind
theorem zyc{k:Nat}(hk:zbs ρ k)(hj:j.lt k){c c':Cl}{v:Value}(h:zeS ρ c=some c')(hv:VC σ j c v):c'=c:=by
 cases c with
 |fn f fi ca =>
  cases hv with
  |fn _ _ _ _ fi' ca' l1 l2 h1 h2 =>
   simp only[zeS]at h;split at h
   ·rename_i y ys q1 q2;cases h;rw[zii hk hj q1 (⟨l1,h1⟩:VCs σ j fi fi'.toList),zii hk hj q2 (⟨l2,h2⟩:VCs σ j ca ca'.toList)]
   grind
 |iface t a cs =>
  simp only[zeS,ja]at h;obtain⟨ys,q1,rfl⟩:=h;cases hv with
  |yD _ _ c v hv=>rw[zii hk hj q1 (VCs.cons hv VCs.nil)]
  |yC _ _ _ vs l hv=>rw[zii hk hj q1 (⟨l,hv⟩:VCs σ j cs vs.toList)]
 |_=>exact zsV hk hj (by simpa [zeS]using h) hv
theorem zqE{k:Nat}(hk:zbs ρ k)(hj:j.lt k):∀{cs cs':List Cl} {vs:List Value},zfe ρ cs=some cs'->VCs σ j cs vs->cs'=cs
 |[],cs',vs,h,hv=>by grind [zfe]
 |c::cs,cs',vs,h,hv=>by
  obtain⟨v,vs',rfl,hv,hs⟩:=hv.kO;simp only[zfe]at h;split at h
  ·rename_i y ys h1 h2;cases h;rw[zyc hk hj h1 hv,zqE hk hj h2 hs]
  grind
theorem BL.rowVCs{b:Blk}{L:Loc}(h:BL σ j b L w)(hb:b.box=true){i:Nat}{row:List Cl}(hi:b.rows[i]?=some row):∃vs,VCs σ j row vs:=by
 obtain⟨C,T,fr,hC,hfr,hsz,hrow⟩:=h.heap;refine⟨(List.range row.length).map (fun n=>C[L.off+i*b.esz+n]?.getD undef),by simp,fun n c v hc hv=>?_⟩;obtain⟨v',hv',hvc⟩:=hrow i row n c hi hc
 grind
theorem zgw{k:Nat}(hk:zbs ρ k)(hj:j.lt k):∀{rs rs':List (List Cl)},zez ρ rs=some rs'->(∀r∈rs,∃vs,VCs σ j r vs)->rs'=rs
 |[],rs',h,hv=>by grind [zez]
 |c::cs,cs',h,hv=>by
  simp only[zez]at h;split at h
  ·rename_i y ys h1 h2;cases h;obtain⟨vs,hvs⟩:=hv c (jy ..);rw[zqE hk hj h1 hvs,zgw hk hj h2 (fun r hr=>hv r (jI _ hr))]
  grind
theorem zr8{g:Bool}{cs:List Cl}{x:WV}(h:zaI g cs=some x):x.cells=cs:=by
 cases g with
 |true=>simp[zaI]at h;subst h;rfl
 |false=>match cs,h with
  |[c],h=>simp[zaI]at h;subst h;rfl
theorem zBo{k:Nat}(hk:zbs ρ k)(hj:j.lt k){b b':Blk}{pl:Pl}(h:zhj ρ b=some b')(hb:BR σ j b pl w):b'=b:=by
 unfold zhj at h;split at h
 ·rename_i vt;simp only[ja]at h;obtain⟨r,hr,rfl⟩:=h;cases pl with
  |empty=>have hb:b.rows=[]/\b.box=false:=hb;grind
  |rnd l r' f sh =>
   obtain⟨s,cells,pd,vs,h1,h2,h3,h4,h5⟩:=hb.st;rw[zgw (σ:=σ) hk hj hr fun r hr=>by
    rw[h1]at hr;rw[jG.1 hr];exact⟨.int .i64 s::vs,VCs.cons (.int _ _ _) h4⟩]
  |mp l g =>
   obtain⟨es,clock,R,h1,h2,h3,h4⟩:=hb.st;rw[zgw (σ:=σ) hk hj hr fun r hr=>by
    rw[h2]at hr;rcases jQ.1 hr with rfl|hr
    ·exact⟨[.int .i64 clock],VCs.cons (.int _ _ _) VCs.nil⟩
    ·obtain⟨i,hi⟩:=jW hr;have hlt:i<es.toList.length:=by grind
     obtain⟨k,n,vc,x,rfl,_,q3,q4⟩:=h4 i r _ hi (jr hlt);refine⟨.int .i64 _::.int k n::(es.toList[i]).val.cells.toList,VCs.cons (.int _ _ _) (VCs.cons (.int _ _ _) ?_)⟩;have:=q4.cells
     grind [zr8]]
  |mi l =>
   rw[zgw (σ:=σ) hk hj hr fun r hr=>by
    rcases hb.st with⟨_,h2⟩ |⟨id,g,m,since,last,h0,⟨_,h2⟩ |⟨s,_,h2⟩⟩<;>rw[h2]at hr<;>rw[jG.1 hr]
    ·exact⟨[.map none],VCs.cons (.qS _) VCs.nil⟩
    ·exact⟨[.map (some m),.int .i64 since],VCs.cons (.map _ _ _ _ h0) (VCs.cons (.int _ _ _) VCs.nil)⟩
    ·exact⟨[.map (some m),.int .i64 since,.int .i64 s,.int .i64 last],VCs.cons (.map _ _ _ _ h0) (VCs.cons (.int _ _ _) (VCs.cons (.int _ _ _) (VCs.cons (.int _ _ _) VCs.nil)))⟩]
  |loc L =>
   rw[zgw (σ:=σ) hk hj hr fun r hr=>by
    obtain⟨i,hi⟩:=jW hr;exact hb.rowVCs vt hi]
 grind
theorem zlR{k:Nat}{σ0:zP}{j0:Inj}{M0:Mem}{w0:World}{new:List Nat}{M':Mem}{r r':AV}{v:Value}(hm0:MR own σ0 j0 M0 w0)(hk:M0.length=k)(hm:MR own σ j M w)(hst:za2 own k σ0 j0 M0 w0 σ j M w)
  (hn:new.Nodup) (htk:new.take k=List.range k) (hr:znn (zd3 new) r=some r') (hM:zck M (zd3 new) new=some M') (hv:AVR σ j r v) :
  AVR σ (zdx new j) r' v/\MR own σ (zdx new j) M' w/\za2 own k σ0 j0 M0 w0 σ (zdx new j) M' w:=by
 have kZ:∀id,id<k->new[id]?=some id:=by
  intro id hid;have:=congrArg (·[id]?) htk
  grind
 have hkb:zbs (zd3 new) k:=fun id hid=>zg4 hn (kZ id hid)
 refine⟨znm (zkg new j) hr hv,(hm.sub hn hM).BS fun b hb ho=>?_,?_⟩
 ·rcases ho with⟨id,_,b0,hb0,hL⟩|ho
  ·exact hm.CB hb0 hL
  grind
 ·have hj0:j0.lt k:=fun id g pl h=>hk ▸ hm0.lt h
  refine⟨hst.sle,fun id g pl hid hj=>?_,hst.size,hst.frame,hst.B6,fun id b hid hb=>?_,hst.side⟩
  ·simp[zdx,kZ id hid,hst.jle _ _ _ hid hj]
  ·obtain⟨b1,hb1,hv1,he1⟩:=hst.uV id b hid hb;obtain⟨_,t2,_⟩:=zfp hM;obtain⟨c,c',q1,q2,q3⟩:=t2 id id (kZ id hid);obtain⟨_,_,_,_,e5,_⟩:=zcE q2;refine⟨c',q3,by grind,fun h=>?_⟩;obtain⟨rfl,hh⟩:=he1 (by grind);obtain⟨pl,hpl,hbr,_⟩:=hm0.vL id b1 hb
   grind [zBo]
theorem nodup_range(n:Nat):(List.range n).Nodup:=List.nodup_range
theorem zve{k id:Nat}(h:id<k):zd3 (List.range k) id=some id:=zg4 (nodup_range k) (by grind)
theorem znL{M:Mem}{ρ:Nat->Option Nat}:∀{ids:List Nat} {Ms:Mem},(∀(n id:Nat),ids[n]?=some id->∃b,M[id]?=some (some b)/\zhj ρ b=some b/\Ms[n]?=some (some b))->Ms.length=ids.length->zck M ρ ids=some Ms
 |[],Ms,_,hl=>by cases Ms with
  |nil=>rfl
  |cons=>grind
 |id::ids,Ms,h,hl=>by
  cases Ms with
  |nil=>grind
  |cons x Ms =>
   obtain⟨b,q1,q2,q3⟩:=h 0 id rfl;have:=znL (ids:=ids) (Ms:=Ms) (fun n i hn=>by simpa using h (n+1) i (by grind)) (by grind)
   grind [zck]
theorem zkC{k:Nat}{σ0:zP}{j0:Inj}{M0:Mem}{w0:World}{M':Mem}{r r':AV}{v:Value}(hm0:MR own σ0 j0 M0 w0)(hk:M0.length=k)(hm:MR own σ j M w)(hst:za2 own k σ0 j0 M0 w0 σ j M w)
  (vJ:∀id,id<k->∃b,M0[id]?=some (some b))
  (hv:AVR σ j r v) (h:finish k r M=some (r',M')) :
  ∃j',AVR σ j' r' v/\MR own σ j' M' w/\za2 own k σ0 j0 M0 w0 σ j' M' w:=by
 unfold finish at h;split at h
 ·grind
 ·split at h
  ·rename_i hb;cases h;simp only[jl]at hb;have hkb:zbs (zd3 (List.range k)) k:=fun id hid=>zve hid
   refine⟨_,zlR hm0 hk hm hst (nodup_range k) (by simp) (zqH hkb hb.1) (znL (fun n id hn=>?_) ?_) hv⟩
   ·have hn':=zC hn;simp at hn';simp[hn']at hn;subst hn;obtain⟨b,hb0⟩:=vJ n hn';obtain⟨b1,hb1,_⟩:=hst.uV n b hn' hb0;refine⟨b1,hb1,zqG hkb ?_,by grind⟩;have:=hb.2;simp only[zH,jz]at this;exact this (some b1) (kJ (i:=n) (by grind))
   ·have:k<=M.length:=by
     rcases yS k with h0|h0
     ·omega
     ·obtain⟨b,hb0⟩:=vJ (k-1) (by omega);obtain⟨b1,hb1,_⟩:=hst.uV (k-1) b (by omega) hb0
      grind
    grind
  ·dsimp only at h;split at h
   ·rename_i hc;simp only[jl,beq_iff_eq]at hc;split at h
    ·rename_i r1 M1 h1 h2;cases h;exact⟨_,zlR hm0 hk hm hst (zgy hc.1) hc.2 h1 h2 hv⟩
    grind
   grind
theorem zu7{frz:Bool}{k:Nat}{σ0:zP}{j0:Inj}{M0:Mem}{w0:World}{M':Mem}{r r':AV}{v:Value}(hm0:MR own σ0 j0 M0 w0)(hk:M0.length=k)(hag:zM σ w)(hm:MR own σ j M w)(hst:za2 own k σ0 j0 M0 w0 σ j M w)
  (vJ:∀id,id<k->∃b,M0[id]?=some (some b)) (hkM:k<=M.length)
  (hv:AVR σ j r v) (h:leave frz k r M=some (r',M')) :
  ∃σ' j',AVR σ' j' r' v/\zM σ' w/\MR own σ' j' M' w/\za2 own k σ0 j0 M0 w0 σ' j' M' w:=by
 unfold leave at h;split at h
 ·split at h
  ·rename_i r1 hr1;obtain⟨σ2,hle2,Cw,hm2,yI,hin2⟩:=zhe r.sls hm hag;have hr2:AVR σ2 j r1 v:=zwX hm hle2 Cw (fun id hid b L i row n cl hb hL hi hn=>hin2 id hid b L i row n cl hb hL hi hn) hr1 hv;obtain⟨j3,q1,q2,q3⟩:=zkC hm0 hk hm2 (hst.trans (yI.le hkM)) vJ hr2 h
   grind
  grind
 grind [zkC]
end
end Go.Eng
namespace Go.Eng
open Go
variable[zb0]
def Ret(own:Nat->Prop)(σ:zP)(j:Inj)(M:Mem)(w:World)(res:AV)(M':Mem)(e:Ending)(w':World):Prop :=
 ∃v σ' j',e=.returned v/\AVR σ' j' res v/\zM σ' w'/\MR own σ' j' M' w'/\za2 own M.length σ j M w σ' j' M' w'
def Mem.full(M:Mem):Prop:=∀id,id<M.length->∃b,M[id]?=some (some b)
structure zhz(F:Fence):Prop where
 fn:∀f,F.fn f
 depth:F.depth=none
 alive:F.alive=false
def FnS(P:Program)(cf:za4):Prop :=
 ∀f args M res M',cf f args M=some (res,M')->Mem.full M ->
  (f<zb0.base->∃fn,P.funcs[f]?=some fn/\fn.body.isNone=false/\(fn.name == "runtime.NumGoroutine")=false /\
   ∀own σ j w (vs:Array Value),(∀b,w.heap.size<=b->own b)->zM σ w->MR own σ j M w->zac σ j args vs.toList ->
    Calls P f vs w (Ret own σ j M w res M')) /\
  (zb0.base<=f->∃id sh as,args=.c (.yld id f sh)::as /\
   ∀F n own σ j w l r (vs:Array Value),zhz F->(∀b,w.heap.size<=b->own b)->zM σ w->MR own σ j M w->j id 0=some (.rnd l r f sh)->zac σ j as vs.toList ->
    vs.size=r.params.size/\(∃s p,w.heap[l]?=some (.loop { r with state:=s,pending:=p })) /\
    RoundIn F n P l r.fn ((r.params.zip vs).foldl (fun tmps (t,a)=>tmps.setIfInBounds t a) r.tmps) r.assign r.body w (Ret own σ j M w res M'))
theorem Calls.yr{P:Program}{f:FuncId}{args:Array Value}{w:World}{R R':Ending->World->Prop}(h:Calls P f args w R)(hr:∀e w',R e w'->R' e w'):Calls P f args w R' :=
 fun cs=>let ⟨e,w',fr,r,s,x⟩:=h cs;⟨e,w',fr,hr _ _ r,s,x⟩
section
variable{own:Nat->Prop}{σ:zP}{j:Inj}{M:Mem}{w:World}{P:Program}{cf:za4}
theorem zr1{ρ:Nat->Option Nat}{ids:List Nat}{Ms:Mem}(h:zck M ρ ids=some Ms):Mem.full Ms:=by
 obtain⟨h1,h2,h3⟩:=zfp h;intro k hk;obtain⟨b,b',_,_,q⟩:=h2 k ids[k] (by grind)
 grind
theorem zpB{f:FuncId}{args:List WV}{r:AV}{M3:Mem}{fp:FP}(h:zcG cf f args M=some (r,M3,fp))(hag:zM σ w)(hm:MR own σ j M w)(hown:∀b,w.heap.size<=b->own b) :
  ∃ids as Ms r0 Ms',cf f as Ms=some (r0,Ms')/\Mem.full Ms/\ziU (zd3 ids) args=some as/\(∀b,w.heap.size<=b->zig ids j M w b)/\MR (zig ids j M w) σ (zdx ids j) Ms w /\
   (∀vs,zac σ j args vs->zac σ (zdx ids j) as vs) /\
   ∀e w',Ret (zig ids j M w) σ (zdx ids j) Ms w r0 Ms' e w'->Ret own σ j M w r M3 e w'/\(fp=.no->M3.length=M.length->∀(id:Nat) (b:Blk) (L:Nat),M[id]?=some (some b)->j.atk id b.gen=some L->w'.heap[L]?=w.heap[L]?):=by
 unfold zcG at h;dsimp only at h;split at h
 ·rename_i hnd;split at h
  ·rename_i as Ms has hMs;generalize hids:collect M zfj (args.flatMap WV.ids) []=ids at *;have hn:=zgy hnd;split at h
   ·grind
   ·rename_i r0 Ms' hc;refine⟨ids,as,Ms,r0,Ms',hc,zr1 hMs,has,fun b hb=>.inr hb,hm.sub hn hMs,fun vs hvs=>zlS (zkg ids j) has hvs,?_⟩;rintro e w' ⟨v,σ',j',rfl,hr,yR,hm',hst⟩;obtain⟨jn,p1,p2,p3,p4⟩:=zt1 hm hag hn hown hMs yR hm' hst hr h;exact⟨⟨v,σ',jn,rfl,p1,yR,p2,p3⟩,fun h1 h2=>(p4 h1 h2).2⟩
  grind
 grind
theorem zqA{ρ:Nat->Option Nat}{args as':List WV}{id:Nat}{f:FuncId}{sh:List (Nat×Bool×Nat)}(h:ziU ρ args=some (.c (.yld id f sh)::as')):∃id0 as,args=.c (.yld id0 f sh)::as/\ρ id0=some id/\ziU ρ as=some as':=by
 cases args with
 |nil=>grind [ziU]
 |cons x xs =>
  simp only[ziU]at h;split at h
  ·rename_i y ys h1 h2;cases h;cases x with
   |a cs=>grind [zpM,Option.map_eq_some_iff]
   |c c =>
    simp only[zpM,ja]at h1;obtain⟨c',h1,e⟩:=h1;cases e;cases c with
    |yld id0 g sh0 =>
     grind [zeS,qM,Option.map_eq_some_iff]
    |fn g fi ca =>
     grind [zeS]
    |iface t a cs=>grind [zeS,Option.map_eq_some_iff]
    |ptr=>grind [zeS,qM,Option.map_eq_some_iff]
    |slice=>grind [zeS,qM,Option.map_eq_some_iff]
    |map=>grind [zeS,qM,Option.map_eq_some_iff]
    |mit=>grind [zeS,qM,Option.map_eq_some_iff]
    |bsl=>grind [zeS,qM,Option.map_eq_some_iff]
    |_=>cases h1
  grind
theorem zvz(hcf:FnS P cf){f:FuncId}{args:List WV}{vs:Array Value}{r:AV}{M3:Mem}{fp:FP}(hhd:zl2 f args=true)(h:zcG cf f args M=some (r,M3,fp))(hag:zM σ w)(hm:MR own σ j M w)
  (hown:∀b,w.heap.size<=b->own b) (hvs:zac σ j args vs.toList) :
  (∃fn,P.funcs[f]?=some fn/\fn.body.isNone=false/\(fn.name == "runtime.NumGoroutine")=false) /\
  Calls P f vs w (fun e w'=>Ret own σ j M w r M3 e w'/\(fp=.no->M3.length=M.length->∀(id:Nat) (b:Blk) (L:Nat),M[id]?=some (some b)->j.atk id b.gen=some L->w'.heap[L]?=w.heap[L]?)):=by
 obtain⟨ids,as,Ms,r0,Ms',hc,vJ,By,Bn,hms,Cv,hland⟩:=zpB h hag hm hown;obtain⟨h1,h2⟩:=hcf f as Ms r0 Ms' hc vJ;rcases qr f zb0.base with hlt|hge
 ·grind [Calls.yr,zig,zdx]
 ·obtain⟨id,sh,as',rfl,_⟩:=h2 hge;obtain⟨id0,as0,rfl,_,_⟩:=zqA By
  grind [zl2]
theorem RoundIn.yr{F:Fence}{n:Nat}{l:Nat}{f:FuncId}{tmps:Array Value}{assign body:Code}{R R':Ending->World->Prop}(h:RoundIn F n P l f tmps assign body w R)(hr:∀e w',R e w'->R' e w'):RoundIn F n P l f tmps assign body w R':=by
 obtain⟨hF,h⟩:=h;refine⟨hF,fun c cs ku=>?_⟩;obtain⟨e,w',q,s⟩:=h c cs ku
 grind
theorem zuj(hcf:FnS P cf){f:FuncId}{id:Nat}{sh:List (Nat×Bool×Nat)}{as:List WV}{Be:Value}{vs:Array Value}{r:AV}{M3:Mem}{fp:FP}(h:zcG cf f (.c (.yld id f sh)::as) M=some (r,M3,fp))(hag:zM σ w)(hm:MR own σ j M w)
  (hown:∀b,w.heap.size<=b->own b) (hf:VC σ j (.yld id f sh) Be) (hvs:zac σ j as vs.toList) :
  ∃l rc,Be=.func (.yield l) #[] #[]/\w.heap[l]?=some (.loop rc)/\vs.size=rc.params.size/\∀F n,zhz F->RoundIn F n P l rc.fn ((rc.params.zip vs).foldl (fun tmps (t,a)=>tmps.setIfInBounds t a) rc.tmps) rc.assign rc.body w
   (fun e w'=>Ret own σ j M w r M3 e w'/\(fp=.no->M3.length=M.length->∀(id:Nat) (b:Blk) (L:Nat),M[id]?=some (some b)->j.atk id b.gen=some L->w'.heap[L]?=w.heap[L]?)):=by
 cases hf with
 |yld _ _ _ _ l rr hj =>
  obtain⟨ids,as',Ms,r0,Ms',hc,vJ,By,Bn,hms,Cv,hland⟩:=zpB h hag hm hown;obtain⟨_,h2⟩:=hcf f as' Ms r0 Ms' hc vJ;obtain⟨id',sh',as2,rfl,Ar⟩:=h2 (zb0.le _ _ _ _ _ (hm.okP _ _ _ hj:zb0.ok f rr));obtain⟨id0,as0,e,hid,AY⟩:=zqA By;cases e;have vh:=Cv (.func (.yield l) #[] #[]::vs.toList) (zac.cons (show WVR σ j (.c (.yld id f sh)) _ from .yld _ _ _ _ l rr hj) hvs);obtain⟨v0,vs0,e,hv0,hvs0⟩:=vh.kO;cases e;have hj':zdx ids j id' 0=some (.rnd l rr f sh):=zkg ids j _ _ _ _ hid hj;obtain⟨q1,⟨s,p,q2⟩,_⟩:=Ar Fence.wide 0 (zig ids j M w) σ (zdx ids j) w l rr vs ⟨fun _=>trivial,rfl,rfl⟩ Bn hag hms hj' hvs0;refine⟨l,_,rfl,q2,q1,fun F n hF=>?_⟩;exact RoundIn.yr (Ar F n (zig ids j M w) σ (zdx ids j) w l rr vs hF Bn hag hms hj' hvs0).2.2 hland
theorem AVR.plain{σ σ':zP}{j j':Inj}{x:AV}{v:Value}(hp:x.plain=true)(h:AVR σ j x v):AVR σ' j' x v:=by
 have hW:∀{y:WV} {u:Value},y.plain=true->WVR σ j y u->WVR σ' j' y u:=by
  intro y u hy hu;cases y with
  |c x=>simp[WV.plain,WV.cells]at hy;exact VC.plain hy hu
  |a cs =>
   obtain⟨arr,rfl,hs⟩:=hu;simp only[WV.plain,WV.cells,jz]at hy;exact⟨arr,rfl,hs.1,fun n c v hc hv=>(hs.2 n c v hc hv).plain (hy c (kJ hc))⟩
 cases x with
 |w x=>exact hW hp h
 |t xs =>
  obtain⟨arr,rfl,hs⟩:=h;simp only[AV.plain,jz]at hp;exact⟨arr,rfl,hs.1,fun n c v hc hv=>hW (hp c (kJ hc)) (hs.2 n c v hc hv)⟩
 |u=>exact h
theorem MR.Cr{w':World}(hm:MR own σ j M w)(h:∀(id:Nat) (b:Blk) (L:Nat),M[id]?=some (some b)->j.atk id b.gen=some L->w'.heap[L]?=w.heap[L]?):MR own σ j M w':=by
 refine⟨fun id b hb=>?_,hm.vo,hm.dom,hm.okP⟩;obtain⟨pl,h1,h2,h3⟩:=hm.vL id b hb;exact⟨pl,h1,h2.mono (zP.le_refl _) (Inj.le_refl _) (fun L e=>h id b L hb (Inj.yf h1 e)) (fun _ _ _ h _ _=>h),h3⟩
theorem zu3(ids:List Nat):∀{M:Mem} {k:Nat} {b:Blk},M[k]?=some (some b)->∃b',(zbg M ids)[k]?=some (some b')/\b'.gen=b.gen:=by
 induction ids with
 |nil=>intro M k b h;exact⟨b,h,rfl⟩
 |cons id ids ih =>
  intro M k b h;obtain⟨b1,hb1,_,_,_,e,_⟩:=zeu (id:=id) h;obtain⟨b2,hb2,e2⟩:=ih hb1;exact⟨b2,hb2,by grind⟩
def zmw(P:Program)(Be:Value)(vs:Array Value)(w:World)(R:Ending->World->Prop):Prop :=
 (∃f fi ca fn,Be=.func (.func f) fi ca/\P.funcs[f]?=some fn/\fn.body.isNone=false/\(fn.name == "runtime.NumGoroutine")=false/\Calls P f (fi++vs++ca) w R) \/
 (∃l rc,Be=.func (.yield l) #[] #[]/\w.heap[l]?=some (.loop rc)/\vs.size=rc.params.size/\∀F n,zhz F->RoundIn F n P l rc.fn ((rc.params.zip vs).foldl (fun tmps (t,a)=>tmps.setIfInBounds t a) rc.tmps) rc.assign rc.body w R)
theorem zmw.mono{Be:Value}{vs:Array Value}{R R':Ending->World->Prop}(h:zmw P Be vs w R)(hr:∀e w',R e w'->R' e w'):zmw P Be vs w R':=by
 rcases h with⟨f,fi,ca,fn,h1,h2,h3,h4,h5⟩ |⟨l,rc,h1,h2,h3,h4⟩
 ·exact .inl ⟨f,fi,ca,fn,h1,h2,h3,h4,Calls.yr h5 hr⟩
 ·exact .inr ⟨l,rc,h1,h2,h3,fun F n hF=>RoundIn.yr (h4 F n hF) hr⟩
theorem ups{cs:List Cl}:∀{us:List Value},VCs σ j cs us->zac σ j (cs.map .c) us:=by
 induction cs with
 |nil=>intro us h;have:=h.vG;grind [zac.nil]
 |cons c cs ih=>intro us h;obtain⟨u,us',rfl,hu,hs⟩:=h.kO;grind [zac.cons,WVR]
theorem znz(hcf:FnS P cf){fv:WV}{f:FuncId}{fi ca as:List WV}{y:Bool}{Be:Value}{vs:Array Value}{r:AV}{M3:Mem}{fp:FP}(hce:callee fv=some (f,fi,ca,y))(hhd:(y||zl2 f (fi++as++ca))=true)
  (h:zcG cf f (fi++as++ca) M=some (r,M3,fp)) (hag:zM σ w) (hm:MR own σ j M w)
  (hown:∀b,w.heap.size<=b->own b) (hf:WVR σ j fv Be) (hvs:zac σ j as vs.toList) :
  zmw P Be vs w (fun e w'=>Ret own σ j M w r M3 e w'/\(fp=.no->M3.length=M.length->∀(id:Nat) (b:Blk) (L:Nat),M[id]?=some (some b)->j.atk id b.gen=some L->w'.heap[L]?=w.heap[L]?)):=by
 unfold callee at hce;split at hce
 ·rename_i g gi ga;cases hce;cases hf with
  |fn _ _ _ _ fi' ca' l1 l2 h1 h2 =>
   have vh:zac σ j (gi.map .c++as++ga.map .c) (fi'++vs++ca').toList:=by
    simp only[Array.toList_append];exact((ups ⟨l1,h1⟩).append hvs).append (ups ⟨l2,h2⟩)
   obtain⟨⟨fn,q1,q2,q3⟩,qI⟩:=zvz hcf (by grind) h hag hm hown vh;exact .inl ⟨f,fi',ca',fn,rfl,q1,q2,q3,qI⟩
 ·cases hce;rw[kT]at h;obtain⟨l,rc,q1,q2,q3,q4⟩:=zuj hcf h hag hm hown hf hvs;exact .inr ⟨l,rc,q1,q2,q3,q4⟩
 grind
theorem zpA(hcf:FnS P cf){m:zbz}{fv:WV}{args:List WV}{r:AV}{M':Mem}{fp:FP}{Be:Value}{vs:Array Value}(h:zx cf m fv args M=some (r,M',fp))(hag:zM σ w)(hm:MR own σ j M w)
  (hown:∀b,w.heap.size<=b->own b) (hf:WVR σ j fv Be) (hvs:zac σ j args vs.toList) :
  zmw P Be vs w (Ret own σ j M w r M'):=by
 unfold zx at h;split at h
 ·rename_i f fi ca y hce;split at h
  ·split at h
   ·grind
   ·rename_i as has;split at h
    ·rename_i hhd;dsimp only at h;obtain⟨σ1,Cp,CP,hm1,yJ,hin1⟩:=zhe (args.flatMap WV.sls) hm hag;have has':zac σ1 j as vs.toList:=zl3 hm Cp CP (fun id hid b L i row n cl hb hL hi hn=>hin1 id hid b L i row n cl hb hL hi hn) has hvs;have hf1:=hf.mono Cp (Inj.le_refl _);split at h
     ·have As:args.flatMap WV.sls=[]:=by grind
      rw[As]at hm1 yJ;refine(znz hcf hce hhd h CP hm1 hown hf1 has').mono ?_;rintro e w' ⟨⟨v,σ',j',rfl,hr,yR,hm',hst⟩,_⟩;exact⟨v,σ',j',rfl,hr,yR,hm',yJ.trans hst⟩
     split at h
     ·grind
     ·rename_i r1 M2 fp2 hc;refine(znz hcf hce hhd hc CP hm1 hown hf1 has').mono ?_;split at h
      ·rename_i hpl;cases h;simp only[jl,beq_iff_eq]at hpl;obtain⟨⟨hno,hlen⟩,hplain⟩:=hpl;have hno:fp2=.no:=by cases fp2<;>first |rfl |cases hno
       rintro e w' ⟨⟨v,σ',j',rfl,hr,yR,hm',hst⟩,BV⟩;have hs:=BV hno (by rw[hlen,zgi]);have yF:∀(id:Nat) (b:Blk) (L:Nat),M[id]?=some (some b)->j.atk id b.gen=some L->w'.heap[L]?=w.heap[L]?:=by
        intro id b L hb hL;obtain⟨b',hb',e⟩:=zu3 (args.flatMap WV.sls) hb
        grind
       refine⟨v,σ,j,rfl,hr.plain hplain,⟨fun b o v hv=>yR.cells b o v (hst.sle _ _ _ (Cp _ _ _ hv)),hag.kY⟩,hm.Cr yF,?_⟩;exact⟨zP.le_refl _,fun _ _ _ _ h=>h,hst.size,hst.frame,fun _ _ _ h=>.inl h,fun id b hid hb=>⟨b,hb,jm _,fun _=>⟨rfl,fun L hL=>yF id b L hb hL⟩⟩,yJ.side.trans hst.side⟩
      ·cases h;rintro e w' ⟨⟨v,σ',j',rfl,hr,yR,hm',hst⟩,_⟩;exact⟨v,σ',j',rfl,hr,yR,hm',yJ.trans (by grind [zgi])⟩
    grind
  ·split at h
   ·rename_i hhd;exact(znz hcf hce hhd h hag hm hown hf hvs).mono fun e w' h=>h.1
   grind
 grind
end
end Go.Eng
namespace Go.Eng
open Go
variable[zb0]
section
variable{M:Mem}{q:Nat}{b0:Blk}
theorem zhl{id:Nat}(h:id≠q):(M.set q (some b0))[id]?=M[id]?:=jD (qX h)
theorem zhd(hq:M[q]?=some none){id:Nat}{b:Blk}(h:M[id]?=some (some b)):id≠q:=by
 rintro rfl;rw[hq]at h;cases h
theorem zei(hq:M[q]?=some none){id g:Nat}{b:Blk}(h:look M id g=some b):look (M.set q (some b0)) id g=some b:=by
 have:=zaz h;unfold look;rw[zhl (zhd hq this.1),this.1,this.2];simp
theorem zs7(hq:M[q]?=some none){c c':Cl}(h:zdR M c=some c'):zdR (M.set q (some b0)) c=some c':=by
 cases c with
 |slice id g es off len cap =>
  simp only[zdR]at h ⊢;split at h
  ·rename_i b hb;rw[zei hq hb];exact h
  ·cases h
 |_=>exact h
theorem zvk(hq:M[q]?=some none){c c':Cl}(h:zdR M c=some c'):q∉slC c:=by
 cases c with
 |slice id g es off len cap =>
  simp only[zdR]at h;split at h
  ·rename_i b hb;have:=zhd hq (zaz hb).1;simp[slC,qX this]
  ·cases h
 |_=>simp[slC]
theorem zmJ(hq:M[q]?=some none):∀{cs cs':List Cl},yL M cs=some cs'->yL (M.set q (some b0)) cs=some cs'/\q∉cs.flatMap slC
 |[],cs',h=>by simp only[yL]at h ⊢;exact⟨h,by simp⟩
 |c::cs,cs',h=>by
  simp only[yL]at h ⊢;split at h
  ·rename_i y ys h1 h2;obtain⟨e1,e2⟩:=zmJ hq h2;rw[zs7 hq h1,e1];exact⟨h,by simp only[j9,jN,not_or];exact⟨zvk hq h1,e2⟩⟩
  ·cases h
theorem zyU(hq:M[q]?=some none){x y:WV}(h:zn7 M x=some y):zn7 (M.set q (some b0)) x=some y/\q∉x.sls:=by
 cases x with
 |c x =>
  simp only[zn7,ja]at h ⊢;obtain⟨a,ha,rfl⟩:=h;exact⟨⟨a,zs7 hq ha,rfl⟩,by simpa [WV.sls,WV.cells]using zvk hq ha⟩
 |a cs =>
  simp only[zn7,ja]at h ⊢;obtain⟨a,ha,rfl⟩:=h;exact⟨⟨a,(zmJ hq ha).1,rfl⟩,(zmJ (b0:=b0) hq ha).2⟩
theorem znt(hq:M[q]?=some none):∀{cs cs':List WV},zla M cs=some cs'->zla (M.set q (some b0)) cs=some cs'/\q∉cs.flatMap WV.sls
 |[],cs',h=>by simp only[zla]at h ⊢;exact⟨h,by simp⟩
 |c::cs,cs',h=>by
  simp only[zla]at h ⊢;split at h
  ·rename_i y ys h1 h2;obtain⟨e1,e2⟩:=znt hq h2;obtain⟨e3,e4⟩:=zyU (b0:=b0) hq h1;rw[e3,e1];exact⟨h,by simp only[j9,jN,not_or];exact⟨e4,e2⟩⟩
  ·cases h
theorem ztW{id:Nat}(h:id≠q):zX (M.set q (some b0)) id=(zX M id).set q (some b0):=by
 unfold zX;rw[zhl h];split
 ·split
  ·rfl
  ·rw[qF _ _ h]
 ·rfl
theorem zkx:∀{ids:List Nat} {M:Mem},q∉ids->zbg (M.set q (some b0)) ids=(zbg M ids).set q (some b0)
 |[],M,_=>rfl
 |id::ids,M,h=>by
  simp only[jQ,not_or]at h;show zbg (zX _ id) ids=(zbg (zX M id) ids).set q _;rw[ztW (qX h.1),zkx h.2]
theorem ztV{id:Nat}:(zX M id)[q]?=some none<->M[q]?=some none:=by
 unfold zX;split
 ·rename_i b hb;split
  ·exact Iff.rfl
  ·by_cases h:id=q
   ·subst h;have hl:=zC hb;rw[jY hl,hb];simp
   ·rw[jD h]
 ·exact Iff.rfl
theorem zhW:∀{ids:List Nat} {M:Mem},(zbg M ids)[q]?=some none<->M[q]?=some none
 |[],M=>Iff.rfl
 |id::ids,M=>by
  show(zbg (zX M id) ids)[q]?=_<->_;rw[zhW,ztV]
end
structure Eff(M M':Mem)(fp:FP):Prop where
 len:M.length<=M'.length
 hole:∀q:Nat,M'[q]?=some none<->M[q]?=some none
 none:fp≠.bad->(∀l,fp≠.wr l)->∀id:Nat,id<M.length->M'[id]?=M[id]?
 wr:∀l,fp=.wr l->∀(id:Nat) (b:Blk),M[id]?=some (some b)->(∀k n,l.all (FP.Al id k n)=true->∃b':Blk,M'[id]?=some (some b')/\b'.gen=b.gen /\
  ∀i:Nat,(b'.rows[i]?).bind (fun r=>cut r k n)=(b.rows[i]?).bind (fun r=>cut r k n))
theorem Eff.refl{M:Mem}{fp:FP}:Eff M M fp:=⟨jm _,fun _=>Iff.rfl,fun _ _ _ _=>rfl,fun _ _ _ b hb _ _ _=>⟨b,hb,rfl,fun _=>rfl⟩⟩
theorem Eff.load{M M':Mem}{fp fl:FP}{agg:Bool}{n:Nat}{p:Cl}{av:AV}(h:Eff M M' fp)(hl:zdZ M agg n p=some (av,M,fl))(ha:fl.apart fp=true):zdZ M' agg n p=some (av,M',fl):=by
 cases p with
 |uT row k =>
  simp only[zdZ]at hl ⊢;split at hl
  ·rename_i cs hc;simp only[ja,jt]at hl;obtain⟨x,hx,rfl,_,rfl⟩:=hl;simp[hx]
  ·cases hl
 |ptr id g i k =>
  simp only[zdZ]at hl;split at hl
  ·rename_i b hlk;obtain⟨hb,rfl⟩:=zaz hlk;split at hl
   ·rename_i row hrow;split at hl
    ·rename_i cs hc;simp only[ja,jt]at hl;obtain⟨x,hx,rfl,_,rfl⟩:=hl;have key:∃b',M'[id]?=some (some b')/\b'.gen=b.gen/\(b'.rows[i]?).bind (fun r=>cut r k n)=some cs:=by
      cases fp with
      |no=>exact⟨b,by rw[h.none (by simp) (by simp) id (zC hb)];exact hb,rfl,by simp[hrow,hc]⟩
      |bad=>simp[FP.apart]at ha
      |ld a b c=>exact⟨_,by rw[h.none (by simp) (by simp) id (zC hb)];exact hb,rfl,by simp[hrow,hc]⟩
      |mk l=>exact⟨_,by rw[h.none (by simp) (by simp) id (zC hb)];exact hb,rfl,by simp[hrow,hc]⟩
      |wr l =>
       obtain⟨b',h1,h2,h3⟩:=h.wr l rfl id b hb k n (by simpa [FP.apart]using ha);exact⟨b',h1,h2,by rw[h3 i];simp[hrow,hc]⟩
     obtain⟨b',h1,h2,h3⟩:=key;cases hr:b'.rows[i]? with
     |none=>rw[hr]at h3;cases h3
     |some r =>
      rw[hr]at h3;simp only[uo]at h3;simp[zdZ,look,h1,h2,hr,h3,hx]
    ·cases hl
   ·cases hl
  ·cases hl
 |_=>cases hl
theorem Eff.C7{M M':Mem}{fp fl:FP}{agg:Bool}{n base:Nat}{p:Cl}{av:AV}(h:Eff M M' fp)(hl:zdZ M' agg n p=some (av,M',fl))(ha:fp.apart fl=true)(ho:fl.old base=true)(AK:base<=M.length) :
  zdZ M agg n p=some (av,M,fl):=by
 cases p with
 |uT row k =>
  simp only[zdZ]at hl ⊢;split at hl
  ·rename_i cs hc;simp only[ja,jt]at hl;obtain⟨x,hx,rfl,_,rfl⟩:=hl;simp[hx]
  ·cases hl
 |ptr id g i k =>
  simp only[zdZ]at hl;split at hl
  ·rename_i b' hlk;obtain⟨hb',rfl⟩:=zaz hlk;split at hl
   ·rename_i row hrow;split at hl
    ·rename_i cs hc;simp only[ja,jt]at hl;obtain⟨x,hx,rfl,_,rfl⟩:=hl;have hid:id<M.length:=by simp only[FP.old,decide_eq_true_eq]at ho;omega
     obtain⟨b,hb⟩:∃b,M[id]?=some (some b):=by
      cases hM:M[id]? with
      |none=>rw[jr hid]at hM;cases hM
      |some ob =>
       cases ob with
       |some b=>exact⟨b,rfl⟩
       |none=>rw[(h.hole id).2 hM]at hb';cases hb'
     have same:M'[id]?=M[id]?->b'=b:=fun e=>by rw[hb',hb]at e;cases e;rfl
     have key:b.gen=b'.gen/\(b.rows[i]?).bind (fun r=>cut r k n)=some cs:=by
      cases fp with
      |no=>have:=same (h.none (by simp) (by simp) id hid);subst this;exact⟨rfl,by simp[hrow,hc]⟩
      |bad=>simp[FP.apart]at ha
      |ld a b c=>have:=same (h.none (by simp) (by simp) id hid);subst this;exact⟨rfl,by simp[hrow,hc]⟩
      |mk l=>simp[FP.apart]at ha
      |wr l =>
       obtain⟨b1,h1,h2,h3⟩:=h.wr l rfl id b hb k n (by simpa [FP.apart]using ha);rw[hb']at h1;cases h1;exact⟨h2.symm,by rw[<-h3 i];simp[hrow,hc]⟩
     obtain⟨h2,h3⟩:=key;cases hr:b.rows[i]? with
     |none=>rw[hr]at h3;cases h3
     |some r =>
      rw[hr]at h3;simp only[uo]at h3;simp[zdZ,look,hb,h2,hr,h3,hx]
    ·cases hl
   ·cases hl
  ·cases hl
 |_=>cases hl
end Go.Eng
namespace Go.Eng
open Go
variable[zb0]
section
variable{M M':Mem}{q:Nat}{b0:Blk}
structure Hv(M:Mem)(run:Mem->Option (AV×Mem×FP)):Prop where
 eff:∀av M' fp,run M=some (av,M',fp)->Eff M M' fp
 fill:∀av M' fp (q:Nat) b0,run M=some (av,M',fp)->M[q]?=some none->run (M.set q (some b0))=some (av,M'.set q (some b0),fp)
theorem zl1{id:Nat}{b b':Blk}(hb:M[id]?=some (some b)){q:Nat}:(M.set id (some b'))[q]?=some none<->M[q]?=some none:=by
 grind
theorem zw4{row Bb cs:List Cl}{k k' n:Nat}(h:A3 row k cs=some Bb)(ha:k'+n<=k\/k+cs.length<=k'):cut Bb k' n=cut row k' n:=by
 obtain⟨h1,h2,h3⟩:=zng h;unfold cut;rw[h2];split
 ·congr 1
  apply uf
  grind
 simp
theorem FP.vu{l:List (Nat×Nat×Nat)}{id k n:Nat}(h:l.all (FP.Al id k n)=true){id' k' n':Nat}(hm:(id',k',n')∈l):id≠id'\/(n'<whole/\(k+n<=k'\/k'+n'<=k)):=by
 grind [List.all_eq_true,FP.Al]
theorem zhg{id g i k:Nat}{cs:List Cl}(h:storeAt M id g i k cs=some M'):Eff M M' (.wr [(id,k,cs.length)])/\(∀(q:Nat) b0,M[q]?=some none->storeAt (M.set q (some b0)) id g i k cs=some (M'.set q (some b0))):=by
 unfold storeAt at h;split at h
 ·rename_i b hlk;obtain⟨hb,rfl⟩:=zaz hlk;split at h
  ·grind
  ·split at h
   ·split at h
    ·cases h;refine⟨⟨by simp,fun q=>zl1 hb,fun _ h=>absurd rfl (h _),fun l hl id' b' hb' k' n' ha=>?_⟩,fun q b0 hq=>?_⟩
     ·cases hl;rcases FP.vu ha (jG.2 rfl)with hne |⟨_,hne⟩
      ·grind
      ·by_cases hid:id'=id
       ·grind [List.getElem?_set_self,zC,zw4,List.getElem?_set_ne]
       grind
     grind [zhd,storeAt,zei,List.set_comm]
    grind
   grind
 grind
theorem zpr(ids:List Nat):Eff M (zbg M ids) (.wr (ids.map fun id=>(id,0,whole))):=by
 refine⟨by simp[zgi,jm],fun q=>zhW,fun _ h=>absurd rfl (h _),fun l hl id b hb k n ha=>?_⟩;cases hl;have hid:id∉ids:=by
  intro hid;rcases FP.vu ha (jZ.2 ⟨id,hid,rfl⟩)with h |⟨h,_⟩
  ·grind
  grind
 have:∀(ids:List Nat) (M:Mem),id∉ids->(zbg M ids)[id]?=M[id]?:=by
  intro ids;induction ids with
  |nil=>intro M _;rfl
  |cons x xs ih =>
   intro M h;show(zbg (zX M x) xs)[id]?=_
   grind [zX]
 grind
theorem Eff.trans{M1 M2:Mem}{l l':List (Nat×Nat×Nat)}(h:Eff M M1 (.wr l))(h':Eff M1 M2 (.wr l')):Eff M M2 (.wr (l++l')):=by
 refine⟨jO h.len h'.len,fun q=>(h'.hole q).trans (h.hole q),fun _ h=>absurd rfl (h _),fun x hx id b hb k n ha=>?_⟩;cases hx;rw[qO,jl]at ha;obtain⟨b1,h1,h2,h3⟩:=h.wr l rfl id b hb k n ha.1;obtain⟨b2,h1',h2',h3'⟩:=h'.wr l' rfl id b1 h1 k n ha.2
 grind
theorem Eff.DH{l l':List (Nat×Nat×Nat)}(h:Eff M M' (.wr l))(hs:∀x∈l,x∈l'):Eff M M' (.wr l') :=
 ⟨h.len,h.hole,fun _ h=>absurd rfl (h _),fun x hx id b hb k n ha=>by
   cases hx;exact h.wr l rfl id b hb k n (jz.2 fun y hy=>jz.1 ha y (hs y hy))⟩
theorem Eff.DL(h:Eff M M' .no)(l:List (Nat×Nat×Nat)):Eff M M' (.wr l) :=
 ⟨h.len,h.hole,fun _ h=>absurd rfl (h _),fun x hx id b hb k n ha=>⟨b,by rw[h.none (by simp) (by simp) id (zC hb)];grind,rfl,fun _=>rfl⟩⟩
theorem zzp{n:Nat}{p:Cl}{v:WV}:Hv M (fun M=>zhT M n p v):=by
 cases p with
 |ptr id g i k =>
  have Dm:∀{r},zhT M n (.ptr id g i k) v=some r->v.cells.length=n/\((zfJ M id g=true/\((storeAt M id g i k v.cells).map fun M'=>(AV.u,M',FP.wr [(id,k,n)]))=some r) \/
    (zfJ M id g=false/\∃cs,yL M v.cells=some cs/\cs.all zcl=true/\((storeAt (zbg M v.sls) id g i k cs).map fun M'=>(AV.u,M',FP.wr ((id,k,n)::v.sls.map fun x=>(x,0,whole))))=some r)):=by
   grind [zhT]
  have boxSame:∀{q:Nat} {b0:Blk} {M1:Mem},M[q]?=some none->storeAt M id g i k v.cells=some M1->zfJ (M.set q (some b0)) id g=zfJ M id g:=by
   grind [storeAt,zfJ,zei]
  refine⟨fun av M' fp h=>?_,fun av M' fp q b0 h hq=>?_⟩
  ·obtain⟨hl,h |⟨_,cs,hcs,hn,h⟩⟩:=Dm h
   ·simp only[ja,jt]at h
    grind [zhg]
   ·simp only[ja,jt]at h;obtain⟨M1,h1,rfl,rfl,rfl⟩:=h;have e1:=(zhg h1).1;have hlen:cs.length=n:=by
     have:∀{a b:List Cl},yL M a=some b->b.length=a.length:=by
      intro a;induction a with
      |nil=>grind [yL]
      |cons x xs ih =>
       grind [yL]
     grind
    exact((zpr v.sls).trans e1).DH fun x hx=>by
     grind
  ·obtain⟨hl,h |⟨hbx,cs,hcs,hn,h⟩⟩:=Dm h
   ·obtain⟨hbx,h⟩:=h;simp only[ja,jt]at h;obtain⟨M1,h1,rfl,rfl,rfl⟩:=h
    simp_all [zhT,if_true,zhg]
   ·simp only[ja,jt]at h;obtain⟨M1,h1,rfl,rfl,rfl⟩:=h;obtain⟨f1,f2⟩:=zmJ (b0:=b0) hq hcs;have hq':(zbg M v.sls)[q]?=some none:=zhW.2 hq;have h2:=(zhg h1).2 q b0 hq';rw[<-zkx (show q∉v.sls from f2)]at h2;have hbx':zfJ (M.set q (some b0)) id g=false:=by
     have:∃b,(zbg M v.sls)[id]?=some (some b):=by
      grind [storeAt,zaz]
     grind [id,zhd,zfJ,look,zhl]
    simp_all [zhT,if_true]
 |_=>exact⟨fun av M' fp h=>(by cases h),fun av M' fp q b0 h _=>(by cases h)⟩
theorem zgE(hq:M[q]?=some none){esz:Nat}{c:Cl}{ys:List (List Cl)}(h:zeF M esz c=some ys):zeF (M.set q (some b0)) esz c=some ys:=by
 cases c with
 |slice id g e off len cap =>
  grind [zeF,zei]
 |_=>exact h
theorem zvI{b:Blk}{q:Nat}:(M++[some b])[q]?=some none<->M[q]?=some none:=by
 grind
theorem zpI{b:Blk}{q:Nat}(hq:M[q]?=some none):(M.set q (some b0))++[some b]=(M++[some b]).set q (some b0):=by
 grind
theorem zy4{esz bytes:Nat}{s x:Cl}:Hv M (fun M=>zcB M esz bytes s x):=by
 have key:∀{r},zcB M esz bytes s x=some r->∃ys,zeF M esz x=some ys /\
   ((∃v,r=(v,M,.no)/\∀M1:Mem,M1.length=M.length->zeF M1 esz x=some ys->zcB M1 esz bytes s x=some (v,M1,.no)) \/
    (∃v id b,r=(v,M,.wr [(id,0,whole)])/\M[id]?=some (some b)/\∀M1:Mem,M1.length=M.length->zeF M1 esz x=some ys->M1[id]?=some (some b)->zcB M1 esz bytes s x=some (v,M1,.wr [(id,0,whole)])) \/
    (∃v,r=(v,M++[some { box:=false,esz,rows:=ys,gen:=ys.length,fz:=false,ver:=ys.length }],.no)/\∀M1:Mem,M1.length=M.length->zeF M1 esz x=some ys->zcB M1 esz bytes s x=some (v,M1++[some { box:=false,esz,rows:=ys,gen:=ys.length,fz:=false,ver:=ys.length }],.no)) \/
    (∃v id b b',r=(v,M.set id (some b'),.wr [(id,0,whole)])/\M[id]?=some (some b)/\∀M1:Mem,M1.length=M.length->zeF M1 esz x=some ys->M1[id]?=some (some b)->zcB M1 esz bytes s x=some (v,M1.set id (some b'),.wr [(id,0,whole)]))):=by
  intro r h;unfold zcB at h;split at h
  ·grind
  ·rename_i ys hys;refine⟨ys,hys,?_⟩;dsimp only at h;split at h
   ·split at h
    ·rename_i hc;cases h;refine .inl ⟨_,rfl,fun M1 hl h1=>?_⟩;simp only[zcB,h1];rw[if_pos hc]
    ·rename_i hne;split at h
     ·rename_i hc;cases h;refine .inr (.inr (.inl ⟨_,rfl,fun M1 hl h1=>?_⟩));simp only[zcB,h1];rw[if_neg hne,if_pos hc,hl]
     ·cases h
   ·split at h
    ·rename_i hc;cases h;refine .inl ⟨_,rfl,fun M1 hl h1=>?_⟩;simp only[zcB,h1];rw[if_pos hc]
    ·cases h
   ·rename_i id g esz' off len cap;split at h
    ·rename_i b hlk;obtain⟨hb,rfl⟩:=zaz hlk;have hlk1:∀M1:Mem,M1[id]?=some (some b)->look M1 id b.gen=some b:=fun M1 h2=>by unfold look;rw[h2];simp
     split at h
     ·rename_i hc;split at h
      ·rename_i yX;cases h;refine .inr (.inl ⟨_,_,b,rfl,hb,fun M1 hl h1 h2=>?_⟩);simp only[zcB,h1,hlk1 M1 h2];rw[if_pos hc,if_pos yX]
      ·rename_i yX;cases h;refine .inr (.inr (.inr ⟨_,_,b,_,rfl,hb,fun M1 hl h1 h2=>?_⟩));simp only[zcB,h1,hlk1 M1 h2];rw[if_pos hc,if_neg yX]
     ·cases h
    ·cases h
   ·cases h
 refine⟨fun av M' fp h=>?_,fun av M' fp q b0 h hq=>?_⟩
 ·obtain⟨ys,hys,⟨v,hr,_⟩ |⟨v,id,b,hr,_,_⟩ |⟨v,hr,_⟩ |⟨v,id,b,b',hr,hb,_⟩⟩:=key h
  ·simp only[jt]at hr;obtain⟨rfl,rfl,rfl⟩:=hr;exact Eff.refl
  ·simp only[jt]at hr;obtain⟨rfl,rfl,rfl⟩:=hr;exact Eff.refl
  ·simp only[jt]at hr;obtain⟨rfl,rfl,rfl⟩:=hr;exact⟨by simp,fun q=>zvI,fun _ _ id hid=>by rw[jq hid],fun l hl=>by cases hl⟩
  ·simp only[jt]at hr;obtain⟨rfl,rfl,rfl⟩:=hr;refine⟨by simp,fun q=>zl1 hb,fun _ h=>absurd rfl (h _),fun l hl id' b' hb' k n ha=>?_⟩;cases hl;rcases FP.vu ha (jG.2 rfl)with hne |⟨hne,_⟩
   ·exact⟨b',by rw[jD (qX hne)];exact hb',rfl,fun _=>rfl⟩
   ·exact absurd hne (vM _)
 ·obtain⟨ys,hys,⟨v,hr,ul⟩ |⟨v,id,b,hr,hb,ul⟩ |⟨v,hr,ul⟩ |⟨v,id,b,b',hr,hb,ul⟩⟩:=key h
  ·simp only[jt]at hr;obtain⟨rfl,rfl,rfl⟩:=hr;exact ul _ (by simp) (zgE hq hys)
  ·simp only[jt]at hr;obtain⟨rfl,rfl,rfl⟩:=hr;exact ul _ (by simp) (zgE hq hys) (by rw[zhl (zhd hq hb)];exact hb)
  ·simp only[jt]at hr;obtain⟨rfl,rfl,rfl⟩:=hr;have:=ul (M.set q (some b0)) (by simp) (zgE hq hys);rw[zpI hq]at this;exact this
  ·simp only[jt]at hr;obtain⟨rfl,rfl,rfl⟩:=hr;have hne:=zhd hq hb;have:=ul (M.set q (some b0)) (by simp) (zgE hq hys) (by rw[zhl hne];exact hb);rw[qF _ _ hne.symm]at this;exact this
theorem zAz{zero:List Cl}{x:Cl}:Hv M (fun M=>zgI M zero x):=by
 cases x with
 |jc =>
  exact⟨fun av M' fp h=>(by obtain⟨_,rfl,rfl⟩:=h;exact Eff.refl),
   fun av M' fp q b0 h hq=>(by simp only[zgI,jh,jt]at h ⊢;obtain⟨rfl,rfl,rfl⟩:=h;simp)⟩
 |slice id g e off len cap =>
  refine⟨fun av M' fp h=>?_,fun av M' fp q b0 h hq=>?_⟩
  ·simp only[zgI]at h;split at h
   ·grind [Eff.refl]
   ·split at h
    ·rename_i b hlk;obtain⟨hb,rfl⟩:=zaz hlk;split at h
     ·cases h;refine⟨by simp,fun q=>zl1 hb,fun _ h=>absurd rfl (h _),fun l hl id' b' hb' k n ha=>?_⟩;cases hl;rcases FP.vu ha (jG.2 rfl)with hne |⟨hne,_⟩
      ·grind
      grind
     grind
    grind
  ·simp only[zgI]at h ⊢;split at h
   ·grind
   ·rename_i h0;rw[if_neg h0];split at h
    ·rename_i b hlk;obtain⟨hb,rfl⟩:=zaz hlk;split at h
     ·rename_i hc;cases h;rw[zei hq hlk];simp only;rw[if_pos hc,qF _ _ (zhd hq hb).symm]
     grind
    grind
 |_=>exact⟨fun av M' fp h=>(by cases h),fun av M' fp q b0 h _=>(by cases h)⟩
theorem zkK:∀(f:Nat) (todo seen:List Nat),∀x∈seen,x∈collect M f todo seen
 |0,todo,seen,x,h=>h
 |f+1,[],seen,x,h=>h
 |f+1,id::todo,seen,x,h=>by
  simp only[collect];split
  ·exact zkK f _ _ x h
  ·exact zkK f _ _ x (qg _ h)
theorem zkL:∀(f:Nat) (todo seen:List Nat),q∉collect M f todo seen->collect (M.set q (some b0)) f todo seen=collect M f todo seen
 |0,todo,seen,h=>rfl
 |f+1,[],seen,h=>rfl
 |f+1,id::todo,seen,h=>by
  simp only[collect]at h ⊢;split
  ·rename_i hc;rw[if_pos hc]at h;exact zkL f _ _ h
  ·rename_i hc;rw[if_neg hc]at h;have hid:id≠q:=by
    rintro rfl;exact h (zkK f _ _ _ (uX _ (jG.2 rfl)))
   have e:zpw (M.set q (some b0)) id=zpw M id:=by grind [zpw,zhl]
   rw[e];exact zkL f _ _ h
theorem zm5{ρ:Nat->Option Nat}:∀{ids:List Nat},q∉ids->zck (M.set q (some b0)) ρ ids=zck M ρ ids
 |[],_=>rfl
 |id::ids,h=>by
  simp only[jQ,not_or]at h;simp only[zck];rw[zhl (qX h.1),zm5 h.2]
theorem zo6{ρ:Nat->Option Nat}:∀{ids:List Nat} {Ms:Mem} {r:Mem×List Nat},q∉ids->back ρ ids Ms M=some r->back ρ ids Ms (M.set q (some b0))=some (r.1.set q (some b0),r.2)
 |[],Ms,r,_,h=>by grind [back,Option.some.injEq]
 |id::ids,[],r,_,h=>by grind [back]
 |id::ids,none::Ms,r,_,h=>by grind [back]
 |id::ids,some b::Ms,r,hn,h=>by
  simp only[jQ,not_or]at hn;simp only[back]at h ⊢;rw[zhl (qX hn.1)];split at h
  ·split at h
   ·rename_i hv;simp only[if_pos hv];exact zo6 hn.2 h
   ·split at h
    ·rename_i b' M1 ch h1 h2;have:=zo6 hn.2 h2
     grind [List.set_comm]
    grind
  grind
theorem zom{ρ:Nat->Option Nat}:∀{ids:List Nat} {Ms:Mem} {r:Mem×List Nat},back ρ ids Ms M=some r->r.1.length=M.length/\(∀id,id∉r.2->r.1[id]?=M[id]?)/\∀q:Nat,r.1[q]?=some none<->M[q]?=some none
 |[],Ms,r,h=>by grind [back,Option.some.injEq]
 |id::ids,[],r,h=>by grind [back]
 |id::ids,none::Ms,r,h=>by grind [back]
 |id::ids,some b::Ms,r,h=>by
  simp only[back]at h;split at h
  ·split at h
   ·exact zom h
   ·split at h
    ·rename_i b' M1 ch h1 h2;obtain⟨e1,e2,e3⟩:=zom h2
     grind
    grind
  grind
theorem zs1{ids:List Nat}{Ms:Mem}{r:AV}:uG ids M r Ms=(match back (zeb ids M.length) ids Ms M,zgx (zeb ids M.length) (Ms.drop ids.length),znn (zeb ids M.length) r with
 |some (M',ch),some new,some r=>some (r,M'++new,if ch.isEmpty then .no else .wr (ch.map fun id=>(id,0,whole)))
 |_,_,_=>none):=rfl
theorem zyL{ids:List Nat}{Ms:Mem}{r av:AV}{fp:FP}(h:uG ids M r Ms=some (av,M',fp)):fp=.no\/∃l,fp=.wr l:=by
 grind [zs1]
theorem zy1{cf:za4}{f:FuncId}{args:List WV}{av:AV}{fp:FP}(h:zcG cf f args M=some (av,M',fp)):fp=.no\/∃l,fp=.wr l:=by
 grind [zcG,zyL]
theorem zs0{ids:List Nat}{Ms:Mem}{r:AV}:(∀av M' fp,uG ids M r Ms=some (av,M',fp)->Eff M M' fp) /\
  (∀av M' fp (q:Nat) b0,uG ids M r Ms=some (av,M',fp)->M[q]?=some none->q∉ids->uG ids (M.set q (some b0)) r Ms=some (av,M'.set q (some b0),fp)):=by
 have key:∀av M' fp,uG ids M r Ms=some (av,M',fp)->∃M1 ch new,back (zeb ids M.length) ids Ms M=some (M1,ch)/\zgx (zeb ids M.length) (Ms.drop ids.length)=some new/\znn (zeb ids M.length) r=some av /\
   M'=M1++new/\fp=if ch.isEmpty then .no else .wr (ch.map fun id=>(id,0,whole)):=by
  intro av M' fp h;simp only[uG]at h;split at h
  ·rename_i M1 ch new r1 h1 h2 h3;simp only[jh,jt]at h;obtain⟨rfl,rfl,rfl⟩:=h;exact⟨M1,ch,new,h1,h2,h3,rfl,rfl⟩
  grind
 refine⟨fun av M' fp h=>?_,fun av M' fp q b0 h hq hid=>?_⟩
 ·obtain⟨M1,ch,new,h1,h2,h3,rfl,rfl⟩:=key _ _ _ h;obtain⟨e1,e2,e3⟩:=zom h1;dsimp only at e1 e2 e3;have Bn:∀k:Nat,new[k]?≠some none:=by
   have:∀{ρ:Nat->Option Nat} {Ms Ms':Mem},zgx ρ Ms=some Ms'->∀k:Nat,Ms'[k]?≠some none:=by
    intro ρ Ms;induction Ms with
    |nil=>intro Ms' h k;simp only[zgx,jh]at h;subst h;simp
    |cons x xs ih =>
     intro Ms' h k;cases x with
     |none=>grind [zgx]
     |some b =>
      grind [zgx]
   grind
  refine⟨by grind,fun q=>?_,fun hb hw id hid=>?_,fun l hl id b hb k n ha=>?_⟩
  ·grind
  ·grind
  ·rw[jq (by grind)];have hne:id∉ch:=by
    intro hm;split at hl
    ·grind
    ·cases hl;rcases FP.vu ha (jZ.2 ⟨id,hm,rfl⟩)with h |⟨h,_⟩
     ·grind
     grind
   grind
 ·obtain⟨M1,ch,new,h1,h2,h3,rfl,rfl⟩:=key _ _ _ h;have h1':=zo6 (b0:=b0) hid h1;have e1:=(zom h1).1;have hl:(M.set q (some b0)).length=M.length:=by simp
  grind [zs1,List.set_append_left,zC]
theorem zie{cf:za4}{f:FuncId}{args:List WV}:Hv M (fun M=>zcG cf f args M):=by
 have key:∀{r},zcG cf f args M=some r->∃ids Ms r0 Ms0,collect M zfj (args.flatMap WV.ids) []=ids/\zck M (zd3 ids) ids=some Ms/\uG ids M r0 Ms0=some r /\
   ∀M1:Mem,collect M1 zfj (args.flatMap WV.ids) []=ids->zck M1 (zd3 ids) ids=some Ms->zcG cf f args M1=uG ids M1 r0 Ms0:=by
  intro r h;unfold zcG at h;dsimp only at h;split at h
  ·split at h
   ·rename_i as Ms has hMs;split at h
    ·grind
    ·rename_i r1 Ms1 hc;refine⟨_,Ms,r1,Ms1,rfl,hMs,h,fun M1 h1 h2=>?_⟩
     simp_all [zcG,if_true]
   grind
  grind
 refine⟨fun av M' fp h=>?_,fun av M' fp q b0 h hq=>?_⟩
 ·obtain⟨ids,Ms,r0,Ms0,h1,h2,h3,h4⟩:=key h;exact zs0.1 _ _ _ h3
 ·obtain⟨ids,Ms,r0,Ms0,h1,h2,h3,h4⟩:=key h;have hid:q∉ids:=by
   intro hm;obtain⟨k,hk⟩:=jW hm;obtain⟨b,_,hb,_⟩:=(zfp h2).2.1 k q hk
   grind
  have h5:=h4 (M.set q (some b0)) (by grind [zkL]) (by grind [zm5]);rw[h5];exact zs0.2 _ _ _ q b0 h3 hq hid
theorem zy0{cf:za4}{m:zbz}{fv:WV}{args:List WV}:Hv M (fun M=>zx cf m fv args M):=by
 have key:∀{r},zx cf m fv args M=some r->∃f fi ca y,callee fv=some (f,fi,ca,y)/\((m.fa=false/\(y||zl2 f (fi++args++ca))=true/\zcG cf f (fi++args++ca) M=some r) \/
   (m.fa=true/\∃as,zla M args=some as/\(y||zl2 f (fi++as++ca))=true/\(((args.flatMap WV.sls).isEmpty=true/\zcG cf f (fi++as++ca) M=some r) \/
    ((args.flatMap WV.sls).isEmpty=false/\∃r0 M2 fp,zcG cf f (fi++as++ca) (zbg M (args.flatMap WV.sls))=some (r0,M2,fp) /\
     (((fp.isNo&&M2.length==M.length&&r0.plain)=false/\r=(r0,M2,match fp with |.wr l=>.wr ((args.flatMap WV.sls).map (fun id=>(id,0,whole))++l) |_=>.wr ((args.flatMap WV.sls).map fun id=>(id,0,whole)))) \/
      ((fp.isNo&&M2.length==M.length&&r0.plain)=true/\r=(r0,M,.no))))))):=by
  intro r h;unfold zx at h;split at h
  ·rename_i f fi ca y hce;refine⟨f,fi,ca,y,hce,?_⟩;split at h
   ·rename_i hfa;split at h
    ·cases h
    ·rename_i as has;split at h
     ·rename_i hhd;dsimp only at h;refine .inr ⟨hfa,as,has,hhd,?_⟩;split at h
      ·rename_i yX;exact .inl ⟨yX,h⟩
      ·rename_i yX;split at h
       ·cases h
       ·rename_i r0 M2 fp hc;refine .inr ⟨by simpa using yX,r0,M2,fp,hc,?_⟩;split at h
        ·rename_i hp;cases h;exact .inr ⟨hp,rfl⟩
        ·rename_i hp;cases h;exact .inl ⟨by simpa using hp,rfl⟩
     ·cases h
   grind
  grind
 refine⟨fun av M' fp h=>?_,fun av M' fp q b0 h hq=>?_⟩
 ·obtain⟨f,fi,ca,y,hce,⟨_,_,h1⟩ |⟨_,as,has,_,⟨_,h1⟩ |⟨_,r0,M2,fp2,hc,⟨_,hr⟩ |⟨_,hr⟩⟩⟩⟩:=key h
  ·exact zie.eff _ _ _ h1
  ·exact zie.eff _ _ _ h1
  ·simp only[jt]at hr;obtain⟨rfl,rfl,rfl⟩:=hr;have e1:=zpr (M:=M) (args.flatMap WV.sls);have e2:=(zie (M:=zbg M (args.flatMap WV.sls))).eff _ _ _ hc;rcases zy1 hc with rfl |⟨l,rfl⟩
   ·have:=e1.trans (e2.DL []);grind
   ·exact e1.trans e2
  ·simp only[jt]at hr;obtain⟨rfl,rfl,rfl⟩:=hr;exact Eff.refl
 ·obtain⟨f,fi,ca,y,hce,⟨hfa,hhd,h1⟩ |⟨hfa,as,has,hhd,⟨yX,h1⟩ |⟨yX,r0,M2,fp2,hc,B3⟩⟩⟩:=key h
  ·have:=zie.fill _ _ _ q b0 h1 hq
   simp_all [zx,if_true,jE,if_false]
  ·obtain⟨f1,f2⟩:=znt (b0:=b0) hq has;have:=zie.fill _ _ _ q b0 h1 hq
   simp_all [zx,if_true]
  ·obtain⟨f1,f2⟩:=znt (b0:=b0) hq has;have hq':(zbg M (args.flatMap WV.sls))[q]?=some none:=zhW.2 hq;have hc':zcG cf f (fi++as++ca) ((zbg M (args.flatMap WV.sls)).set q (some b0))=_:=zie.fill _ _ _ q b0 hc hq';rw[<-zkx f2]at hc';rcases B3 with⟨hp,hr⟩ |⟨hp,hr⟩
   ·simp only[jt]at hr;obtain⟨rfl,rfl,rfl⟩:=hr;simp only[zx,hce,hfa,if_true,f1,hc',yX,hhd,Ay,hp,jE,if_false];cases fp2<;>rfl
   ·simp only[jt]at hr;obtain⟨rfl,rfl,rfl⟩:=hr;simp only[zx,hce,hfa,if_true,f1,hc',yX,hhd,Ay,hp,jE,if_false]
end
end Go.Eng
namespace Go.Eng
open Go
variable[zb0]
section
variable{M M':Mem}{q:Nat}{b0:Blk}
theorem zg2(hq:M[q]?=some none){id:Nat}{x:Blk×Int×List (List Cl)}(h:zi4 M id=some x):zi4 (M.set q (some b0)) id=some x:=by
 unfold zi4 at h ⊢;split at h
 ·rename_i b hb;rw[zei hq hb];exact h
 ·cases h
theorem zjH{id:Nat}{x:Blk×Int×List (List Cl)}(h:zi4 M id=some x):M[id]?=some (some x.1):=by
 unfold zi4 at h;split at h
 ·rename_i b hb;split at h
  ·cases h;exact(zaz hb).1
  ·cases h
 ·cases h
theorem znc(hq:M[q]?=some none){id g i k n:Nat}{cs:List Cl}(h:ziB M id g i k n=some cs):ziB (M.set q (some b0)) id g i k n=some cs:=by
 unfold ziB at h ⊢;split at h
 ·rename_i b hb;rw[zei hq hb];exact h
 ·cases h
theorem Hv.read{f:Mem->Option AV}{run:Mem->Option (AV×Mem×FP)}(hr:∀M,run M=(f M).map fun v=>(v,M,.no))(hf:∀(v:AV) (q:Nat) (b0:Blk),f M=some v->M[q]?=some none->f (M.set q (some b0))=some v):Hv M run:=by
 refine⟨fun av M' fp h=>?_,fun av M' fp q b0 h hq=>?_⟩
 ·rw[hr]at h;simp only[ja,jt]at h;obtain⟨_,_,_,rfl,rfl⟩:=h;exact Eff.refl
 ·rw[hr]at h ⊢;simp only[ja,jt]at h;obtain⟨v,hv,rfl,rfl,rfl⟩:=h;rw[hf v q b0 hv hq];rfl
theorem zqu{id:Nat}{b b':Blk}{fp:List (Nat×Nat×Nat)}(hb:M[id]?=some (some b))(hfp:(id,0,whole)∈fp):Eff M (M.set id (some b')) (.wr fp):=by
 refine⟨by simp,fun q=>zl1 hb,fun _ h=>absurd rfl (h _),fun l hl id' b1 hb' k n ha=>?_⟩;cases hl;rcases FP.vu ha hfp with hne |⟨hne,_⟩
 ·exact⟨b1,by rw[jD (qX hne)];exact hb',rfl,fun _=>rfl⟩
 ·exact absurd hne (vM _)
theorem zyz{ok g:Bool}{z:WV}{vs:List WV}:Hv M fun M=>znp M ok g z vs:=by
 refine Hv.read (f:=fun M=>(znp M ok g z vs).map (·.1)) (fun M=>?_) (fun v q b0 h hq=>?_)
 ·unfold znp
  repeat' split
  all_goals first |rfl |(split<;>rfl)
 ·revert h;unfold znp;split
  ·split
   ·exact fun h=>h
   ·split
    ·split
     ·rename_i hat;rw[zg2 hq hat];simp only;split
      ·split<;>exact fun h=>h
      ·exact fun h=>h
      ·exact fun h=>h
     ·intro h;cases h
    ·exact fun h=>h
   ·exact fun h=>h
  ·exact fun h=>h
theorem zyy{vs:List WV}:Hv M fun M=>zno M vs:=by
 refine Hv.read (f:=fun M=>(zno M vs).map (·.1)) (fun M=>?_) (fun v q b0 h hq=>?_)
 ·unfold zno
  repeat' split
  all_goals rfl
 ·revert h;unfold zno;split
  ·split
   ·exact fun h=>h
   ·split
    ·rename_i hat;rw[zg2 hq hat];exact fun h=>h
    ·intro h;cases h
   ·exact fun h=>h
  ·exact fun h=>h
theorem zu4{vs:List WV}:Hv M fun M=>zil M vs:=by
 refine Hv.read (f:=fun M=>(zil M vs).map (·.1)) (fun M=>?_) (fun v q b0 h hq=>?_)
 ·unfold zil
  repeat' split
  all_goals rfl
 ·revert h;unfold zil;split
  ·split
   ·rename_i b hb;rw[zei hq hb];simp only;split
    ·split
     ·rename_i hat;rw[zg2 hq hat];simp only;split
      ·split<;>exact fun h=>h
      ·exact fun h=>h
     ·intro h;cases h
    ·exact fun h=>h
   ·intro h;cases h
  ·exact fun h=>h
theorem zzk{vs:List WV}:Hv M fun M=>zkf M vs:=by
 refine Hv.read (f:=fun M=>(zkf M vs).map (·.1)) (fun M=>?_) (fun v q b0 h hq=>?_)
 ·unfold zkf
  repeat' split
  all_goals rfl
 ·revert h;unfold zkf;split
  ·split
   ·split
    ·rename_i hb;rw[znc hq hb];simp only;split<;>exact fun h=>h
    ·intro h;cases h
   ·exact fun h=>h
  ·split
   ·rename_i hy;rw[zgE hq hy];simp only;split<;>exact fun h=>h
   ·intro h;cases h
  ·exact fun h=>h
theorem zyx{g:Bool}{vs:List WV}:Hv M fun M=>zoJ M g vs:=by
 refine⟨fun av M' fp h=>?_,fun av M' fp q b0 h hq=>?_⟩
 ·unfold zoJ at h;split at h
  ·split at h
   ·split at h
    ·rename_i hat;split at h
     ·cases h;exact zqu (zjH hat) (by simp)
     ·cases h;exact zqu (zjH hat) (by simp)
     ·cases h
    ·cases h
   ·cases h
  ·cases h
 ·revert h;unfold zoJ;split
  ·split
   ·split
    ·rename_i hat;rw[zg2 hq hat];simp only;have hne:=(zhd hq (zjH hat)).symm;split
     ·intro h;cases h;simp only[zlW];rw[qF _ _ hne]
     ·intro h;cases h;simp only[zlW];rw[qF _ _ hne]
     ·intro h;cases h
    ·intro h;cases h
   ·intro h;cases h
  ·intro h;cases h
theorem ZlD{g:Bool}{vs:List WV}:Hv M fun M=>Zig M g vs:=by
 have inv:∀{r},Zig M g vs=some r->∃m k v v' a M' l,vs=[m,k,v]/\zn7 M v=some v'/\zoJ (zbg M v.sls) g [m,k,v']=some (a,M',.wr l)/\r=(a,M',.wr (v.sls.map (fun x=>(x,0,whole))++l)):=by
  intro r h;unfold Zig at h;split at h
  ·rename_i m k v;split at h
   ·rename_i v' hf;split at h
    ·rename_i a M1 l hp;cases h;exact⟨m,k,v,v',a,M1,l,rfl,hf,hp,rfl⟩
    ·cases h
   ·cases h
  ·cases h
 refine⟨fun av M' fp h=>?_,fun av M' fp q b0 h hq=>?_⟩
 ·obtain⟨m,k,v,v',a,M1,l,rfl,hf,hp,e⟩:=inv h;cases e;exact(zpr v.sls).trans (zyx.1 _ _ _ hp)
 ·obtain⟨m,k,v,v',a,M1,l,rfl,hf,hp,e⟩:=inv h;cases e;obtain⟨f1,f2⟩:=zyU (b0:=b0) hq hf;have h2:=zyx.2 _ _ _ q b0 hp (zhW.2 hq);rw[<-zkx f2]at h2;show Zig (M.set q (some b0)) g [m,k,v]=_;simp only[Zig,f1,h2]
theorem zyA{vs:List WV}:Hv M fun M=>zoK M vs:=by
 refine⟨fun av M' fp h=>?_,fun av M' fp q b0 h hq=>?_⟩
 ·unfold zoK at h;split at h
  ·split at h
   ·cases h;exact Eff.refl
   ·split at h
    ·rename_i hat;split at h
     ·cases h;exact zqu (zjH hat) (by simp)
     ·cases h;exact Eff.refl
     ·cases h
    ·cases h
   ·cases h
  ·cases h
 ·revert h;unfold zoK;split
  ·split
   ·intro h;cases h;rfl
   ·split
    ·rename_i hat;rw[zg2 hq hat];simp only;have hne:=(zhd hq (zjH hat)).symm;split
     ·intro h;cases h;simp only[zlW];rw[qF _ _ hne]
     ·intro h;cases h;rfl
     ·intro h;cases h
    ·intro h;cases h
   ·intro h;cases h
  ·intro h;cases h
theorem zwH{vs:List WV}:Hv M fun M=>zmG M vs:=by
 refine⟨fun av M' fp h=>?_,fun av M' fp q b0 h hq=>?_⟩
 ·unfold zmG at h;split at h
  ·split at h
   ·rename_i b hb;split at h
    ·cases h;exact Eff.refl
    ·split at h
     ·split at h
      ·cases h;exact Eff.refl
      ·split at h
       ·split at h
        ·cases h;exact zqu (zaz hb).1 (by simp)
        ·cases h
       ·cases h
      ·cases h;exact Eff.refl
      ·split at h
       ·cases h;exact Eff.refl
       ·cases h
      ·cases h
     ·cases h
    ·cases h
   ·cases h
  ·cases h
 ·revert h;unfold zmG;split
  ·split
   ·rename_i b hb;rw[zei hq hb];simp only;have hne:=(zhd hq (zaz hb).1).symm;split
    ·intro h;cases h;rfl
    ·split
     ·rename_i hat _;rw[zg2 hq hat];rename_i hs;rw[hs];simp only;split
      ·intro h;cases h;rfl
      ·split
       ·split
        ·intro h;cases h;rw[qF _ _ hne]
        ·intro h;cases h
       ·intro h;cases h
      ·intro h;cases h;rfl
      ·split
       ·intro h;cases h;rfl
       ·intro h;cases h
      ·intro h;cases h
     ·intro h;cases h
    ·intro h;cases h
   ·intro h;cases h
  ·intro h;cases h
theorem zwO(hq:M[q]?=some none){id g:Nat}(h:zfJ M id g=true):zfJ (M.set q (some b0)) id g=true:=by
 unfold zfJ at h ⊢;split at h
 ·rename_i b hb;rw[zei hq hb];exact h
 ·cases h
theorem zBP{es:Nat}{vs:List WV}:Hv M fun M=>zoY M es vs:=by
 refine⟨fun av M' fp h=>?_,fun av M' fp q b0 h hq=>?_⟩
 ·unfold zoY at h;split at h
  ·split at h
   ·split at h
    ·cases h;exact Eff.refl
    ·split at h
     ·split at h
      ·split at h
       ·simp only[ja,jt]at h;obtain⟨M1,hst,rfl,rfl,rfl⟩:=h;unfold storeAt at hst;split at hst
        ·rename_i b hb;split at hst
         ·cases hst
         ·split at hst
          ·split at hst
           ·cases hst;exact zqu (zaz hb).1 (by simp)
           ·cases hst
          ·cases hst
        ·cases hst
       ·cases h
      ·cases h
     ·cases h
    ·cases h
   ·cases h
  ·cases h
 ·revert h;unfold zoY;split
  ·split
   ·split
    ·intro h;cases h;rfl
    ·split
     ·split
      ·rename_i hcs;rw[znc hq hcs];simp only;split
       ·rename_i hbx;rw[if_pos (zwO hq hbx)];intro h;simp only[ja,jt]at h ⊢;obtain⟨M1,hst,rfl,rfl,rfl⟩:=h;exact⟨_,(zhg hst).2 q b0 hq,rfl,rfl,rfl⟩
       ·intro h;cases h
      ·intro h;cases h
     ·intro h;cases h
    ·intro h;cases h
   ·intro h;cases h
  ·intro h;cases h
theorem ZsK{vs:List WV}:Hv M fun M=>ZrW M vs:=by
 refine⟨fun av M' fp h=>?_,fun av M' fp q b0 h hq=>?_⟩
 ·unfold ZrW at h;split at h
  ·split at h
   ·rename_i b hb;split at h
    ·cases h;exact zqu (zaz hb).1 (by simp)
    ·cases h
   ·cases h
  ·cases h
 ·unfold ZrW at h ⊢;split at h
  ·split at h
   ·rename_i b hb;rw[zei hq hb];simp only;split at h
    ·rename_i hc;rw[if_pos hc];cases h;rw[qF _ _ (zhd hq (zaz hb).1)]
    ·cases h
   ·cases h
  ·cases h
theorem ZsV{vs:List WV}:Hv M fun M=>Zr8 M vs:=by
 refine Hv.read (f:=fun M=>(Zr8 M vs).map (·.1)) (fun M=>?_) (fun v q b0 h hq=>?_)
 ·unfold Zr8
  (repeat' split)<;>rfl
 ·revert h;unfold Zr8;split
  ·split
   ·rename_i b b' h1 h2;rw[zei hq h1,zei hq h2];simp only;split<;>exact fun h=>h
   ·intro h;cases h
  ·exact fun h=>h
theorem zCB{k:MK}{vs:List WV}:Hv M fun M=>zCC M k vs:=by
 cases k with
 |get ok g z=>exact zyz
 |set g=>exact ZlD
 |del=>exact zyA
 |len=>exact zyy
 |next=>exact zwH
 |entry=>exact zu4
 |copy es=>exact zBP
 |CU=>exact zzk
 |mark=>exact ZsK
 |peq=>exact ZsV
end
end Go.Eng
namespace Go.Eng
open Go
variable[zb0]
abbrev zhy:=Nat->Option AV
def zjC(E:zhy)(dst:Option Nat)(v:AV):zhy:=fun n=>if dst=some n then some v else E n
theorem ztG{E:Env}{dst:Option Nat}{v:AV}:(E.put dst v).get=zjC E.get dst v:=by
 funext n;cases dst with
 |none=>simp[Env.put,zjC]
 |some d=>simp[Env.put,zjC,Env.get]
section
variable{E E':zhy}
theorem zad{o:Opd}(h:∀n∈o.slots,E n=E' n):o.ev E=o.ev E':=by
 cases o with
 |s n=>grind [Opd.ev,Opd.slots]
 |k v=>rfl
theorem zAJ{o:Opd}(h:∀n∈o.slots,E n=E' n):o.av E=o.av E':=by
 cases o with
 |s n=>grind [Opd.av,Opd.slots]
 |k v=>rfl
theorem zgm:∀{os:List Opd},(∀n∈os.flatMap Opd.slots,E n=E' n)->evs E os=evs E' os
 |[],_=>rfl
 |o::os,h=>by
  simp only[j9,jN]at h;simp only[evs,zad (fun n hn=>h n (.inl hn)),zgm (fun n hn=>h n (.inr hn))]
theorem zlb:∀{ps:List (Nat×Nat×Opd)} {cs:List Cl},(∀n∈ps.flatMap (fun p=>p.2.2.slots),E n=E' n)->zdv E cs ps=zdv E' cs ps
 |[],_,_=>rfl
 |(a,b,o)::ps,cs,h=>by
  simp only[j9,jN]at h;simp only[zdv,zad (o:=o) (fun n hn=>h n (.inl hn))];split
  ·split
   ·exact zlb fun n hn=>h n (.inr hn)
   simp
  simp
theorem zl4{M:Mem}{esz:Nat}:∀{ps:List (Nat×Opd)} {rs:List (List Cl)},(∀n∈ps.flatMap (fun p=>p.2.slots),E n=E' n)->zdS E M esz rs ps=zdS E' M esz rs ps
 |[],_,_=>rfl
 |(a,o)::ps,rs,h=>by
  simp only[j9,jN]at h;simp only[zdS,zad (o:=o) (fun n hn=>h n (.inl hn))];split
  ·split
   ·split
    ·exact zl4 fun n hn=>h n (.inr hn)
    simp
   simp
  simp
theorem zlV:∀{ps:List (Nat×Opd)},(∀n∈ps.flatMap (fun p=>p.2.slots),E n=E' n)->zcf E ps=zcf E' ps
 |[],_=>rfl
 |(a,o)::ps,h=>by
  simp only[j9,jN]at h;have:=zlV (ps:=ps) fun n hn=>h n (.inr hn)
  grind [zcf,zad]
theorem zjv{o:Option Opd}{d t:Nat}(h:∀n∈o.toList.flatMap Opd.slots,E n=E' n):zcy E o d t=zcy E' o d t:=by
 cases o with
 |none=>rfl
 |some o=>grind [zcy,zad]
theorem ztx{len:Nat}{cap:Option Nat}{lo hi mx:Option Opd}(h:∀n∈(lo.toList++hi.toList++mx.toList).flatMap Opd.slots,E n=E' n):sliceB E len cap lo hi mx=sliceB E' len cap lo hi mx:=by
 simp only[List.flatMap_append,jN]at h;have h1:∀d t,zcy E lo d t=zcy E' lo d t:=fun d t=>zjv fun n hn=>h n (.inl (.inl hn))
 have h2:∀d t,zcy E hi d t=zcy E' hi d t:=fun d t=>zjv fun n hn=>h n (.inl (.inr hn))
 have h3:∀d t,zcy E mx d t=zcy E' mx d t:=fun d t=>zjv fun n hn=>h n (.inr hn)
 simp_all [sliceB]
theorem ztw{es:Nat}{x:Cl}{lo hi mx:Option Opd}(h:∀n∈(lo.toList++hi.toList++mx.toList).flatMap Opd.slots,E n=E' n):znj E es x lo hi mx=znj E' es x lo hi mx:=by
 cases x<;>simp only[znj,ztx h]
theorem zyq{cf:za4}{n0:Nat}{M:Mem}{co:CO}(h:∀n∈co.slots,E n=E' n):opF cf n0 E M co=opF cf n0 E' M co:=by
 cases co<;>simp only[CO.slots,jN]at h
 case mv x=>simp only[opF,zAJ h]
 case kA q e=>rfl
 case pick c a b =>
  simp only[opF,zad (o:=c) (fun n hn=>h n (.inl (.inl hn)))];split
  ·rename_i t _;cases t
   ·simp only[jE,if_false,zad (o:=b) (fun n hn=>h n (.inr hn))]
   ·simp only[if_true,zad (o:=a) (fun n hn=>h n (.inl (.inr hn)))]
  ·rfl
 case box q n x=>simp only[opF,zad h]
 case build z ps=>grind [opF,zlb]
 case lit q e z ps=>simp only[opF,zl4 h,zlV h]
 case load a n p=>simp only[opF,zad h]
 case store n p v=>simp only[opF,zad (o:=p) (fun n hn=>h n (.inl hn)),zad (o:=v) (fun n hn=>h n (.inr hn))]
 case jA x=>simp only[opF,zad h]
 case bin op x y=>grind [opF,zad]
 case eqb op x y=>simp only[opF,zad (o:=x) (fun n hn=>h n (.inl hn)),zad (o:=y) (fun n hn=>h n (.inr hn))]
 case AG g x=>grind [opF,zad]
 case eqa g s x y=>simp only[opF,zad (o:=x) (fun n hn=>h n (.inl hn)),zad (o:=y) (fun n hn=>h n (.inr hn))]
 case un op x=>simp only[opF,zad h]
 case conv k x=>simp only[opF,zad h]
 case uU f a b=>simp only[opF,zgm (os:=a) (fun n hn=>h n (.inl hn)),zgm (os:=b) (fun n hn=>h n (.inr hn))]
 case Ap q e b z l c=>simp only[opF,zad (o:=l) (fun n hn=>h n (.inl hn)),zad (o:=c) (fun n hn=>h n (.inr hn))]
 case slice e x lo hi mx =>
  simp only[opF,zad (o:=x) (fun n hn=>h n (.inl hn))];split
  ·rw[ztw (fun n hn=>h n (.inr hn))]
  ·rfl
 case BI f p=>grind [opF,zad]
 case field a f n x=>grind [opF,zad]
 case Bl e x y=>grind [opF,zad]
 case yG l e x y=>grind [opF,zad]
 case Dk a l e x y=>grind [opF,zad]
 case extract t i=>grind [opF]
 case len x=>grind [opF,zad]
 case slen x=>grind [opF,zad]
 case ko m xs=>grind [opF,zgm]
 case p1 k x=>grind [opF,zad]
 case p2 k x y=>grind [opF,zad]
 case append e b x y=>grind [opF,zad]
 case clear z x=>grind [opF,zad]
 case call m f as=>grind [opF,zad,zgm]
 case pop k xs=>grind [opF,zgm]
 case mop k xs=>grind [opF,zgm]
 case Ac k q xs=>grind [opF,zgm]
 case bad=>rfl
theorem zph{cf:za4}{n0:Nat}{M:Mem}{o:zaG}(h:∀n∈o.slots,E n=E' n):zbm cf n0 o E M=zbm cf n0 o E' M:=by
 grind [zaG.slots,zbm,opF,zyq,zke]
end
abbrev Run:=Mem->Option (AV×Mem×FP)
def zld(R:Run):Prop:=∃g:Option AV,∀M,R M=g.map fun v=>(v,M,.no)
def zj4(R:Run):Prop:=∃agg n x,∀M,R M=zdZ M agg n x
def zkZ(R:Run):Prop:=(∀M,Hv M R)/\∀M av M' a b c,R M≠some (av,M',.ld a b c)
def ziE(R:Run):Prop:=∀M av M' fp,R M=some (av,M',fp)->fp≠.bad->(fp=.no/\∃(q:Nat) (b:Blk),M[q]?=some none/\M'=M.set q (some b)/\∀M1:Mem,M1[q]?=some none->R M1=some (av,M1.set q (some b),fp)) \/
 ∃l q b,fp=.mk l/\(zbg M l)[q]?=some none/\M'=(zbg M l).set q (some b)
theorem Zpj{M:Mem}{id k:Nat}(h:id≠k):(zX M id)[k]?=M[k]?:=by
 grind [zX,List.getElem?_set_ne]
theorem ZoZ:∀{ids:List Nat} {M:Mem} {k:Nat},k∉ids->(zbg M ids)[k]?=M[k]?
 |[],M,k,_=>rfl
 |id::ids,M,k,h=>by
  simp only[jQ,not_or]at h;show(zbg (zX M id) ids)[k]?=_;rw[ZoZ h.2,Zpj (qX h.1)]
theorem zgj{M M':Mem}{agg:Bool}{n:Nat}{x:Cl}{av:AV}{fp:FP}(h:zdZ M agg n x=some (av,M',fp)):M'=M:=by
 unfold zdZ at h;split at h
 ·grind [Option.map_eq_some_iff,Prod.mk.injEq]
 ·grind [Option.map_eq_some_iff,Prod.mk.injEq]
 grind
theorem zDf{RA RB:Run}{M M1 M2:Mem}{va vb:AV}{fa fb:FP}{base:Nat}(hA:RA M=some (va,M1,fa))(hB:RB M1=some (vb,M2,fb))(AK:base<=M.length)
  (h:zld RA\/zld RB\/(zj4 RA/\zj4 RB)\/(fa.apart fb=true/\fb.old base=true/\((zj4 RA/\zkZ RB)\/(zkZ RA/\zj4 RB)\/(zj4 RA/\ziE RB)\/(zkZ RA/\ziE RB)\/(ziE RA/\ziE RB)))) :
  ∃M1',RB M=some (vb,M1',fb)/\RA M1'=some (va,M2,fa):=by
 have ne1:fa.apart fb=true->fb≠.bad:=by rintro h rfl;cases fa<;>simp[FP.apart]at h
 have ne2:fa.apart fb=true->fa≠.bad:=by grind [FP.apart]
 rcases h with⟨g,hg⟩ |⟨g,hg⟩ |⟨⟨_,_,x,hx⟩,⟨_,_,y,hy⟩⟩ |⟨hap,hold,h⟩
 ·rw[hg]at hA;simp only[ja,jt]at hA
  grind
 ·rw[hg]at hB;simp only[ja,jt]at hB
  grind
 ·grind [zgj]
 ·rcases h with⟨⟨_,_,x,hx⟩,hb⟩ |⟨ha,⟨_,_,y,hy⟩⟩ |⟨⟨_,_,x,hx⟩,hb⟩ |⟨ha,hb⟩ |⟨ha,hb⟩
  ·rw[hx]at hA;have:=zgj hA;subst this;exact⟨M2,hB,by rw[hx];exact((hb.1 _).eff _ _ _ hB).load hA hap⟩
  ·rw[hy]at hB;have:=zgj hB;subst this;exact⟨M,by rw[hy];exact((ha.1 _).eff _ _ _ hA).C7 hB hap hold AK,hA⟩
  ·rw[hx]at hA;have:=zgj hA;subst this;have key:∀(id:Nat) (b:Blk),M1[id]?=some (some b)->(∀k n,fa=.ld id k n->M2[id]?=some (some b)):=by
    rcases hb _ _ _ _ hB (ne1 hap)with⟨_,q,b,h1,rfl,h3⟩ |⟨l,q,b,rfl,h1,rfl⟩
    ·grind
    grind [id,FP.apart,ZoZ,zhl,zhd]
   refine⟨_,hB,?_⟩;rw[hx];unfold zdZ at hA ⊢;split at hA
   ·split at hA
    ·rename_i b' hlk;split at hA
     ·rename_i row hrow;split at hA
      ·rename_i cs Bk;simp only[ja,jt]at hA;obtain⟨w,hw,rfl,_,rfl⟩:=hA;obtain⟨g1,g2⟩:=zaz hlk;have g3:=key _ _ g1 _ _ rfl;subst g2;simp[look,g3,hrow,Bk,hw]
      grind
     grind
    grind
   ·split at hA
    ·simp only[ja,jt]at hA;obtain⟨w,hw,rfl,_,rfl⟩:=hA;simp[hw]
    ·cases hA
   grind
  ·rcases hb _ _ _ _ hB (ne1 hap)with⟨_,q,b,h1,rfl,h3⟩ |⟨l,q,b,rfl,h1,rfl⟩
   ·have hq:M[q]?=some none:=(((ha.1 _).eff _ _ _ hA).hole q).1 h1;exact⟨_,h3 M hq,(ha.1 M).fill _ _ _ q b hA hq⟩
   ·cases fa with
    |ld a b c=>exact absurd hA (ha.2 _ _ _ _ _ _)
    |_=>simp[FP.apart]at hap
  ·rcases ha _ _ _ _ hA (ne2 hap)with⟨rfl,qa,ba,a1,rfl,a3⟩ |⟨l,_,_,rfl,_,_⟩
   ·rcases hb _ _ _ _ hB (ne1 hap)with⟨_,qb,bb,b1,rfl,b3⟩ |⟨l,_,_,rfl,_,_⟩
    ·have hne:qa≠qb:=by
      rintro rfl;rw[jY (zC a1)]at b1;cases b1
     rw[jD hne]at b1;refine⟨_,b3 M b1,?_⟩;rw[a3 _ (by rw[jD hne.symm];exact a1),qF _ _ hne]
    ·simp[FP.apart]at hap
   ·cases fb<;>simp[FP.apart]at hap
theorem zjG{M:Mem}{q:Nat}{b:Blk}(h:M[q]?=some none):zg M q b=some (M.set q (some b)):=by simp[zg,h]
theorem ztJ{E:zhy}{a:Nat}{o:Opd}{ps:List (Nat×Opd)}(h:(zcf E ((a,o)::ps)).isEmpty=true):(∀v,o.ev E=some v->v.sls=[])/\(zcf E ps).isEmpty=true:=by
 grind [zcf,List.isEmpty_iff,List.append_eq_nil_iff]
theorem zs6{M M1:Mem}:∀{cs:List Cl},cs.flatMap slC=[]->yL M cs=yL M1 cs
 |[],_=>rfl
 |c::cs,h=>by
  simp only[j9,List.append_eq_nil_iff]at h;have:zdR M c=zdR M1 c:=by
   cases c<;>first |rfl |grind [slC]
  simp only[yL,this,zs6 (M:=M) (M1:=M1) h.2]
theorem zna{E:zhy}{M M1:Mem}{esz:Nat}:∀{ps:List (Nat×Opd)} {rs:List (List Cl)},(zcf E ps).isEmpty=true->zdS E M esz rs ps=zdS E M1 esz rs ps
 |[],_,_=>rfl
 |(a,o)::ps,rs,h=>by
  obtain⟨h1,h2⟩:=ztJ h;simp only[zdS];cases ho:o.ev E with
  |none=>rfl
  |some v =>
   simp only;rw[zs6 (M:=M) (M1:=M1) (h1 v ho)];split
   ·split
    ·exact zna h2
    simp
   simp
theorem zwN{cf:za4}{n0:Nat}{E:zhy}{co:CO}(h:co.cls=.alloc):ziE fun M=>opF cf n0 E M co:=by
 intro M av M' fp hr hbad;cases co<;>first |(cases h;done) |skip
 case box q n x =>
  simp only[opF]at hr ⊢;split at hr
  ·rename_i v hv;split at hr
   ·rename_i hc;simp only[ja,jt]at hr;obtain⟨M1,h1,rfl,rfl,rfl⟩:=hr;obtain⟨q1,q2,rfl⟩:=za1 h1;refine .inl ⟨rfl,_,_,q1,rfl,fun M1 hM1=>?_⟩
    simp_all [if_pos,zjG]
   grind
  grind
 case kA q e =>
  simp only[opF,ja,jt]at hr ⊢;obtain⟨M1,h1,rfl,rfl,rfl⟩:=hr;obtain⟨q1,q2,rfl⟩:=za1 h1;refine .inl ⟨rfl,_,_,q1,rfl,fun M1 hM1=>?_⟩;rw[zjG hM1];exact⟨_,rfl,rfl,rfl,rfl⟩
 case lit q e z ps =>
  simp only[opF]at hr ⊢;split at hr
  ·rename_i rows u6;split at hr
   ·rename_i hc;simp only[ja,jt]at hr;obtain⟨M1,h1,rfl,rfl,rfl⟩:=hr;by_cases yX:(zcf E ps).isEmpty=true
    case neg =>
     rw[if_neg yX];obtain⟨q1,q2,rfl⟩:=za1 h1
     grind
    rw[if_pos yX]at hbad ⊢;have As:zcf E ps=[]:=by grind
    rw[As]at h1;obtain⟨q1,q2,rfl⟩:=za1 h1;refine .inl ⟨rfl,_,_,q1,rfl,fun M1 hM1=>?_⟩
    ·rw[zna (M:=M1) (M1:=M) yX,u6,As];simp only;rw[if_pos hc];show Option.map _ (zg M1 _ _)=_
     grind [zjG]
   grind
  grind
 case Ap q e b z l c =>
  simp only[opF]at hr ⊢;split at hr
  ·rename_i l1 n1 c1 n2 hl hc;split at hr
   ·rename_i yQ;simp only[ja,jt]at hr;obtain⟨M1,h1,rfl,rfl,rfl⟩:=hr;obtain⟨q1,q2,rfl⟩:=za1 h1;refine .inl ⟨rfl,_,_,q1,rfl,fun M1 hM1=>?_⟩;rw[if_pos yQ,zjG hM1];rfl
   grind
  grind
 case Ac k q xs =>
  simp only[opF]at hr ⊢;split at hr
  ·rename_i vs hvs;cases k with
   |mk g =>
    cases vs with
    |cons=>cases hr
    |nil =>
     simp only[zi2,ja,jt]at hr;obtain⟨M1,h1,rfl,rfl,rfl⟩:=hr;obtain⟨q1,q2,rfl⟩:=za1 h1;refine .inl ⟨rfl,_,_,q1,rfl,fun M1 hM1=>?_⟩
     grind [zi2,zjG]
   |Cb n =>
    cases vs with
    |cons=>cases hr
    |nil =>
     simp only[zi2,ja,jt]at hr;obtain⟨M1,h1,rfl,rfl,rfl⟩:=hr;obtain⟨q1,q2,rfl⟩:=za1 h1;refine .inl ⟨rfl,_,_,q1,rfl,fun M1 hM1=>?_⟩
     grind [zi2,zjG]
   |C8 =>
    simp only[zi2]at hr ⊢;split at hr
    ·rename_i hc;simp only[ja,jt]at hr;obtain⟨M1,h1,rfl,rfl,rfl⟩:=hr;obtain⟨q1,q2,rfl⟩:=za1 h1;refine .inl ⟨rfl,_,_,q1,rfl,fun M1 hM1=>?_⟩
     simp_all [if_pos,zjG]
    grind
   |range =>
    exfalso;unfold zi2 at hr;split at hr<;>first
     |(rename_i e;cases e;done)
     |(simp only[ja,jt]at hr;grind)
     |(split at hr
       ·simp only[ja,jt]at hr;grind
       grind)
     |grind
  grind
theorem zyN{cf:za4}{n0:Nat}{E:zhy}{co:CO}(h:co.cls=.load):zld (fun M=>opF cf n0 E M co)\/zj4 (fun M=>opF cf n0 E M co):=by
 cases co<;>first |(cases h) |skip
 case load a n p =>
  simp only[opF];split
  ·exact .inr ⟨_,_,_,fun M=>rfl⟩
  ·exact .inl ⟨none,fun M=>rfl⟩
theorem ZpN{M M':Mem}{n:Nat}{p:Cl}{v:WV}{av:AV}{a b c:Nat}:zhT M n p v≠some (av,M',.ld a b c):=by
 unfold zhT storeAt;intro h
 (repeat' split at h)<;>simp_all
theorem ZpH{M M':Mem}{esz bytes:Nat}{s x:Cl}{av:AV}{a b c:Nat}:zcB M esz bytes s x≠some (av,M',.ld a b c):=by
 grind [zcB]
theorem ZpU{M M':Mem}{z:List Cl}{x:Cl}{av:AV}{a b c:Nat}:zgI M z x≠some (av,M',.ld a b c):=by
 unfold zgI
 grind
theorem Zph{cf:za4}{f:FuncId}{as:List WV}{M M':Mem}{av:AV}{a b c:Nat}:zcG cf f as M≠some (av,M',.ld a b c):=by
 grind [zcG,uG,Option.some.injEq,Prod.mk.injEq]
theorem ZpG{cf:za4}{m:zbz}{fv:WV}{as:List WV}{M M':Mem}{av:AV}{a b c:Nat}:zx cf m fv as M≠some (av,M',.ld a b c):=by
 unfold zx
 grind [Zph,Option.some.injEq,Prod.mk.injEq]
theorem Zqf{M M':Mem}{k:MK}{vs:List WV}{av:AV}{a b c:Nat}:zCC M k vs≠some (av,M',.ld a b c):=by
 intro h;cases k<;>simp only[zCC,zoY,zkf,ZrW,Zr8,znp,Zig,zoJ,zoK,zno,zmG,zil]at h
 all_goals(repeat' split at h)<;>simp_all
theorem zwM{cf:za4}{n0:Nat}{E:zhy}{co:CO}(h:co.cls=.y9):zld (fun M=>opF cf n0 E M co)\/zkZ (fun M=>opF cf n0 E M co):=by
 cases co<;>first |(cases h) |skip
 case store n p v =>
  simp only[opF];split
  ·exact .inr ⟨fun M=>zzp,fun M av M' a b c=>ZpN⟩
  ·exact .inl ⟨none,fun M=>rfl⟩
 case append e b x y =>
  simp only[opF];split
  ·exact .inr ⟨fun M=>zy4,fun M av M' a b c=>ZpH⟩
  ·exact .inl ⟨none,fun M=>rfl⟩
 case clear z x =>
  simp only[opF];split
  ·exact .inr ⟨fun M=>zAz,fun M av M' a b c=>ZpU⟩
  ·exact .inl ⟨none,fun M=>rfl⟩
 case call m f as =>
  simp only[opF];split
  ·exact .inr ⟨fun M=>zy0,fun M av M' a b c=>ZpG⟩
  ·exact .inl ⟨none,fun M=>rfl⟩
 case mop k xs =>
  simp only[opF];split
  ·exact .inr ⟨fun M=>zCB,fun M av M' a b c=>Zqf⟩
  ·exact .inl ⟨none,fun M=>rfl⟩
 case bad=>exact .inl ⟨none,fun M=>rfl⟩
theorem zyM{cf:za4}{n0:Nat}{E:zhy}{co:CO}(h:co.cls=.pure):zld fun M=>opF cf n0 E M co:=by
 have hp:∀c:Option Cl,zld fun M=>zhN c M:=fun c=>⟨c.map fun v=>.w (.c v),fun M=>by cases c<;>rfl⟩
 have h0:zld fun _=>(none:Option (AV×Mem×FP)):=⟨none,fun M=>rfl⟩
 have h1:∀v:AV,zld fun M=>some (v,M,FP.no):=fun v=>⟨some v,fun M=>rfl⟩
 cases co<;>first |(cases h) |skip
 case mv x=>simp only[opF];split<;>first |exact h0 |simp_all
 case pick c a b =>
  simp only[opF];split
  ·split<;>first |exact h0 |simp_all
  grind
 case build z ps=>exact⟨(zdv E z ps).map fun cs=>.w (.a cs),fun M=>by simp only[opF];cases zdv E z ps<;>rfl⟩
 case jA x=>simp only[opF];split<;>first |exact h0 |simp_all
 case bin op x y=>grind [opF]
 case eqb op x y=>grind [opF]
 case AG g x=>grind [opF]
 case eqa g s x y =>
  grind [opF]
 case un op x=>grind [opF]
 case conv k x=>simp only[opF];split<;>first |exact h0 |simp_all
 case uU f a b =>
  simp only[opF];split
  ·split<;>first |exact h0 |simp_all
  grind
 case slice e x lo hi mx=>grind [opF]
 case BI f p=>grind [opF]
 case field a f n x =>
  simp only[opF];split
  ·split
   ·rename_i cs' _;exact⟨(zaI a cs').map .w,fun M=>by cases zaI a cs'<;>rfl⟩
   grind
  grind
 case Bl e x y=>grind [opF]
 case yG l e x y=>grind [opF]
 case Dk a l e x y =>
  simp only[opF];split
  ·split
   ·split
    ·rename_i cs' _;exact⟨(zaI a cs').map .w,fun M=>by cases zaI a cs'<;>rfl⟩
    grind
   grind
  grind
 case extract t i =>
  simp only[opF];split
  ·split<;>first |exact h0 |simp_all
  grind
 case len x=>simp only[opF];split<;>first |exact h0 |simp_all
 case slen x=>simp only[opF];split<;>first |exact h0 |simp_all
 case ko m xs=>grind [opF]
 case p1 k x =>
  simp only[opF];split
  ·rename_i v _;exact⟨p1F k v,fun M=>by cases p1F k v<;>rfl⟩
  grind
 case p2 k x y =>
  simp only[opF];split
  ·rename_i v u _ _;exact⟨p2F k v u,fun M=>by cases p2F k v u<;>rfl⟩
  grind
 case pop k xs =>
  simp only[opF];split
  ·rename_i vs _;exact⟨ztH k vs,fun M=>by cases ztH k vs<;>rfl⟩
  grind
theorem zoP{cf:za4}{n0:Nat}{E:zhy}{o:zaG}:zld (fun M=>zbm cf n0 o E M)\/(o.cls=.load/\zj4 (fun M=>zbm cf n0 o E M))\/(o.cls=.y9/\zkZ (fun M=>zbm cf n0 o E M))\/(o.cls=.alloc/\ziE (fun M=>zbm cf n0 o E M)):=by
 have base:zld (fun M=>opF cf n0 E M o.op)\/(o.cls=.load/\zj4 (fun M=>opF cf n0 E M o.op))\/(o.cls=.y9/\zkZ (fun M=>opF cf n0 E M o.op))\/(o.cls=.alloc/\ziE (fun M=>opF cf n0 E M o.op)):=by
  cases hc:o.cls with
  |pure=>exact .inl (zyM hc)
  |load=>exact(zyN hc).imp id fun h=>.inl ⟨rfl,h⟩
  |y9=>exact(zwM hc).imp id fun h=>.inr (.inl ⟨rfl,h⟩)
  |alloc=>exact .inr (.inr (.inr ⟨rfl,zwN hc⟩))
 unfold zbm;split
 ·grind
 ·split
  ·grind
  ·exact .inl ⟨some .u,fun M=>rfl⟩
  ·exact .inl ⟨none,fun M=>rfl⟩
theorem z4L{cf:za4}{n0:Nat}{E:zhy}{o:zaG}{M M':Mem}{av:AV}{fp:FP}(h:zbm cf n0 o E M=some (av,M',fp)):M.length<=M'.length:=by
 rcases zoP (cf:=cf) (n0:=n0) (E:=E) (o:=o)with⟨g,hg⟩ |⟨_,_,_,x,hx⟩ |⟨_,hh⟩ |⟨hc,_⟩
 ·cases g with
  |none=>grind
  |some v=>grind
 ·grind [zgj]
 ·exact((hh.1 M).eff _ _ _ h).len
 ·
  have:∀{M av M' fp},opF cf n0 E M o.op=some (av,M',fp)->M.length<=M'.length:=by
   intro M av M' fp h;have hc:o.op.cls=.alloc:=hc;cases hop:o.op<;>rw[hop]at hc h<;>first |(cases hc) |skip
   ·simp only[opF,ja,jt]at h;obtain⟨M1,h1,_,rfl,_⟩:=h;obtain⟨_,_,rfl⟩:=za1 h1;simp
   ·simp only[opF]at h;split at h
    ·split at h
     ·simp only[ja,jt]at h;obtain⟨M1,h1,_,rfl,_⟩:=h;obtain⟨_,_,rfl⟩:=za1 h1;simp
     grind
    grind
   ·simp only[opF]at h;split at h
    ·split at h
     ·simp only[ja,jt]at h;obtain⟨M1,h1,_,rfl,_⟩:=h;obtain⟨_,_,rfl⟩:=za1 h1;simp[zgi]
     grind
    grind
   ·simp only[opF]at h;split at h
    ·split at h
     ·simp only[ja,jt]at h;obtain⟨M1,h1,_,rfl,_⟩:=h;obtain⟨_,_,rfl⟩:=za1 h1;simp
     grind
    grind
   ·simp only[opF]at h;split at h
    ·unfold zi2 at h;split at h
     ·simp only[ja,jt]at h;obtain⟨M1,h1,_,rfl,_⟩:=h;obtain⟨_,_,rfl⟩:=za1 h1;simp
     ·simp only[ja,jt]at h;obtain⟨M1,h1,_,rfl,_⟩:=h;obtain⟨_,_,rfl⟩:=za1 h1;simp
     ·split at h
      ·simp only[ja,jt]at h;obtain⟨M1,h1,_,rfl,_⟩:=h;obtain⟨_,_,rfl⟩:=za1 h1;simp
      grind
     ·split at h
      ·simp only[ja,jt]at h;obtain⟨M1,h1,_,rfl,_⟩:=h;obtain⟨_,_,rfl⟩:=za1 h1;simp
      grind
     ·simp only[ja,jt]at h;obtain⟨M1,h1,_,rfl,_⟩:=h;obtain⟨_,_,rfl⟩:=za1 h1;simp
     grind
    grind
  grind [zbm]
end Go.Eng
namespace Go.Eng
open Go
variable[zb0]
theorem zhz.fenced{F:Fence}(h:zhz F)(P:Program)(m:Machine):m.fenced P F:=by
 intro g _;refine⟨fun ha=>?_,.inl (h.fn _),fun f _=>h.fn f,fun d hd=>?_⟩
 ·rw[h.alive]at ha;cases ha
 ·rw[h.depth]at hd;cases hd
theorem zhz.calls{F:Fence}(h:zhz F){n:Nat}{P:Program}{f:FuncId}{args:Array Value}{w:World}{R:Ending->World->Prop}(hc:Calls P f args w R):CallsIn F n P f args w R:=by
 refine⟨h.fn f,fun cs _=>?_⟩;obtain⟨e,w',fr,r,s,x⟩:=hc cs;refine⟨e,w',fr,r,?_,x⟩;cases e with
 |returned v=>exact(StepsIn.of_steps s).mono fun m _=>h.fenced P m
 |panicked c=>exact(StepsIn.of_steps s).mono fun m _=>h.fenced P m
 |outgrown=>exact s
def zkw(r:Nat):Deferred:={ target:=.collected r,args:=#[] }
def zj3(own:Nat->Prop)(ds:List Deferred)(w:World):Prop:=∃rs:List Nat,ds=rs.map zkw/\rs.Nodup/\∀r∈rs,w.heap[r]?=some (.deferred (some []))/\¬own r
theorem zj3.nil{own:Nat->Prop}{w:World}:zj3 own [] w:=⟨[],rfl,List.nodup_nil,fun r h=>by cases h⟩
theorem zj3.frame{own:Nat->Prop}{ds:List Deferred}{w w':World}(h:zj3 own ds w)(hf:∀b,b<w.heap.size->¬own b->w'.heap[b]?=w.heap[b]?):zj3 own ds w':=by
 obtain⟨rs,h1,h2,h3⟩:=h;exact⟨rs,h1,h2,fun r hr=>⟨by rw[hf r (jH.1 (h3 r hr).1).1 (h3 r hr).2];exact(h3 r hr).1,(h3 r hr).2⟩⟩
theorem zj3.heap{own:Nat->Prop}{ds:List Deferred}{w w':World}(h:zj3 own ds w)(hf:w'.heap=w.heap):zj3 own ds w':=h.frame fun b _ _=>by rw[hf]
structure At(own:Nat->Prop)(σ:zP)(j:Inj)(E:zhy)(M:Mem)(ntmps:Nat)(a:Act)(w:World):Prop where
 env:zcs σ j E a.tmps
 size:a.tmps.size=ntmps
 marks:zj3 own a.defers w
 yB:zM σ w
 mem:MR own σ j M w
 own:∀b,w.heap.size<=b->own b
section
variable{own:Nat->Prop}{σ:zP}{j:Inj}{M:Mem}{w:World}{E:zhy}{a:Act}{P:Program}{cf:za4}{ntmps:Nat}{F:Fence}{n:Nat}{Q:Exit->Act->World->Prop}
theorem At.put{σ':zP}{j':Inj}{M':Mem}{w':World}{d:Option Nat}{av:AV}{v:Value}(h:At own σ j E M ntmps a w)(hd:∀x,d=some x->x<ntmps)(hv:AVR σ' j' av v)(hag:zM σ' w')(hm:MR own σ' j' M' w')
  (hst:za2 own M.length σ j M w σ' j' M' w'):At own σ' j' (zjC E d av) M' ntmps (a.put d v) w':=by
 have hj:=hst.jle' h.mem (jm _);have henv:=h.env.mono hst.sle hj;refine⟨?_,?_,by cases d<;>exact h.marks.frame hst.frame,hag,hm,fun b hb=>h.own b (jO hst.size hb)⟩
 ·intro m x hx;cases d with
  |none=>exact henv m x (by simpa [zjC]using hx)
  |some d =>
   simp only[Act.put];by_cases hdm:d=m
   ·subst hdm;simp only[zjC,if_true,jh]at hx;subst hx;exact⟨v,by rw[u9 (by rw[h.size];exact hd d rfl)],hv⟩
   ·have:E m=some x:=by simpa [zjC,hdm]using hx
    obtain⟨u,hu,hr⟩:=henv m x this;exact⟨u,by rw[uC hdm];exact hu,hr⟩
 ·cases d<;>simp[Act.put,h.size]
theorem zfX{d:Option Nat}{v:Value}:(a.put d v).defers=a.defers:=by cases d<;>rfl
theorem zjR{ops:Array Oper}{m:Oper->zbz}{i:Nat}{co:zaG}(h:zdT P ops.toList m ntmps i=some co) :
  ∃o,ops[i]?=some o/\co.ix=i/\co.op=(zA P (zgO ops.toList i) (m o) o).getD .bad/\zqf ops.toList o.guard=some co.guard/\co.dst=o.dst/\∀x,o.dst=some x->x<ntmps:=by
 unfold zdT at h;split at h
 ·rename_i o ho;split at h
  ·rename_i c g hc hg;have ho':ops[i]?=some o:=by simpa using ho
   simp only[jh]at hc;split at h
   ·rename_i d hd;split at h
    ·rename_i hlt;cases h;exact⟨o,ho',rfl,hc.symm,hg,hd.symm,fun x hx=>by rw[hd]at hx;cases hx;exact hlt⟩
    ·cases h
   ·rename_i hd;cases h;exact⟨o,ho',rfl,hc.symm,hg,hd.symm,fun x hx=>by rw[hd]at hx;cases hx⟩
  ·cases h
 ·cases h
theorem zsS{f:FuncId}{fn:Func}{args:Array Value}(hf:P.funcs[f]?=some fn)(hb:fn.body.isNone=false)(hn:(fn.name == "runtime.NumGoroutine")=false):(callFunc f args).run P w=.ok (.enter f args) w:=by
 unfold callFunc;rw[Sem.run_bind,run_program];simp only[Result.andThen_ok,hf,hn,hb,jE,if_false,Sem.run_pure]
theorem zrp{q:Nat}{m cm:zbz}{o:Oper}{fv:Opd}{as:List Opd}(h:zA P q m o=some (.call cm fv as)) :
  ∃c f,o.op=.call c/\c.callee=.value f/\za5 f=some fv/\zdB c.args.toList=some as:=by
 cases ho:o.op<;>simp only[zA,ho]at h
 case call c =>
  refine⟨c,?_⟩;obtain⟨callee,args,argTypes⟩:=c;cases callee with
  |value f =>
   simp only at h;split at h
   ·rename_i fv' as' h1 h2;cases h;exact⟨f,rfl,rfl,h1,h2⟩
   ·cases h
  |invoke r mm=>cases h
  |builtin b =>
   exfalso;cases b<;>simp only at h<;>(repeat' split at h)<;>first |(cases h;done) |(obtain⟨_,_,h⟩:=ja.1 h;cases h)
 case makeFunc fn fi ca =>
  exfalso;cases fn<;>simp only at h<;>(repeat' split at h)<;>cases h
 case makeMap t r =>
  exfalso;cases r with
  |none=>obtain⟨_,_,h⟩:=ja.1 h;cases h
  |some r=>cases h
 case buildSlice t len parts =>
  exfalso;rcases ZlC h with h |⟨_,_,_,_,h⟩
  ·unfold cSl at h
   (repeat' split at h)<;>first |(cases h;done) |(obtain⟨_,_,h⟩:=ja.1 h;cases h)
  ·cases h
 case next x b =>
  exfalso;cases b with
  |false=>obtain⟨_,_,h⟩:=ja.1 h;cases h
  |true=>cases h
 all_goals(exfalso;(repeat' split at h)<;>first |(cases h;done) |(obtain⟨_,_,h⟩:=ja.1 h;cases h))
theorem zoz(hF:zhz F)(hcf:FnS P cf){ops:Array Oper}{m:Oper->zbz}{i n0:Nat}{co:zaG}{av:AV}{M':Mem}{fp:FP}(hc:zdT P ops.toList m ntmps i=some co)
  (hs:zbm cf n0 co E M=some (av,M',fp)) (hat:At own σ j E M ntmps a w) {K:Act->World->Prop}
  (hK:∀a' w' σ' j',At own σ' j' (zjC E co.dst av) M' ntmps a' w'->za2 own M.length σ j M w σ' j' M' w'->a'.defers=a.defers->K a' w') :
  wpOpIn F n P ops Q i K a w:=by
 obtain⟨o,ho,_,hop,hg,hdst,hd⟩:=zjR hc;unfold wpOpIn;simp only[ho];have DC:∀f,o.about P w a.eval=some f->F.fn f:=fun f _=>hF.fn f
 have skip:av=.u->M'=M->K (a.put o.dst undef) w:=by
  rintro rfl rfl;exact hK _ _ σ j (by rw[hdst];exact hat.put hd rfl hat.yB hat.mem za2.refl) za2.refl zfX
 have go:opF cf n0 E M co.op=some (av,M',fp)->o.wpIn F n P a w K Q:=by
  intro ul;rw[hop]at ul;cases Df:zA P (zgO ops.toList i) (m o) o with
  |none=>rw[Df]at ul;cases ul
  |some c =>
   rw[Df]at ul;simp only[um]at ul;refine⟨DC,?_⟩;have hnd:∀c,o.op≠.defer c:=by
    intro c' hdef;simp only[zA,hdef]at Df;cases Df
   rw[Oper.semAt_eq _ _ _ hnd];cases hic:c.CE with
   |false =>
    rcases zBy (own:=own) hic Df ul hat.env hat.yB hat.mem hat.own with⟨v,w',σ',j',hr,hv,hag,hm,hst⟩ |⟨rfl,w',σ',hr,hag,hm,hst⟩
    ·rw[hr];exact hK _ _ σ' j' (by rw[hdst];exact hat.put hd hv hag hm hst) hst zfX
    ·rw[hr];exact hK _ _ σ' j (by rw[hdst];exact hat.put hd rfl hag hm hst) hst zfX
   |true =>
    cases c<;>first |(cases hic;done) |skip
    rename_i cm cfv cargs;obtain⟨c,f,ho1,C0,hfo,haso⟩:=zrp Df;obtain⟨callee,args,argTypes⟩:=c;dsimp only at C0 haso;subst C0;simp only[opF]at ul;split at ul
    ·rename_i fv as hfv has;have hfw:=zWl hat.yB.kY hat.env hfo hfv;have hvs:zac σ j as (args.map a.eval).toList:=by
      have:=zbr hat.yB.kY hat.env haso has;simpa using this
     rcases zpA hcf ul hat.yB hat.mem hat.own hfw hvs with⟨g,fi,ca,fn,BC,q1,q2,q3,qI⟩ |⟨l,rc,BC,hl,hsz,Ar⟩
     ·have Cq:(execOp a.eval o).run P w=.ok (.enter g (fi++args.map a.eval++ca)) w:=by
       simp[execOp,ho1,resolve,Deferred.ofValue,BC,invoke,zsS q1 q2 q3]
      rw[Cq];refine⟨fun h=>(by rw[hF.depth]at h;cases h),hF.calls ?_⟩;refine Calls.yr qI ?_;rintro e w' ⟨v,σ',j',rfl,hv,hag,hm,hst⟩;exact hK _ _ σ' j' (by rw[hdst];exact hat.put hd hv hag hm hst) hst zfX
     ·have Cq:(execOp a.eval o).run P w=.ok (.round l rc.fn ((rc.params.zip (args.map a.eval)).foldl (fun tmps (t,a)=>tmps.setIfInBounds t a) rc.tmps) rc.assign rc.body) w:=by
       have:=run_yield (P:=P) hl hsz;simp[execOp,ho1,resolve,Deferred.ofValue,BC,invoke,this]
      rw[Cq];refine⟨fun h=>(by rw[hF.depth]at h;cases h),RoundIn.yr (Ar F (n-1) hF) ?_⟩;rintro e w' ⟨v,σ',j',rfl,hv,hag,hm,hst⟩;exact hK _ _ σ' j' (by rw[hdst];exact hat.put hd hv hag hm hst) hst zfX
    ·cases ul
 cases hgd:o.guard with
 |none =>
  rw[hgd]at hg;simp only[zqf,jh]at hg;have hw:Region.wanted o (yielded ops a.tmps)=true:=by simp[Region.wanted,hgd]
  rw[if_pos hw];simp only[zbm,<-hg]at hs;exact go hs
 |some g =>
  obtain⟨jj,want⟩:=g;rw[hgd]at hg;simp only[zqf]at hg;split at hg
  ·rename_i oj hoj;simp only[ja]at hg;obtain⟨d,hdj,hg⟩:=hg;have hoj:ops[jj]?=some oj:=by simpa using hoj
   simp only[zbm,<-hg]at hs;split at hs
   ·rename_i AX;unfold zke at AX;split at AX
    ·rename_i b hb;obtain⟨v,hv,hr⟩:=hat.env _ _ hb;have hr:VC σ j (.bool b) v:=hr;cases hr;have hw:Region.wanted o (yielded ops a.tmps)=true:=by
      simp only[Region.wanted,hgd,yielded,hoj,uo,hdj];rw[hv];simpa using AX
     rw[if_pos hw];exact go hs
    ·cases AX
    ·cases AX
   ·rename_i AX;cases hs;have hw:Region.wanted o (yielded ops a.tmps)=false:=by
     unfold zke at AX;split at AX
     ·rename_i b hb;obtain⟨v,hv,hr⟩:=hat.env _ _ hb;have hr:VC σ j (.bool b) v:=hr;cases hr;simp only[Region.wanted,hgd,yielded,hoj,uo,hdj];rw[hv];simpa using AX
     ·rename_i hb;obtain⟨v,hv,hr⟩:=hat.env _ _ hb;have hr:v=undef:=hr;subst hr;simp only[Region.wanted,hgd,yielded,hoj,uo,hdj];rw[hv];simp[undef]
     ·cases AX
    rw[hw];exact⟨DC,skip rfl rfl⟩
   ·cases hs
  ·cases hg
end
end Go.Eng
namespace Go.Eng
open Go
variable[zb0]
def zlh(cf:za4)(n0:Nat):List zaG->zhy->Mem->Option (zhy×Mem×List FP)
 |[],E,M=>some (E,M,[])
 |o::os,E,M=>match zbm cf n0 o E M with
  |some (v,M',fp)=>match zlh cf n0 os (zjC E o.dst v) M' with
   |some (E2,M2,fs)=>some (E2,M2,fp::fs)
   |none=>none
  |none=>none
theorem zxv{cf:za4}{n0:Nat}:∀{os:List zaG} {E:Env} {M:Mem} {E2:Env} {M2:Mem} {fs:List FP},zks cf n0 os E M=some (E2,M2,fs)->zlh cf n0 os E.get M=some (E2.get,M2,fs)
 |[],E,M,E2,M2,fs,h=>by obtain⟨rfl,rfl,rfl⟩:=h;rfl
 |o::os,E,M,E2,M2,fs,h=>by
  simp only[zks]at h;split at h
  ·split at h
   ·rename_i E3 M3 fs3 h2;have:=zxv h2
    grind [ztG,zlh]
   grind
  grind
theorem zgh{cf:za4}{n0:Nat}{o:zaG}{os:List zaG}{E:zhy}{M:Mem}{E2:zhy}{M2:Mem}{fp:FP}{fs:List FP} :
  zlh cf n0 (o::os) E M=some (E2,M2,fp::fs)<->∃v M',zbm cf n0 o E M=some (v,M',fp)/\zlh cf n0 os (zjC E o.dst v) M'=some (E2,M2,fs):=by
 grind [zlh]
def zA7(base:Nat)(a:zaG)(fa:FP)(b:zaG)(fb:FP):Prop :=
 znW a b=true/\(a.cls=.pure\/b.cls=.pure\/(a.cls=.load/\b.cls=.load)\/(fa.apart fb=true/\fb.old base=true))
theorem zr9{a b:zaG}(h:znW a b=true):(∀d,a.dst=some d->d∉b.slots/\b.dst≠some d)/\(∀d,b.dst=some d->d∉a.slots) /\
  (a.cls=.pure\/b.cls=.pure\/(a.cls=.load/\b.cls=.load)\/(a.cls=.load/\b.cls=.alloc)\/(a.cls=.y9/\b.cls=.alloc)\/(a.cls=.alloc/\b.cls=.alloc)\/(a.cls=.load/\b.cls=.y9)\/(a.cls=.y9/\b.cls=.load)):=by
 simp only[znW,jl]at h
 grind
theorem zyh{E:zhy}{d e:Option Nat}{x v:AV}(h:∀x,d=some x->e≠some x):zjC (zjC E d x) e v=zjC (zjC E e v) d x:=by
 grind [zjC]
theorem swap{cf:za4}{n0 base:Nat}{a b:zaG}{r:List zaG}{E E2:zhy}{M M2:Mem}{fa fb:FP}{fr:List FP}(hf:zA7 base a fa b fb)(AK:base<=M.length)
  (h:zlh cf n0 (a::b::r) E M=some (E2,M2,fa::fb::fr)):zlh cf n0 (b::a::r) E M=some (E2,M2,fb::fa::fr):=by
 obtain⟨va,M1,h1,h⟩:=zgh.1 h;obtain⟨vb,M3,h2,h3⟩:=zgh.1 h;obtain⟨AJ,hfree⟩:=hf;obtain⟨s1,s2,s3⟩:=zr9 AJ;have eb:∀M,zbm cf n0 b (zjC E a.dst va) M=zbm cf n0 b E M:=fun M=>zph fun n hn=>by
  simp only[zjC];grind
 have ea:∀M,zbm cf n0 a (zjC E b.dst vb) M=zbm cf n0 a E M:=fun M=>zph fun n hn=>by
  simp only[zjC];grind
 rw[eb]at h2;have hK:zld (fun M=>zbm cf n0 a E M)\/zld (fun M=>zbm cf n0 b E M)\/(zj4 (fun M=>zbm cf n0 a E M)/\zj4 (fun M=>zbm cf n0 b E M)) \/
   (fa.apart fb=true/\fb.old base=true/\((zj4 (fun M=>zbm cf n0 a E M)/\zkZ (fun M=>zbm cf n0 b E M))\/(zkZ (fun M=>zbm cf n0 a E M)/\zj4 (fun M=>zbm cf n0 b E M))\/(zj4 (fun M=>zbm cf n0 a E M)/\ziE (fun M=>zbm cf n0 b E M))\/(zkZ (fun M=>zbm cf n0 a E M)/\ziE (fun M=>zbm cf n0 b E M))\/(ziE (fun M=>zbm cf n0 a E M)/\ziE (fun M=>zbm cf n0 b E M)))):=by
  grind [zoP]
 obtain⟨M1',q1,q2⟩:=zDf (base:=base) h1 h2 AK hK;refine zgh.2 ⟨vb,M1',q1,zgh.2 ⟨va,M3,by rw[ea];exact q2,?_⟩⟩;rw[<-zyh (fun x hx=>(s1 x hx).2)];exact h3
theorem zxo{cf:za4}{n0 base:Nat}{y:zaG×FP}{post:List (zaG×FP)}:∀{pre:List (zaG×FP)} {E E2:zhy} {M M2:Mem},(∀x∈pre,zA7 base x.1 x.2 y.1 y.2)->base<=M.length ->
  zlh cf n0 ((pre++y::post).map (·.1)) E M=some (E2,M2,(pre++y::post).map (·.2))->zlh cf n0 ((y::(pre++post)).map (·.1)) E M=some (E2,M2,(y::(pre++post)).map (·.2))
 |[],E,E2,M,M2,_,_,h=>h
 |x::pre,E,E2,M,M2,hf,hb,h=>by
  obtain⟨v,M',h1,h2⟩:=zgh.1 h;have:=zxo (pre:=pre) (fun z hz=>hf z (jI _ hz)) (jO hb (z4L h1)) h2
  grind [swap,List.mem_cons_self,zgh]
def zjn(ops:Array Oper)(i:Nat):List Nat:=match ops[i]? with
 |some o=>zkJ o
 |none=>[]
theorem Zf2{f:Nat->Nat}{a:Nat}:∀{l:List Nat} {s:Nat},(l.foldl (fun s j=>s ||| 2 ^ j ||| f j) s).testBit a=true->s.testBit a=true\/∃d∈l,d=a\/(f d).testBit a=true
 |[],s,h=>.inl h
 |d::l,s,h=>by
  simp only[ka]at h;rcases Zf2 h with h |⟨e,he,h⟩
  ·grind
  grind
theorem zkX:∀{os:List Oper} {acc:List Nat} {i:Nat},i<acc.length->(ye os acc).getD i 0=acc.getD i 0
 |[],acc,i,h=>rfl
 |o::os,acc,i,h=>by
  simp only[ye];rw[zkX (by grind)]
  grind
theorem zol:∀{os:List Oper} {acc:List Nat} {k:Nat} {o:Oper} {a:Nat},os[k]?=some o->((ye os acc).getD (acc.length+k) 0).testBit a=true ->
  ∃d∈zkJ o,d=a\/(d<acc.length+k/\((ye os acc).getD d 0).testBit a=true)
 |[],acc,k,o,a,ho,h=>by grind
 |x::os,acc,0,o,a,ho,h=>by
  simp only[ye]at h;rw[zkX (by simp)]at h;simp only[qY,List.getD,jX (jm _),yM,v7,um]at h;rcases Zf2 h with h |⟨d,hd,h⟩
  ·grind
  grind [id,Nat.lt_or_ge,List.getElem?_eq_none,ye,zkX,List.getD,List.getElem?_append_left]
 |x::os,acc,k+1,o,a,ho,h=>by
  simp only[List.getElem?_cons_succ]at ho;simp only[ye]at h ⊢;have e:acc.length+(k+1)=(acc++[(zkJ x).foldl (fun s j=>s ||| 2 ^ j ||| acc.getD j 0) 0]).length+k:=by grind
  rw[e]at h;obtain⟨d,hd,h'⟩:=zol ho h
  grind
theorem Dj{ops:Array Oper}{L:Nat->Prop}(hcl:∀i,i<ops.size->L i->∀d∈zjn ops i,L d):∀(i:Nat) {a:Nat},i<ops.size->(∀d∈zjn ops i,L d)->((ye ops.toList []).getD i 0).testBit a=true->L a:=by
 intro i;induction i using Nat.strongRecOn with
 |_ i ih =>
  intro a hi hd h;have ho:ops.toList[i]?=some ops[i]:=by grind
  have hde:zjn ops i=zkJ ops[i]:=by grind [zjn]
  have:=zol (acc:=[]) ho (by simpa using h)
  grind
def zpZ(ops:Array Oper):(Nat->Prop)->List Nat->Prop
 |_,[]=>True
 |L,i::is=>(∀d∈zjn ops i,L d)/\zpZ ops (fun d=>L d\/d=i) is
theorem zpZ.mono{ops:Array Oper}:∀{is:List Nat} {L L':Nat->Prop},(∀d,L d->L' d)->zpZ ops L is->zpZ ops L' is
 |[],_,_,_,_=>trivial
 |i::is,L,L',h,ht=>⟨fun d hd=>h d (ht.1 d hd),zpZ.mono (fun d hd=>hd.imp (h d) id) ht.2⟩
theorem zpZ.remove{ops:Array Oper}{y:Nat}{B:List Nat}:∀{A:List Nat} {L:Nat->Prop},zpZ ops L (A++y::B)->zpZ ops (fun d=>L d\/d=y) (A++B)
 |[],L,h=>h.2
 |i::A,L,h=>⟨fun d hd=>.inl (h.1 d hd),(zpZ.remove (A:=A) h.2).mono fun d hd=>by
   grind⟩
theorem zpe{ops:Array Oper}:∀{is done:List Nat},ztq ops.toList is done=true->zpZ ops (fun d=>d∈done) is
 |[],_,_=>trivial
 |i::is,done,h=>by
  simp only[ztq,jl]at h;refine⟨fun d hd=>?_,(zpe h.2).mono fun d hd=>?_⟩
  ·grind [zjn,List.all_eq_true]
  grind
theorem zoF{ops:Array Oper}{listed:Array Bool}{i:Nat}:i∈Region.ready .any ops listed<->listed.getD i true=false/\i<ops.size/\∀d∈zjn ops i,listed.getD d false=true:=by
 grind [mem_ready,Array.getElem?_eq_some_iff,zjn,zkJ,Array.getElem?_eq_getElem]
section
variable{own:Nat->Prop}{P:Program}{cf:za4}{ntmps:Nat}{F:Fence}{n:Nat}{Q:Exit->Act->World->Prop}
theorem zAL(hF:zhz F)(hcf:FnS P cf){ops:Array Oper}{n0 base k:Nat}{σ0:zP}{j0:Inj}{M0:Mem}{w0:World}{E2:zhy}{M2:Mem}{ds:List Deferred}(hk:k<=base)
  (hQ:∀a' w' σ' j',At own σ' j' E2 M2 ntmps a' w'->za2 own k σ0 j0 M0 w0 σ' j' M2 w'->a'.defers=ds->Q .normal a' w') :
  ∀(fuel:Nat) (listed:Array Bool) (xs:List (zaG×FP)) (E:zhy) (M:Mem) (a:Act) (w:World) (σ:zP) (j:Inj),
   xs.length=fuel->listed.size=ops.size->(∀i,i<ops.size->(listed.getD i true=false<->i∈xs.map (·.1.ix)))->(xs.map (·.1.ix)).Nodup->(∀x∈xs,x.1.ix<ops.size/\∃m,zdT P ops.toList m ntmps x.1.ix=some x.1) ->
   xs.Pairwise (fun x y=>((ye ops.toList []).getD y.1.ix 0).testBit x.1.ix=true\/zA7 base x.1 x.2 y.1 y.2) ->
   (∀i,i<ops.size->listed.getD i true=true->∀d∈zjn ops i,listed.getD d false=true)->zpZ ops (fun d=>listed.getD d false=true) (xs.map (·.1.ix)) ->
   zlh cf n0 (xs.map (·.1)) E M=some (E2,M2,xs.map (·.2))->base<=M.length ->
   At own σ j E M ntmps a w->za2 own k σ0 j0 M0 w0 σ j M w->a.defers=ds->wpAnyIn F n P .any ops Q fuel listed a w:=by
 intro fuel;induction fuel with
 |zero =>
  intro listed xs E M a w σ j hlen hsz hx hnd BZ hpw hcl Do ul AK hat hst hds;have hxs:xs=[]:=jM hlen;subst hxs;simp only[qj,zlh,jh,jt]at ul;obtain⟨rfl,rfl,_⟩:=ul;refine⟨?_,hQ a w σ j hat hst hds⟩;apply List.eq_nil_iff_forall_not_mem.2
  grind [zoF]
 |succ fuel ih =>
  intro listed xs E M a w σ j hlen hsz hx hnd BZ hpw hcl Do ul AK hat hst hds;refine⟨fun As=>?_,fun i hi=>?_⟩
  ·exfalso;cases xs with
   |nil=>simp at hlen
   |cons x xs =>
    have hix:=(BZ x (jy ..)).1;have:x.1.ix∈Region.ready .any ops listed:=zoF.2 ⟨(hx _ hix).2 (by simp),hix,Do.1⟩;rw[As]at this;cases this
  ·obtain⟨h1,h2,h3⟩:=zoF.1 hi;obtain⟨y,hy,hyi⟩:=jZ.1 ((hx i h2).1 h1);obtain⟨A,B,rfl⟩:=List.append_of_mem hy;have hfree:∀x∈A,zA7 base x.1 x.2 y.1 y.2:=by
    intro x hxA;have:=(kE.1 hpw).2.2 x hxA y (jy ..);refine this.resolve_left fun hb=>?_
    rw[hyi]at hb;have hL:=Dj (L:=fun d=>listed.getD d false=true) (fun i hi hl=>by
     refine hcl i hi ?_;rw[show listed.getD i true=listed.getD i false from by simp[Array.getD,hsz,hi]];exact hl) i h2 h3 hb
    have hxl:=(hx x.1.ix (BZ x (qg _ hxA)).1).2 (jZ.2 ⟨x,qg _ hxA,rfl⟩);have hxs:=(BZ x (qg _ hxA)).1;rw[show listed.getD x.1.ix true=listed.getD x.1.ix false from by simp[Array.getD,hsz,hxs]]at hxl;rw[hL]at hxl;cases hxl
   have hrun':=zxo hfree AK ul;simp only[kC]at hrun';obtain⟨v,M',q1,q2⟩:=zgh.1 hrun';obtain⟨_,m,hcm⟩:=BZ y (uX _ (jy ..));rw[hyi]at hcm;refine zoz hF hcf hcm q1 hat fun a' w' σ' j' CN Dc hds'=>?_
   have hMl:=z4L q1;have hperm:∀z,z∈A++B->z∈A++y::B:=fun z hz=>by
    rcases jN.1 hz with h|h
    ·exact qg _ h
    ·exact uX _ (jI _ h)
   have kZ:∀d b,d≠i->(listed.setIfInBounds i true).getD d b=listed.getD d b:=fun d b hd=>by
    simp only[qt];rw[uC (qX hd)]
   have hgi:∀b,(listed.setIfInBounds i true).getD i b=true:=fun b=>by
    simp only[qt];rw[u9 (by rw[hsz];exact h2)];rfl
   have hnd':((A++B).map (·.1.ix)).Nodup/\i∉(A++B).map (·.1.ix):=by
    simp only[qc,kC]at hnd ⊢;rw[hyi]at hnd;have hp:=(yy (a:=i) (l₁:=A.map (·.1.ix)) (l₂:=B.map (·.1.ix))).nodup_iff.1 hnd;rw[qN]at hp;exact⟨hp.2,hp.1⟩
   refine ih (listed.setIfInBounds i true) (A++B) _ M' a' w' σ' j' (by simp at hlen ⊢;omega) (by simp[hsz]) (fun d hd=>?_) hnd'.1 (fun z hz=>BZ z (hperm z hz)) ?_ (fun d hd hl e he=>?_) ?_ q2 (jO AK hMl) CN ?_ (hds'.trans hds)
   ·by_cases hdi:d=i
    ·subst hdi;rw[hgi]
     grind
    ·rw[kZ d true hdi,hx d hd];simp only[qc,kC,jN,jQ,hyi,hdi,false_or]
   ·grind
   ·have hed:listed.getD e false=true:=by
     by_cases hdi:d=i
     ·subst hdi;exact h3 e he
     ·rw[kZ d true hdi]at hl;exact hcl d hd hl e he
    by_cases hei:e=i
    ·subst hei;exact hgi false
    ·rw[kZ e false hei];exact hed
   ·have:=zpZ.remove (A:=A.map (·.1.ix)) (y:=i) (B:=B.map (·.1.ix)) (by simpa [hyi]using Do);simp only[qc];refine this.mono fun d hd=>?_
    rcases hd with hd|rfl
    ·by_cases hdi:d=i
     ·subst hdi;exact hgi false
     ·rw[kZ d false hdi];simpa using hd
    ·exact hgi false
   ·exact hst.trans (Dc.le (jO hk AK))
end
end Go.Eng
