/- This text proves parts of an evaluator's soundness: what the evaluator answers, the model's run does; no condition. -/
import Derived.Test.YtdndkdliiojpiaaGreatOEg2
import Derived.Sort.Grow
import Derived.Sort.AssemblyPlain
import Derived.MapKept
import Derived.Below
import Derived.RowKit3
import Derived.ChangeShapes
import Derived.ChangeSame
import Derived.ReadAgain
import Derived.OpenShut
set_option linter.defProp false
set_option linter.unusedVariables false
set_option linter.unusedSimpArgs false
set_option linter.unusedSectionVars false
namespace Go.Eng
open Go
variable[zb0]
section
variable{own:Nat->Prop}{P:Program}{cf:za4}{ntmps:Nat}{σ:zP}{j:Inj}{M:Mem}{a:Act}{w:World}
def zyB{t:TypeId}{agg:Bool}{size:Nat}{p:Cl}{v:Value}{av:AV}{M':Mem}{fp:FP}(hg:zeU P t=some agg)(hs:zbL P t=some size)
  (h:zdZ M agg (if agg then size else 1) p=some (av,M',fp)) (hv:VC σ j p v) (hag:zM σ w) (hm:MR own σ j M w) :
  ∃ad u,v=.pointer (some ad)/\(loadVar t ad).run P w=.ok u w/\AVR σ j av u:=by
 unfold zdZ at h;split at h
 ·rename_i id g i k;cases hv with
  |ptr _ _ _ _ _ L hL =>
   split at h
   ·rename_i b hb0;obtain⟨hb,Bb⟩:=zaz hb0;subst Bb;split at h
    ·rename_i row hrow;split at h
     ·rename_i cs hcs;obtain⟨hl,hk,kY⟩:=zmL hcs;simp only[ja]at h;obtain⟨x,hx,he⟩:=h;cases he;obtain⟨vs,hvs,hcell⟩:=zh1 (σ:=σ) (j:=j) (cs:=cs) (f:=fun m=>w.cell? ⟨L.blk,L.off+i*L.esz+k+m,none⟩) (fun m c hc=>by
       obtain⟨v,h1,h2,_⟩:=hm.cell hb hL hrow (kY m c hc)
       grind)
      exact⟨_,_,rfl,ze3 (P:=P) (w:=w) hg hs hl hvs hx hcell,WVR.Az vs hvs hx⟩
     grind
    grind
   grind
 ·rename_i row k;cases hv with
  |uQ _ _ _ b o val h1 h2 =>
   split at h
   ·rename_i cs hcs;obtain⟨hl,hk,kY⟩:=zmL hcs;simp only[ja]at h;obtain⟨x,hx,he⟩:=h;cases he;obtain⟨vs,hvs,hcell⟩:=zh1 (σ:=σ) (j:=j) (cs:=cs) (f:=fun m=>w.cell? ⟨b,o+k+m,none⟩) (fun m c hc=>by
     refine⟨val (k+m),?_,VC.Bq (h2 _ _ (kY m c hc))⟩;rw[qf];exact hag.cells _ _ _ (h1 _ _ (kY m c hc)))
    exact⟨_,_,rfl,ze3 (P:=P) (w:=w) hg hs hl hvs hx hcell,WVR.Az vs hvs hx⟩
   grind
 grind
def AJ(tmps:Array Value):ResultVar->Sem Value
 |.tmp t=>pure (tmps.getD t undef)
 |.cell a t=>do loadVar t (<-asAddr (tmps.getD a undef))
def zuS{E:Env}{r:ResultVar}{rc:RC}{x:WV}(hrc:zBn P r=some rc)(hx:zoD E M rc=some x)(hat:At own σ j E.get M ntmps a w) :
  ∃v,(AJ a.tmps r).run P w=.ok v w/\WVR σ j x v:=by
 have slot:∀{t:Nat} {y:AV},E.get t=some y->∃v,a.tmps.getD t undef=v/\AVR σ j y v:=by
  intro t y hy;obtain⟨v,hv,hr⟩:=hat.env t y hy
  simp_all
 cases r with
 |tmp t =>
  simp only[zBn,ji]at hrc;subst hrc;simp only[zoD]at hx;split at hx
  ·rename_i y hy;cases hx;obtain⟨v,hv,hr⟩:=slot hy;exact⟨v,by simp[AJ,hv],hr⟩
  grind
 |cell p t =>
  simp only[zBn]at hrc;split at hrc
  ·rename_i g sz hg hs;cases hrc;simp only[zoD]at hx;split at hx
   ·rename_i pc hy;split at hx
    ·rename_i y M1 fp hl;cases hx;obtain⟨v,hv,hr⟩:=slot hy;obtain⟨ad,u,rfl,ui,hu⟩:=zyB (P:=P) hg hs hl hr hat.yq hat.mem;exact⟨u,by grind [AJ,asAddr],hu⟩
    grind
   grind
  grind
def zpl{E:Env}(hat:At own σ j E.get M ntmps a w):∀{rs:List ResultVar} {rcs:List RC} {xs:List WV},znS P rs=some rcs->zlQ E M rcs=some xs ->
  ∃vs,(rs.mapM (AJ a.tmps):Sem (List Value)).run P w=.ok vs w/\zac σ j xs vs
 |[],rcs,xs,h,hx=>by
  simp_all [znS,ji,zlQ,zac.nil]
 |r::rs,rcs,xs,h,hx=>by
  simp only[znS]at h;split at h
  ·rename_i c cs h1 h2;cases h;simp only[zlQ]at hx;split at hx
   ·rename_i y ys q1 q2;cases hx;obtain⟨v,hv,hr⟩:=zuS h1 q1 hat;obtain⟨vs,hvs,hrs⟩:=zpl hat h2 q2
    simp_all [List.mapM_cons,zac.cons]
   grind
  grind
def ztE{E:Env}{fn:Func}{rcs:List RC}{r:AV}(hat:At own σ j E.get M ntmps a w)(hrc:znS P fn.results.toList=some rcs)(hr:zpk E M rcs=some r) :
  ∃v,(results fn a.tmps).run P w=.ok v w/\AVR σ j r v:=by
 unfold zpk at hr;have key:∀xs,zlQ E M rcs=some xs->∃vs:List Value,(results fn a.tmps).run P w=.ok (if h:vs.toArray.size=1 then vs.toArray[0] else .tuple vs.toArray) w/\zac σ j xs vs:=by
  intro xs hxs;obtain⟨vs,hvs,hrs⟩:=zpl hat hrc hxs;refine⟨vs,?_,hrs⟩;have hm:(fn.results.mapM (AJ a.tmps):Sem (Array Value)).run P w=.ok vs.toArray w:=by
   simp_all [yQ]
  show(do let vs <-fn.results.mapM (AJ a.tmps);pure (if h:vs.size=1 then vs[0] else .tuple vs):Sem Value).run P w=_;simp[hm]
 split at hr
 ·rename_i v hv;cases hr;obtain⟨vs,h1,h2⟩:=key _ hv;obtain⟨u,us,rfl,hu,hus⟩:=h2.kP;have:=hus.vQ;exact⟨u,by grind,hu⟩
 ·rename_i vs' hne hv;cases hr;obtain⟨vs,h1,h2⟩:=key _ hv;have hn:vs.toArray.size≠1:=by
   have hl:=h2.1
   match vs',hl with
   |[],hl=>grind
   |[x],hl=>grind
   |x::y::zs,hl=>grind
  rw[dif_neg hn]at h1;exact⟨_,h1,vs.toArray,rfl,by grind⟩
 grind
def zo7:∀{args:List WV} {vs:List Value} {tmps:Array Value} {i:Nat},zac σ j args vs->(∀(k:Nat) (v:Value),vs[k]?=some v->tmps[i+k]?=some v)->zcs σ j (vT i args).get tmps
 |[],vs,tmps,i,h,ht=>fun n x hx=>by grind [vT,Env.get]
 |x::args,vs,tmps,i,h,ht=>by
  obtain⟨v,vs',rfl,hv,hs⟩:=h.kP;intro n y hy;simp only[vT,Env.get]at hy;split at hy
  ·rename_i hin;cases hy;subst hin;exact⟨v,by simpa using ht 0 v rfl,hv⟩
  ·exact zo7 (i:=i+1) hs (fun k u hk=>by
    have:=ht (k+1) u (by grind)
    grind) n y hy
def zsQ{F:Fence}{n:Nat}{fn:Func}{tmps:Array Value}{R:Ending->World->Prop}:∀(rs:List Nat) {w:World},rs.Nodup->(∀r∈rs,w.heap[r]?=some (.deferred (some []))/\¬own r)->zM σ w->MR own σ j M w ->
  (∀w',(∀k,k∉rs->w'.heap[k]?=w.heap[k]?)->w'.heap.size=w.heap.size->zd9 w w'->zM σ w'->MR own σ j M w'->LeavesIn F n P fn tmps R [] .returning w')->LeavesInM F n P fn tmps R (rs.map zkw) .returning w
 |[],w,hn,hr,hag,hm,B8=>B8 w (fun _ _=>rfl) rfl (zd9.refl _) hag hm
 |r::rs,w,hn,hr,hag,hm,B8=>by
  obtain⟨hnr,hn'⟩:=qK.1 hn;obtain⟨h1,h2⟩:=hr r (js ..);have AX:∀k,k≠r->(w.putObj r (.deferred none)).heap[k]?=w.heap[k]?:=fun k hk=>World.putObj_heap_other hk
  refine⟨wD,.inl ⟨r,_,rfl,run_takeDeferred h1,?_⟩⟩;refine zsQ rs hn' (fun r' hr'=>?_) ?_ (hm.Cn fun id b q hb hq=>AX q (fun e=>h2 (e ▸ hm.Cy hb hq))) ?_
  ·grind
  ·refine⟨?_,hag.kZ⟩;intro k o v hv;have hold:=hag.cells k o v hv
   grind [World.cell?]
  ·intro w' q1 q2 q3 q4 q5;have hsd:zd9 w (w.putObj r (.deferred none)):=by
    exact⟨rfl,rfl,rfl,fun _=>jm _⟩
   refine B8 w' (fun k hk=>?_) (by simp_all) (hsd.trans q3) q4 q5
   grind
def zuR{F:Fence}{n:Nat}{fn:Func}{own AN:Nat->Prop}{σ σ':zP}{j j':Inj}{M M2 M':Mem}{w w':World}{a':Act}{E:Env}{rcs:List RC}{r res:AV}{frz:Bool}(hm:MR own σ j M w)(vC:Mem.full M)
  (ho:∀b,AN b->own b) (hd:∀d∈a'.defers,∃r,d=zkw r/\own r/\w.heap.size<=r) (hat:At AN σ' j' E.get M2 ntmps a' w') (hst:za2 own M.length σ j M w σ' j' M2 w') (hk:M.length<=M2.length)
  (hrc:znS P fn.results.toList=some rcs) (hr:zpk E M2 rcs=some r) (B8:leave frz M.length r M2=some (res,M')):LeavesInM F n P fn a'.tmps (Ret own σ j M w res M') a'.defers .returning w':=by
 obtain⟨rs,e1,e2,e3⟩:=hat.marks;rw[e1];have hge:∀r∈rs,own r/\w.heap.size<=r:=fun r hr=>by
  obtain⟨r',h1,h2,h3⟩:=hd (zkw r) (by rw[e1];exact jW.2 ⟨r,hr,rfl⟩);cases h1;exact⟨h2,h3⟩
 refine zsQ rs e2 e3 hat.yq hat.mem fun w2 q1 q2 q3 q4 q5=>?_
 have Bm:At AN σ' j' E.get M2 ntmps { a' with defers:=[] } w2:=⟨hat.env,hat.size,zj3.nil,q4,q5,fun b hb=>hat.own b (by grind)⟩;obtain⟨v,hv,hvr⟩:=ztE Bm hrc hr;have yD:za2 own M.length σ j M w σ' j' M2 w2:=by
  refine⟨hst.sle,hst.jle,by rw[q2];exact hst.size,fun b hb hob=>?_,hst.BX,fun id b hid hb=>?_,hst.side.trans q3⟩
  ·rw[q1 b (fun h=>by grind)];exact hst.frame b hb hob
  ·obtain⟨b',hb',hv',he⟩:=hst.ue id b hid hb
   grind
 obtain⟨σ3,j3,p1,p2,p3,p4⟩:=zu7 hm rfl Bm.yq (Bm.mem.uB ho) yD vC hk hvr B8;exact⟨v,hv,v,σ3,j3,rfl,p1,p2,p3,p4⟩
def zC5(P:Program)(f:FuncId)(c:CFn):Prop:=c.rnd=none/\∃fn body an,P.funcs[f]?=some fn/\fn.body=some body/\(fn.name == "runtime.NumGoroutine")=false/\c.nargs<=fn.ntmps/\zae zb0.okc P an fn.ntmps body c.code/\znS P fn.results.toList=some c.res
def zuf{an:Ann}{b:Bool}{f:FuncId}{c:CFn}(h:zoZ P an b f=some c)
  (hK:∀fn body i x,P.funcs[f]?=some fn->fn.body=some body->zeV body<=16->(rfs body)[i]?=some x->zb0.okc (P.funcs.size+16*f+i) x.1 x.2.1 x.2.2 fn.ntmps):zC5 P f c:=by
 unfold zoZ at h;split at h
 ·rename_i fn hf;split at h
  ·rename_i body rs hb hrs;split at h
   ·grind
   ·split at h
    ·rename_i cc hcc;split at h
     ·rename_i hle;cases h;have BS:zae zb0.okc P an fn.ntmps body cc:=zdt hcc fun v i x hv hx=>by
       grind
      refine⟨rfl,fn,body,an,hf,hb,by grind,hle.1,?_,hrs⟩
      grind [zfQ]
     grind
    grind
  grind
 grind
def zro{an:Ann}{f i:Nat}{c:CFn}{fn:Func}{body:Code}{x:Array Tmp×Code×Code}{T:FuncId->Option CFn}(h:zho P an true (P.funcs.size+16*f+i)=some c)(hT:T (P.funcs.size+16*f+i)=some c)(hf:P.funcs[f]?=some fn)(hb:fn.body=some body)(hn:zeV body<=16)(hx:(rfs body)[i]?=some x) :
  zAN P T (P.funcs.size+16*f+i) x.1 x.2.1 x.2.2 fn.ntmps:=by
 have hi:i<16:=by grind [zC,zfr]
 have e1:(P.funcs.size+16*f+i-P.funcs.size) / 16=f:=wA
 have e2:(P.funcs.size+16*f+i-P.funcs.size) % 16=i:=wA
 obtain⟨ps,a,b⟩:=x;simp only[zho,e1,e2,hf,hb,hx]at h;split at h
 ·rename_i a' b' ha hb';split at h
  ·rename_i hc;simp only[jk,jw,decide_eq_true_eq]at hc;simp only[if_true,ji]at h;have hno:∀(vf:Option FuncId) (c:Code) v i x,(none:Option FuncId)=some v->(rfs c)[i]?=some x->noK (v+i) x.1 x.2.1 x.2.2 fn.ntmps:=fun _ _ _ _ _ h _=>by grind
   refine⟨c,_,an,hT,by rw[<-h],zfQ (zdt ha (hno none a)),by grind [zfQ,zdt],zgy hc.1,hc.2⟩
  grind
 grind
def zwr(u9:P.follows .mixedOrders=true)(hcf:FnS P cf){n:Nat}{v:FuncId}{c:CFn}{ps:List Nat}{pre:CC}{args:List WV}{M M':Mem}{res:AV}(h:zoC cf n v ps pre c.code args M=some (res,M'))(vC:Mem.full M)
  (hK:∀r:Loop,zb0.ok v r->∃an,r.params.toList=ps/\zae noK P an r.tmps.size r.assign pre/\zae noK P an r.tmps.size r.body c.code/\ps.Nodup/\∀p∈ps,p<r.tmps.size) :
  ∃id sh as,args=.c (.yld id v sh)::as /\
   ∀F n own σ j w l r (vs:Array Value),zhz F->(∀b,w.heap.size<=b->own b)->zM σ w->MR own σ j M w->j id 0=some (.rnd l r v sh)->zac σ j as vs.toList ->
    vs.size=r.params.size/\(∃s p,w.heap[l]?=some (.loop { r with state:=s,pending:=p })) /\
    RoundIn F n P l r.fn ((r.params.zip vs).foldl (fun tmps (t,a)=>tmps.setIfInBounds t a) r.tmps) r.assign r.body w (Ret own σ j M w res M'):=by
 unfold zoC at h;split at h
 ·rename_i id g sh as;split at h
  ·rename_i hc;obtain⟨rfl,hlen,hst0⟩:=hc;refine⟨id,sh,as,rfl,fun F nn own σ j w l r vs hF hown hag hm hj hvs=>?_⟩;obtain⟨an,hps,hpre,BS,hnd,hlt⟩:=hK r (hm.okP _ _ _ hj);obtain⟨b0,DH,hlk0,hrows0,yY⟩:=zsJ hst0;rw[yY]at h;dsimp only at h;obtain⟨hb0,hg0,hrb0⟩:=zjB hm hj hlk0;obtain⟨s0,cells1,pd0,us,q1,q2,q3,q4,q5⟩:=hrb0.st;rw[hrows0]at q1;cases q1;have hpd0:pd0=none:=q3 wD;subst hpd0;have hl0:w.heap[l]?=some (.loop { r with state:=.ready,pending:=none }):=q2;have hvl:vs.size=r.params.size:=by
    have h1:=hvs.1
    grind
   refine⟨hvl,⟨_,_,hl0⟩,?_⟩;split at h
   ·rename_i E0 hE0;have henv0:=zvy hE0 q4 q5;have hplt:∀p∈ps,p<r.tmps.size:=hlt;obtain⟨t1,t2,_⟩:=zqN (E0:=E0) (tmps:=r.tmps) (vs:=vs.toList) hnd hplt (by rw[hlen]) hvs henv0;rw[<-hps,<-zxR]at t1 t2;have hat0:At own σ j (zv3 r.params.toList as++E0).get M r.tmps.size { tmps:=(r.params.zip vs).foldl (fun(tmps:Array Value) (x:Nat×Value)=>tmps.setIfInBounds x.1 x.2) r.tmps,defers:=[] } w:=⟨t1,t2,zj3.nil,hag,hm,hown⟩;rw[<-hps]at h;split at h
    ·rename_i E1 M1 hx1;split at h
     ·rename_i M2 hset1;split at h
      ·rename_i ex E3 M3 hx2;split at h
       ·rename_i M4 hset2;refine roundIn_of_wpIn (hF.fn _) ?_;have hF':zhz (F.inRound l):=⟨hF.fn,hF.depth,hF.alive⟩;refine wpIn_mono (zdw hF' hcf u9 (hpre.mono fun _ _ _ _ h=>h.elim) (.inr (zkv hpre)) hx1 hat0) fun e a1 w1 hq=>?_
        obtain⟨rfl,BY,σ1,j1,ho1,hd1,AE,yE,hk1⟩:=hq;show ∃w2,_;have hj1:j1 id 0=some (.rnd l r g sh):=yE.jle _ _ _ (zC hb0) hj;obtain⟨b1,cells1,hlk1,hrows1,_⟩:=zg0 hset1;obtain⟨hb1,_,hrb1⟩:=zjB AE.mem hj1 hlk1;obtain⟨s1,c1,pd1,us1,p1,p2,p3,p4,p5⟩:=hrb1.st;rw[hrows1]at p1;cases p1;have hpd1:pd1=none:=p3 wD;subst hpd1;have hl1:w1.heap[l]?=some (.loop { r with state:=.ready,pending:=none }):=p2;obtain⟨Cr,hm2,yD⟩:=znk (pd:=none) AE.yq AE.mem hj1 hset1 (fun _=>rfl);have e1:zfS 1=.busy:=rfl;rw[e1]at Cr hm2 yD;refine⟨_,run_beginRound hl1 rfl,?_⟩;have Bm:At BY σ1 j1 E1.get M2 r.tmps.size a1 (w1.putObj l (.loop { r with state:=.busy,pending:=none })):=⟨AE.env,AE.size,AE.marks.frame yD.frame,Cr,hm2,fun b hb=>AE.own b (by simpa using hb)⟩;refine wpIn_mono (zdw hF' hcf u9 (BS.mono fun _ _ _ _ h=>h.elim) (.inr (zkv BS)) hx2 Bm) fun e a3 w3 hq=>?_
        obtain⟨rfl,own3,σ3,j3,ho3,hd3,BH,Cj,hk3⟩:=hq;have hM2:M2.length=M1.length:=by grind
        have hj3:j3 id 0=some (.rnd l r g sh):=Cj.jle _ _ _ (by grind) hj1;obtain⟨b3,cells3,hlk3,CE,_⟩:=zg0 hset2;obtain⟨hb3,_,hrb3⟩:=zjB BH.mem hj3 hlk3;obtain⟨s3,c3,pd3,us3,r1,r2,r3,r4,r5⟩:=hrb3.st;rw[CE]at r1;cases r1;have hl3:w3.heap[l]?=some (.loop { r with state:=.busy,pending:=pd3 }):=r2;have hM4:M4.length=M3.length:=by grind
        have done:∀(jump:Option Code),(zxZ ex≠-1->jump=zqM (zxZ ex))->zfS (zxZ ex)=(if jump.isNone then .ready else .done)->jump.isNone=(ex==.normal) ->
          ∃v w',(Instr.endRound l jump).run P w3=.ok v w'/\Ret own σ j M w res M' (.returned v) w':=by
         intro jump hj1' hj2' hj3';obtain⟨hag4,hm4,Db⟩:=znk (pd:=jump) BH.yq BH.mem hj3 hset2 hj1';rw[hj2']at hag4 hm4 Db;refine⟨_,_,run_endRound jump hl3,?_⟩;have hstall:za2 own M.length σ j M w σ3 j3 M4 (w3.putObj l (.loop { r with state:=if jump.isNone then .ready else .done,pending:=jump })) :=
          ((yE.trans ((yD.uB ho1).le hk1)).trans ((Cj.uB ho1).le wA)).trans ((Db.uB (fun b hb=>ho1 b (ho3 b hb))).le wA)
         obtain⟨j5,z1,z2,z3⟩:=zkC (w:=w3.putObj l (.loop { r with state:=if jump.isNone then .ready else .done,pending:=jump })) (r:=.w (.c (.bool (ex==.normal)))) (v:=.bool jump.isNone) hm rfl ((hm4.uB ho3).uB ho1) hstall vC (by rw[hj3'];exact VC.bool _ _) h;exact⟨_,σ3,j5,rfl,z1,hag4,z2,z3⟩
        cases ex with
        |normal=>exact done none (fun _=>rfl) rfl rfl
        |ret=>exact done (some .ret) (fun _=>rfl) rfl rfl
        |exit i =>
         refine done (some (.exit i)) (fun _=>?_) ?_ rfl
         ·have h1:¬(3+(i:Int)=0):=wA
          have h2:¬(3+(i:Int)=2):=wA
          have h3:(3:Int)<=3+i:=wA
          have h4:(3+(i:Int)-3).toNat=i:=wA
          grind [zqM,znr,zxZ]
         grind [zfS,zxZ]
       grind
      grind
     grind
    grind
   grind
  grind
 grind
def zrA(u9:P.follows .mixedOrders=true){T:FuncId->Option CFn}{X:za4}(hT:∀f c,T f=some c->(f<zb0.base->zC5 P f c)/\(zb0.base<=f->c.rnd.isSome=true))(hR:∀v ps a b n,zb0.okc v ps a b n->zAN P T v ps a b n)(hX:FnS P X):∀n,FnS P (zfk T X n)
 |0=>fun f args M res M' h=>by grind [zfk]
 |n+1=>fun f args M res M' h vC=>by
  have ih:=zrA u9 hT hR hX n;simp only[zfk]at h;split at h
  ·exact hX f args M res M' h vC
  ·rename_i c hTf;obtain⟨hT1,hT2⟩:=hT f c hTf;split at h
   ·rename_i ps pre hrnd;refine⟨fun hlt=>?_,fun hge=>?_⟩
    ·rw[(hT1 hlt).1]at hrnd;grind
    ·refine zwr u9 ih h vC fun r hr=>?_
     obtain⟨c',pre',an,h1,h2,h3,h4,h5,h6⟩:=hR _ _ _ _ _ hr
     grind
   ·refine⟨fun hlt=>?_,fun hge=>by grind⟩;obtain⟨_,fn,body,an,hf,hb,CS,hle,BS,Bs⟩:=hT1 hlt;refine⟨fn,hf,by grind,CS,?_⟩;split at h
    ·intro own σ j w vs hown hag hm hvs;have hvl:vs.size=c.nargs:=by have:=hvs.1;grind
     have hsz:(vs++Array.replicate (fn.ntmps-vs.size) undef).size=fn.ntmps:=by grind
     have hat:At own σ j (vT 0 args).get M fn.ntmps { tmps:=vs++Array.replicate (fn.ntmps-vs.size) undef,defers:=[] } w :=
      ⟨zo7 hvs (fun k v hk=>by
       grind),hsz,zj3.nil,hag,hm,hown⟩
     have fin:∀{ex:EX} {E:Env} {M2:Mem} {r:AV},(ex=.normal\/ex=.ret)->zaV (zfk T X n) n c.code (vT 0 args) M=some (ex,E,M2)->zpk E M2 c.res=some r->leave c.frz M.length r M2=some (res,M') ->
       Calls P f vs w (Ret own σ j M w res M'):=by
      intro ex E M2 r hexit hx hr B8;have hF:zhz Fence.wide:=⟨fun _=>trivial,rfl,rfl⟩;refine callsIn_wide (n:=0).1 (callsIn_of_wp_marks hf hb trivial ?_);refine wpIn_mono (zdw hF ih u9 BS (.inl rfl) hx hat) fun e a' w' hq=>?_
      obtain⟨rfl,AN,σ',j',ho,hd,CJ,hst,hk⟩:=hq;have:=zuR (F:=Fence.wide) (n:=0) hm vC ho (fun d hd'=>(hd d hd').resolve_left (fun h=>by grind)) CJ hst hk Bs hr B8;rcases hexit with rfl|rfl
      ·exact this
      ·exact this
     grind
    grind
def noX:za4:=fun _ _ _=>none
def znV:FnS P noX:=fun f args M res M' h=>by cases h
end
end Go.Eng
namespace Go.Eng
open Go
section
variable[GlobP]
def an0:Ann:={ mode:=fun _=>⟨true⟩,frz:=fun _=>true }
def nilCheck(P:Program)(id:Nat)(o:Array Oper)(esz:Nat):Bool:=match zeP P an0 8 id o.toList false with
 |some (1,[⟨_,some 2,none,.kx 0 e⟩],[])=>e==esz
 |_=>false
def zsE(P:Program)(o:Array Oper):Bool:=match zdT P o.toList an0.mode 8 0 with
 |some ⟨_,some 3,none,.mv (.s 0)⟩=>(match o.toList with
  |[_,⟨some 4,.binOp .eql S (.tmp 3) (.const (.slice none 0 0)) _,_,_,_,none⟩]=>(match P.underlying S with |some (.slice _)=>true |_=>false)
  |_=>false)
 |_=>false
def ztd(P:Program)(id:Nat)(o:Array Oper)(esz bytes:Nat):Bool:=match zeP P an0 8 id o.toList false with
 |some (1,[⟨_,some 5,none,.lit 0 e [] []⟩,⟨_,some 6,none,.mv (.s 0)⟩,⟨_,some 7,none,.append e' b (.s 5) (.s 6)⟩,⟨_,some 2,none,.mv (.s 7)⟩],[])=>e==esz&&e'==esz&&b==bytes
 |_=>false
def zf2(P:Program)(f:FuncId)(esz bytes:Nat):Bool:=match P.funcs[f]? with
 |some fn=>match fn.body with
  |some (.seq (.region i0 o0 false) (.seq (.seq (.region _ o1 false) (.cond (.tmp 4) (.seq (.region i2 o2 false) .ret) .skip)) (.seq (.region i3 o3 false) .ret))) =>
   !(fn.name == "runtime.NumGoroutine")&&fn.ntmps==8&&(match fn.results.toList with |[.tmp 2]=>true |_=>false)&&nilCheck P i0 o0 esz&&zsE P o1&&nilCheck P i2 o2 esz&&ztd P i3 o3 esz bytes
  |_=>false
 |none=>false
def zuh(esz bytes:Nat)(frz:Bool)(x:Cl):Mem->Option (AV×Mem)
 |[]=>match x with
  |.jb ys=>if ys.all (fun r=>r.length==esz)&&roomy ys.length bytes&&0<esz then
    some (if frz then(.w (.c (.jb ys)),[]) else
     (.w (.c (.slice 0 ys.length esz 0 ys.length none)),[some { box:=false,esz,rows:=ys,gen:=ys.length,fz:=false,ver:=ys.length }]))
   else none
  |_=>none
 |_=>none
def zwP(x:Int):List Int->List Int
 |[]=>[x]
 |y::l=>if x<=y then x::y::l else y::zwP x l
def zfI:List Int->List Int
 |[]=>[]
 |x::l=>zwP x (zfI l)
def zzg:List (List Cl)->Option (List Int)
 |[]=>some []
 |r::l=>match r with
  |[.int .i64 n]=>(zzg l).map (n :: ·)
  |_=>none
def zgv(l:List Int):List (List Cl):=l.map fun n=>[.int .i64 n]
def zzr(x:Cl)(M:Mem):Option (AV×Mem):=match x with
 |.jc=>some (.t [],M)
 |.slice id g _ off len _ =>
  if len=0 then some (.t [],M) else
  match look M id g with
  |some b =>
   if !b.box && !b.fz&&off+len<=b.rows.length&&b.esz==1&&decide (len<4611686018427387904) then
    match zzg ((b.rows.drop off).take len)with
    |some zs=>some (.t [],M.set id (some { b with rows:=b.rows.take off++zgv (zfI zs)++b.rows.drop (off+len),ver:=b.ver+1 }))
    |none=>none
   else none
  |none=>none
 |_=>none
def zgk(k key i:Nat):Bool:=key==7&&i+1==k
def zjS(b:Bool)(z:Int):Cl:=if b then .bool (z !=0) else .int .i64 z
def zuC(k key:Nat):Nat->List Cl->Option (List Int)
 |_,[]=>some []
 |i,c::l=>match c with
  |.int .i64 n=>if zgk k key i then none else(zuC k key (i+1) l).map (n :: ·)
  |.bool b=>if zgk k key i then(zuC k key (i+1) l).map ((if b then 1 else 0) :: ·) else none
  |_=>none
def zv2(k key:Nat):List (List Cl)->Option (List (List Int))
 |[]=>some []
 |r::l=>match zuC k key 0 r,zv2 k key l with
  |some x,some xs=>some (x::xs)
  |_,_=>none
def zhX:List Int->List Int->Bool
 |[],[]=>false
 |[],_::_=>true
 |_::_,[]=>false
 |x::xs,y::ys=>decide (x<y)||(decide (x=y)&&zhX xs ys)
def zsY(k key:Nat)(x:List Int):List Int:=(List.range k).map fun i=>if zgk k key i then(if x.getD i 0 !=0 then 1 else 0) else x.getD i 0
def ltZ(k key:Nat)(x y:List Int):Bool:=if key=7 then zhX (zsY k key x) (zsY k key y) else decide (x.getD key 0<y.getD key 0)
def zsn(n:Nat):Nat:=if n=0 then 0 else n.log2+1
def ziS(k key:Nat)(l:List (List Int)):List (List Int):=(Go.Sort.pdq (ltZ k key) l.toArray 0 l.length (zsn l.length) true true).toList
theorem zqV:∀x,zhX x x=false
 |[]=>rfl
 |x::xs=>by simp[zhX,zqV xs]
theorem zkz:∀{x y z:List Int},zhX x y=true->zhX y z=true->zhX x z=true
 |[],[],_,h,_=>by grind
 |[],_::_,[],_,h=>by grind [zhX]
 |[],_::_,_::_,_,_=>rfl
 |_::_,[],_,h,_=>by grind [zhX]
 |_::_,_::_,[],_,h=>by grind [zhX]
 |x::xs,y::ys,z::zs,h1,h2=>by
  simp only[zhX,Av,decide_eq_true_eq,jk]at *;rcases h1 with h1 |⟨rfl,h1⟩
  ·grind
  ·rcases h2 with h2 |⟨rfl,h2⟩
   ·grind
   ·right;exact⟨rfl,zkz h1 h2⟩
theorem znq:∀{x y:List Int},zhX x y=false->zhX y x=false->x=y
 |[],[],_,_=>rfl
 |[],_::_,h,_=>by grind [zhX]
 |_::_,[],_,h=>by grind [zhX]
 |x::xs,y::ys,h1,h2=>by
  simp only[zhX,Bool.or_eq_false_iff,decide_eq_false_iff_not,Bool.and_eq_false_iff]at *;have e:x=y:=wA
  subst e;rcases h1.2 with h|h
  ·grind
  ·rcases h2.2 with g|g
   ·grind
   ·rw[znq h g]
theorem zu5{x y z:List Int}(h1:zhX x y=false)(h2:zhX y z=false):zhX x z=false:=by
 grind [zhX,zkz,znq]
def ztY(k key:Nat):Go.Sort.SWO (ltZ k key) where
 irrefl x:=by
  grind [ltZ,zqV]
 trans x y z h1 h2:=by
  unfold ltZ at *;split
  ·grind [zkz]
  grind
 ntrans x y z h1 h2:=by
  unfold ltZ at *;split
  ·grind [zu5]
  grind
def znh(k key:Nat)(l:List (List Int)):Go.Sort.PermIn 0 l.length l.toArray (Go.Sort.pdq (ltZ k key) l.toArray 0 l.length (zsn l.length) true true)/\Go.Sort.SortedIn (ltZ k key) 0 l.length (Go.Sort.pdq (ltZ k key) l.toArray 0 l.length (zsn l.length) true true) :=
 Go.Sort.pdq_sorts (ltZ k key) (ztY k key) l.toArray 0 l.length _ true true (jr _) wD (Or.inl rfl)
def zx2(k key:Nat)(l:List (List Int)):(ziS k key l).length=l.length:=by
 have:=(znh k key l).1.1
 grind [ziS]
def zsl(k key:Nat)(l:List Int):List Cl:=(List.range k).map fun i=>zjS (zgk k key i) (l.getD i 0)
def zqs(k key:Nat)(x:Cl)(M:Mem):Option (AV×Mem):=match x with
 |.jc=>some (.t [],M)
 |.slice id g _ off len _ =>
  if len=0 then some (.t [],M) else
  match look M id g with
  |some b =>
   if !b.box && !b.fz&&off+len<=b.rows.length&&b.esz==k&&decide (len<4611686018427387904) then
    match zv2 k key ((b.rows.drop off).take len)with
    |some zs=>some (.t [],M.set id (some { b with rows:=b.rows.take off++(ziS k key zs).map (zsl k key)++b.rows.drop (off+len),ver:=b.ver+1 }))
    |none=>none
   else none
  |none=>none
 |_=>none
def Zo0:List (List Cl)->Option (List (Int×Int))
 |[]=>some []
 |(.int .i64 b::.int .i64 k::_)::R=>(Zo0 R).map ((b,k) :: ·)
 |_=>none
def ZpA(g:Nat)(x:Cl)(M:Mem):Option (AV×Mem):=match x with
 |.fn g' [] [.ptr id 0 0 0]=>match look M id 0 with
  |some b=>match b.rows with
   |[[.map m _]]=>match zi4 M m with
    |some (_,c,R)=>match Zo0 R with
     |some ks=>if g'=g/\b.box=true/\ks.length<=1000000/\(ks.all fun p=>decide (p.1<c/\-9223372036854775808<=p.2/\p.2<9223372036854775808))=true/\(ks.map (·.1)).Nodup/\(ks.map (·.2)).Nodup then some (.w (.c (.jb (zgv (zfI (ks.map (·.2)))))),M) else none
     |none=>none
    |none=>none
   |_=>none
  |none=>none
 |_=>none
def Zpq(x:Cl)(M:Mem):Option (AV×Mem):=match x with
 |.map m g=>match zi4 M m with
  |some (b,_,_)=>some (.w (.c (.map M.length g)),M++[some { b with ver:=0 }])
  |none=>none
 |_=>none
def uv(Cs:List (Nat×Nat×Nat×Bool)):za4:=fun f args M=>match Cs.lookup f with
 |some (esz,bytes,frz)=>match args with
  |[.c x]=>if esz=0 then(if bytes=0 then zzr x M else if bytes % 64=1 then ZpA (bytes / 64) x M else if bytes % 64=2 then Zpq x M else none) else zuh esz bytes frz x M
  |[.c x,.c (.fn g [] [])]=>if esz=0/\8<=bytes % 64/\bytes / 64=g then zqs (bytes / 8 % 8) (bytes % 8) x M else none
  |_=>none
 |none=>none
end
section
variable[zb0]{own:Nat->Prop}{P:Program}{σ:zP}{j:Inj}{M:Mem}{w:World}
def zuP{ys:List (List Cl)}{v:Value}(hv:VC σ j (.jb ys) v):∃b l c,v=.slice b l c/\(b=none->ys=[]):=by
 cases hv with
 |jb _ es rows a c b o val hl ha hr h1 h2 =>
  grind
def zTn(d:Nat)(t e:TypeId)(b:Option Addr)(l c:Nat)(w:World)(h:P.underlying t=some (.slice e)):(Op.equalIn (d+1) t (.slice b l c) (.slice none 0 0)).run P w=.ok b.isNone w:=by
 cases b<;>simp[Op.equalIn,run_underlying h]
def zpK(t e:TypeId)(b:Option Addr)(l c:Nat)(w:World)(h:P.underlying t=some (.slice e)):(Op.equal t (.slice b l c) (.slice none 0 0)).run P w=.ok b.isNone w :=
 zTn 9999 t e b l c w h
abbrev gh(esz:Nat):Blk:={ box:=false,esz,rows:=[],gen:=0,fz:=false,ver:=0 }
abbrev cl1(esz:Nat)(ys:List (List Cl)):Blk:={ box:=false,esz,rows:=ys,gen:=ys.length,fz:=false,ver:=ys.length }
def zAv{esz bytes:Nat}{ys:List (List Cl)}{E:Env}{i0 i1 i2 i3:Nat}(hE:E.get 0=some (.w (.c (.jb ys))))(hys:ys.all (fun r=>r.length==esz)=true)(uo:0<esz)(kA:roomy ys.length bytes=true) :
  ∃E' fs,zks noX 1 [⟨i0,some 5,none,.lit 0 esz [] []⟩,⟨i1,some 6,none,.mv (.s 0)⟩,⟨i2,some 7,none,.append esz bytes (.s 5) (.s 6)⟩,⟨i3,some 2,none,.mv (.s 7)⟩] E ([some (gh esz)]++qC 1) =
   some (E',[some (gh esz),some (cl1 esz ys)],fs)/\E'.get 2=some (.w (.c (.slice 1 ys.length esz 0 ys.length none))):=by
 have s1:zbm noX 1 ⟨i0,some 5,none,.lit 0 esz [] []⟩ E.get ([some (gh esz)]++qC 1)=some (.w (.c (.slice 1 0 esz 0 0 none)),[some (gh esz),some (gh esz)],.no):=by
  simp[zbm,opF,zdS,uo,zcf,zbg,zg,qC,gh]
 have h4:zcB [some (gh esz),some (gh esz)] esz bytes (.slice 1 0 esz 0 0 none) (.jb ys)=some (.w (.c (.slice 1 ys.length esz 0 ys.length none)),[some (gh esz),some (cl1 esz ys)],.wr [(1,0,whole)]):=by
  simp_all [zcB,zeF,if_pos,jp,look,gh,cl1]
 simp_all [Env,Mem,zbm,noX,Env.put,get,opF,Opd.av,Opd.ev,Env.get,whole,zks]
def zvu{esz:Nat}{ys:List (List Cl)}(frz:Bool):leave frz 0 (.w (.c (.slice 1 ys.length esz 0 ys.length none))) [some (gh esz),some (cl1 esz ys)] =
  some (if frz then(.w (.c (.jb ys)),[]) else(.w (.c (.slice 0 ys.length esz 0 ys.length none)),[some (cl1 esz ys)])):=by
 cases frz with
 |true=>simp[leave,zoS,zn7,zdR,look,gh,cl1,finish,AV.below,WV.below,WV.cells,below,yC,zH]
 |false=>simp[leave,finish,AV.below,WV.below,WV.cells,below,yC,zH,AV.ids,WV.ids,zBH,CB,collect,zfj,zpw,Blk.ids,zku,znn,zpM,zeS,qJ,zd3,zck,zhj,cl1]
def zrt(u9:P.follows .mixedOrders=true){f:FuncId}{esz bytes:Nat}{frz:Bool}{x:Cl}{v:Value}{res:AV}{M':Mem}(hck:zf2 P f esz bytes=true)(h:zuh esz bytes frz x M=some (res,M')) :
  ∃fn,P.funcs[f]?=some fn/\fn.body.isNone=false/\(fn.name == "runtime.NumGoroutine")=false /\
   ((∀b,w.heap.size<=b->own b)->zM σ w->MR own σ j M w->VC σ j x v->Calls P f #[v] w (Ret own σ j M w res M')):=by
 unfold zf2 at hck;split at hck
 ·rename_i fn hfn;split at hck
  ·rename_i i0 o0 i1 o1 i2 o2 i3 o3 hbody;simp only[jk,qm,beq_iff_eq]at hck;obtain⟨⟨⟨⟨⟨⟨CS,hnt⟩,Bs⟩,hk0⟩,hk1⟩,hk2⟩,hk3⟩:=hck;refine⟨fn,hfn,by grind,by grind,fun hown hag hm hv=>?_⟩;obtain⟨ys,rfl,rfl,ve,kA,uo,B8⟩:∃ys,x=.jb ys/\M=[]/\ys.all (fun r=>r.length==esz)=true/\roomy ys.length bytes=true/\0<esz /\
     leave frz 0 (.w (.c (.slice 1 ys.length esz 0 ys.length none))) [some (gh esz),some (cl1 esz ys)]=some (res,M'):=by
    unfold zuh at h;split at h
    ·split at h
     ·rename_i ys;split at h
      ·rename_i hc;simp only[jk,decide_eq_true_eq]at hc;exact⟨ys,rfl,rfl,hc.1.1,hc.1.2,hc.2,by rw[zvu];exact h⟩
      ·cases h
     grind
    grind
   obtain⟨b,l,c,rfl,hbn⟩:=zuP hv;have hresl:fn.results.toList=[.tmp 2]:=by
    grind
   have hF:zhz Fence.wide:=⟨fun _=>trivial,rfl,rfl⟩;have hat0:At own σ j (vT 0 [.c (.jb ys)]).get [] 8 { tmps:=#[.slice b l c]++Array.replicate (fn.ntmps-(#[Value.slice b l c]:Array Value).size) undef,defers:=[] } w:=by
    refine⟨zo7 (vs:=[.slice b l c]) (zac.cons hv zac.nil) (fun k u hk=>?_),by grind,zj3.nil,hag,hm,hown⟩;have hk0:k=0:=by grind
    grind
   refine(callsIn_wide (n:=0)).1 (callsIn_of_wp_marks hfn hbody trivial (wpIn_seq ?_));unfold nilCheck at hk0;split at hk0
   ·rename_i ix0 e0 hc0;obtain rfl:e0=esz:=by grind
    refine ziY (n:=0) hF znV u9 hc0 (E:=vT 0 [.c (.jb ys)]) (E':=(2,.w (.c (.slice 0 0 e0 0 0 none)))::vT 0 [.c (.jb ys)]) (M':=[some (gh e0)]) (fs:=[.no]) (by simp[zks,zbm,opF,Env.put,qC,zg,gh]) wD hat0 fun a1 w1 σ1 j1 AE yE _ hd1=>?_
    refine wpIn_seq (wpIn_seq ?_);unfold zsE at hk1;split at hk1
    ·rename_i ix1 hca;split at hk1
     ·rename_i oa S yt ty pos aft hol;obtain⟨eT,hS⟩:∃e,P.underlying S=some (.slice e):=by
       grind
      have ho1:o1 = #[oa,⟨some 4,.binOp .eql S (.tmp 3) (.const (.slice none 0 0)) yt,ty,pos,aft,none⟩]:=qz (by grind);refine wpIn_region ?_;have hsz:o1.size=2:=by grind
      rw[hsz];show wpOpsIn _ _ _ _ _ [0,1] _ _;rw[wpOpsIn_cons];refine zoz hF znV hca (av:=.w (.c (.jb ys))) (M':=[some (gh e0)]) (fp:=.no) (n0:=0) (by simp[zbm,opF,Opd.av,Opd.ev,Env.get,vT]) AE fun a2 w2 σ2 j2 Bm yD hd2=>?_
      rw[wpOpsIn_cons];obtain⟨v3,hv3,hr3⟩:=Bm.env 3 (.w (.c (.jb ys))) (by simp[zjC]);obtain⟨b3,l3,c3,rfl,hb3⟩:=zuP hr3;have he3:a2.eval (.tmp 3)=.slice b3 l3 c3:=by simp[Act.eval,qn,hv3]
      have Cm:(execOp a2.eval ⟨some 4,.binOp .eql S (.tmp 3) (.const (.slice none 0 0)) yt,ty,pos,aft,none⟩).run P w2=.ok (.value (.bool b3.isNone)) w2:=by
       simp_all [execOp,Act.eval,eqGuard,binOp,zpK]
      have BH:=Bm.put (d:=some 4) (av:=.w (.c (.bool b3.isNone))) (v:=.bool b3.isNone) (fun x hx=>by grind) (VC.bool _ _) Bm.yq Bm.mem za2.refl;rw[<-ztG,<-ztG]at BH;unfold wpOpIn;have ho11:o1[1]?=some ⟨some 4,.binOp .eql S (.tmp 3) (.const (.slice none 0 0)) yt,ty,pos,aft,none⟩:=by grind
      simp only[ho11,Region.wanted,if_true];refine⟨fun _ _=>trivial,?_⟩;rw[Oper.semAt_eq _ _ _ (by grind),Cm];show Code.wpIn _ _ _ _ _ _ _;have he4:(a2.put (some 4) (.bool b3.isNone)).eval (.tmp 4)=.bool b3.isNone:=by
       obtain⟨v4,hv4,hr4⟩:=BH.env 4 (.w (.c (.bool b3.isNone))) (by simp[Env.put,Env.get]);have hr4:VC _ _ (.bool b3.isNone) v4:=hr4;have:v4=.bool b3.isNone:=by generalize b3.isNone=t at hr4;cases hr4;rfl
       simp_all [Act.eval,qn]
      have hrc:znS P fn.results.toList=some [.slot 2]:=by rw[hresl];rfl
      have fin:∀{E4:Env} {a4:Act} {w4:World} {σ4:zP} {j4:Inj},At own σ4 j4 E4.get [some (gh e0),some (cl1 e0 ys)] 8 a4 w4->E4.get 2=some (.w (.c (.slice 1 ys.length e0 0 ys.length none)))->za2 own 0 σ j [] w σ4 j4 [some (gh e0),some (cl1 e0 ys)] w4->a4.defers=[] ->
        bodyPostM Fence.wide 0 P fn (Ret own σ j [] w res M') .ret a4 w4:=by
       intro E4 a4 w4 σ4 j4 hat4 kY hst hds;exact zuR (F:=Fence.wide) (n:=0) hm (fun id hid=>by grind) (fun _ h=>h) (fun d hd=>by grind) hat4 hst wD hrc (by grind [zpk,zlQ,zoD]) B8
      refine wpIn_cond_split he4 (fun ht=>?_) (fun ht=>?_)
      ·
       have hys0:ys=[]:=hb3 (by simp_all);subst hys0;refine wpIn_seq ?_;unfold nilCheck at hk2;split at hk2
       ·rename_i ix2 e2 hc2;obtain rfl:e2=e0:=by grind
        refine ziY (n:=0) hF znV u9 hc2 (E':=Env.put (Env.put (Env.put ((2,.w (.c (.slice 0 0 e2 0 0 none)))::vT 0 [.c (.jb [])]) (some 3) (.w (.c (.jb [])))) (some 4) (.w (.c (.bool b3.isNone)))) (some 2) (.w (.c (.slice 1 0 e2 0 0 none)))) (M':=[some (gh e2),some (cl1 e2 [])]) (fs:=[.no]) (by simp[zks,zbm,opF,Opd.av,Opd.ev,Env.put,qC,zg,gh]) wD BH fun a4 w4 σ4 j4 hat4 Db _ hd4=>?_
        exact wpIn_ret (fin hat4 (by simp[Env.put,Env.get]) (((yE.trans (yD.le wD)).trans (Db.le wD))) (hd4.trans (zfX.trans (hd2.trans hd1))))
       grind
      ·
       refine wpIn_skip ?_;show Code.wpIn _ _ _ _ _ _ _;refine wpIn_seq ?_;unfold ztd at hk3;split at hk3
       ·rename_i p0 e p1 p2 e' by' p3 hc3;simp only[jk,beq_iff_eq]at hk3;obtain⟨⟨rfl,rfl⟩,rfl⟩:=hk3;obtain⟨E5,fs5,ui,kY⟩:=zAv (i0:=p0) (i1:=p1) (i2:=p2) (i3:=p3) (E:=Env.put (Env.put ((2,.w (.c (.slice 0 0 e' 0 0 none)))::vT 0 [.c (.jb ys)]) (some 3) (.w (.c (.jb ys)))) (some 4) (.w (.c (.bool b3.isNone)))) (by simp[Env.put,Env.get,vT]) ve uo kA;refine ziY (n:=0) (M:=[some (gh e')]) hF znV u9 hc3 ui wD BH fun a4 w4 σ4 j4 hat4 Db _ hd4=>?_
        exact wpIn_ret (fin hat4 kY (((yE.trans (yD.le wD)).trans (Db.le wD))) (hd4.trans (zfX.trans (hd2.trans hd1))))
       grind
     grind
    grind
   grind
  grind
 grind
def zoQ(x:Int):∀l,(zwP x l).Perm (x::l)
 |[]=>uG _
 |y::l=>by
  unfold zwP;split
  ·grind
  ·exact((zoQ x l).cons y).trans (List.Perm.swap x y l)
theorem zni:∀l,(zfI l).Perm l
 |[]=>uG _
 |x::l=>(zoQ x _).trans ((zni l).cons x)
def zps{x:Int}:∀{l:List Int},l.Pairwise (·<=·)->(zwP x l).Pairwise (·<=·)
 |[],_=>by simp[zwP]
 |y::l,h=>by
  unfold zwP;obtain⟨h1,h2⟩:=jX.1 h;split
  ·grind [List.pairwise_cons]
  ·refine jX.2 ⟨fun z hz=>?_,zps h2⟩;rcases jK.1 ((zoQ x l).mem_iff.1 hz)with rfl|hz
   ·omega
   grind
theorem znO:∀l,(zfI l).Pairwise (·<=·)
 |[]=>List.Pairwise.nil
 |x::l=>zps (znO l)
def zsM(l:List Int):(zfI l).length=l.length:=(zni l).length_eq
def zuM(l:List Int):l.mergeSort (fun x y=>decide (x<=y))=zfI l:=by
 grind [List.Perm.eq_of_pairwise,Int.le_antisymm,znO,List.mergeSort_perm,trans,zni,List.pairwise_mergeSort,decide]
def zsz:∀{r:List (List Cl)} {zs:List Int},zzg r=some zs->r=zgv zs
 |[],zs,h=>by cases h;rfl
 |x::r,zs,h=>by
  unfold zzg at h;split at h
  ·cases hr:zzg r with
   |none=>grind
   |some l =>
    rw[hr]at h;cases h;rw[zsz hr];rfl
  grind
structure zCh(P:Program)(f:FuncId):Prop where
 fn:∃fn,P.funcs[f]?=some fn/\fn.body.isNone=false/\(fn.name == "runtime.NumGoroutine")=false
 none:∀(p:Option Addr) (cap:Nat) (w:World),Calls P f #[.slice p 0 cap] w fun e w'=>e=.returned (.tuple #[])/\w'=w
 some:∀(blk off cap:Nat) (zs:List Int) (w:World),Go.Sort.Holds (Value.int .i64) w blk off zs.toArray->blk<w.heap.size->zs.length<4611686018427387904 ->
  Calls P f #[.slice (.some ⟨blk,off,.none⟩) zs.length cap] w fun e w'=>e=.returned (.tuple #[])/\∃n os,w'=Go.Sort.grow (Go.Sort.putRow (Value.int .i64) (Go.Sort.ahead w n) blk off (zs.mergeSort fun x y=>decide (x<=y)).toArray) os
def MR.more(hm:MR own σ j M w){w':World}(h:∀k,k<w.heap.size->w'.heap[k]?=w.heap[k]?):MR own σ j M w':=by
 refine⟨fun id b hb=>?_,hm.vz,hm.dom,hm.okP⟩;obtain⟨pl,h1,h2,h3⟩:=hm.vF id b hb;exact⟨pl,h1,h2.mono (zP.le_refl _) (Inj.le_refl _) (fun k hk=>h k (hm.qY hb (Inj.v7 h1 hk))) (fun _ _ _ h _ _=>h),h3⟩
def zx1{f:FuncId}(hS:zCh P f){x:Cl}{res:AV}{M':Mem}(h:zzr x M=some (res,M'))(hag:zM σ w)(hm:MR own σ j M w){v:Value}(hx:VC σ j x v):Calls P f #[v] w (Ret own σ j M w res M'):=by
 unfold zzr at h;split at h
 ·cases h;cases hx;refine Calls.yf (hS.none none 0 w) ?_;rintro e w' ⟨rfl,rfl⟩;exact⟨.tuple #[],σ,j,rfl,⟨#[],rfl,zac.nil⟩,hag,hm,za2.refl⟩
 ·rename_i id g es off len cap;split at h
  ·rename_i h0;subst h0;cases h;cases hx with
   |slice _ _ _ _ _ _ _ pl ad c hj hl yY ha =>
    refine Calls.yf (hS.none ad c w) ?_;rintro e w' ⟨rfl,rfl⟩;exact⟨.tuple #[],σ,j,rfl,⟨#[],rfl,zac.nil⟩,hag,hm,za2.refl⟩
  ·rename_i h0;split at h
   ·rename_i b hb0;obtain⟨hbk,Bb⟩:=zaz hb0;subst Bb;split at h
    ·rename_i hc;simp only[jk,qm,decide_eq_true_eq,beq_iff_eq]at hc;obtain⟨⟨⟨⟨vD,hfz⟩,AZ⟩,AY⟩,Bf⟩:=hc;split at h
     ·rename_i zs hzs;cases h;have hz:=zsz hzs;have hzl:zs.length=len:=by
       have:=congrArg List.length hz;simp[zgv]at this;omega
      cases hx with
      |slice _ _ _ _ _ _ _ pl ad c hj hl yY ha =>
       obtain⟨L,rfl,_,rfl,hf2⟩:=ha wA;obtain⟨pl',yW,hbr,hown⟩:=hm.blk id b hbk;rw[hj]at yW;cases yW;have hbr:BL σ j b L w:=hbr;obtain⟨C,T,hC,hsz,hrow⟩:=hbr.heap;have hes:=hbr.esz;have hLe:L.esz=1:=by rw[hes,AY]
       have BP:=hbr.fit;have hlt:L.blk<w.heap.size:=(jV.1 hC).1;rw[AY]at BP;rw[hLe,AG]at hf2 ⊢;have hold:Go.Sort.Holds (Value.int .i64) w L.blk (L.off+off) zs.toArray:=by
        intro i hi;have hi':i<zs.length:=by simpa using hi
        have hri:b.rows[off+i]?=some [.int .i64 zs[i]]:=by
         have h1:((b.rows.drop off).take len)[i]?=(zgv zs)[i]?:=by rw[hz]
         rw[kd wA,qP]at h1;rw[h1];simp[zgv,hi']
        obtain⟨v,hv1,hv2⟩:=hrow (off+i) _ 0 (.int .i64 zs[i]) hri rfl;rw[if_neg (by simp[vD])]at hv2;cases hv2;refine⟨?_,by simp[World.frozen?,hC]⟩;simp only[World.cell?,hC,kQ,jI,if_false];rw[AY]at hv1;rw[show L.off+off+i=L.off+(off+i)*1+0 by omega,hv1];simp[hi']
       subst hzl;refine Calls.yf (hS.some L.blk (L.off+off) c zs w hold hlt Bf) ?_;rintro e w' ⟨rfl,n,os,rfl⟩;rw[zuM];generalize hC':Go.Sort.putCells (Value.int .i64) (L.off+off) (zfI zs).toArray C=C';have BU:C'.size=C.size:=by rw[<-hC'];simp[Go.Sort.putCells]
       have vL:∀p,C'[p]?=if L.off+off<=p/\p<L.off+off+zs.length then(if p<C.size then some (Value.int .i64 ((zfI zs).toArray[p-(L.off+off)]!)) else none) else C[p]?:=by
        intro p;rw[<-hC'];simp only[Go.Sort.putCells,Array.getElem?_mapIdx,uX,zsM];by_cases hp:p<C.size
        ·rw[vt hp];simp only[qX,hp,if_true];split<;>rfl
        ·rw[qu wA];simp[hp]
       have hb1:(Go.Sort.grow (Go.Sort.putRow (Value.int .i64) (Go.Sort.ahead w n) L.blk (L.off+off) (zfI zs).toArray) os).heap[L.blk]?=some (.cells C' T (0,0)):=by
        rw[Go.Sort.grow];simp only;rw[k9 (by simpa using hlt)];simp[Go.Sort.putRow,Go.Sort.mapBlock,Go.Sort.ahead,uW,hC,Go.Sort.onCells,hC']
       have hb2:∀k,k<w.heap.size->k≠L.blk->(Go.Sort.grow (Go.Sort.putRow (Value.int .i64) (Go.Sort.ahead w n) L.blk (L.off+off) (zfI zs).toArray) os).heap[k]?=w.heap[k]?:=by
        intro k hk hne;rw[Go.Sort.grow];simp only;rw[k9 (by simpa using hk)];simp[Go.Sort.putRow,Go.Sort.mapBlock,Go.Sort.ahead,uW,fun e=>hne (Eq.symm e),ko hne]
       have BJ:w.heap.size<=(Go.Sort.grow (Go.Sort.putRow (Value.int .i64) (Go.Sort.ahead w n) L.blk (L.off+off) (zfI zs).toArray) os).heap.size:=by simp[Go.Sort.grow]
       have hos:(Go.Sort.grow (Go.Sort.putRow (Value.int .i64) (Go.Sort.ahead w n) L.blk (L.off+off) (zfI zs).toArray) os).os=w.os:=rfl;have Bl:(Go.Sort.grow (Go.Sort.putRow (Value.int .i64) (Go.Sort.ahead w n) L.blk (L.off+off) (zfI zs).toArray) os).output=w.output:=rfl;have Ci:(Go.Sort.grow (Go.Sort.putRow (Value.int .i64) (Go.Sort.ahead w n) L.blk (L.off+off) (zfI zs).toArray) os).tape=w.tape:=rfl;have hdrn:w.drawn<=(Go.Sort.grow (Go.Sort.putRow (Value.int .i64) (Go.Sort.ahead w n) L.blk (L.off+off) (zfI zs).toArray) os).drawn:=uE _ _;generalize Go.Sort.grow (Go.Sort.putRow (Value.int .i64) (Go.Sort.ahead w n) L.blk (L.off+off) (zfI zs).toArray) os=w' at hb1 hb2 BJ hos Bl Ci hdrn;generalize AW:b.rows.take off++zgv (zfI zs)++b.rows.drop (off+zs.length)=vR;have hsl:=zsM zs;have hrl:vR.length=b.rows.length:=by rw[<-AW];simp[zgv];omega
       have AB:∀i,vR[i]?=if i<off then b.rows[i]? else if i<off+zs.length then(zgv (zfI zs))[i-off]? else b.rows[i]?:=by
        intro i;have:=zdb b.rows (zgv (zfI zs)) off (by simp[zgv];omega) i;simp only[zgv,kl,hsl]at this;rw[<-AW,zgv,this]
       have hagc:∀b' o v,σ b' o=some v->w'.cell? ⟨b',o,none⟩=some v:=by
        intro b' o v hv';have hold:=hag.cells b' o v hv';by_cases hbb:b'=L.blk
        ·subst hbb;have hlo:o<L.off:=by
          rcases qG o L.off with h|h
          ·exact h
          ·have:=hbr.A5 o h (fun hh=>by grind)
           grind
         simp only[World.cell?,hC,kQ,jI,if_false]at hold;simp only[World.cell?,hb1,kQ,jI,if_false]
         grind
        grind [World.cell?]
       have hbl:BL σ j { b with rows:=vR,ver:=b.ver+1 } L w':=by
        refine⟨hes,hbr.pos,fun r hr'=>?_,by simpa [hrl,AY]using BP,⟨C',T,hb1,by grind,fun i' r n cl hi' hn=>?_⟩,fun o h1 h2=>hbr.A5 o h1 (fun h=>by grind)⟩
        ·obtain⟨q,hq⟩:=j7 hr';rw[AB]at hq;split at hq
         ·exact hbr.len r (zat hq)
         ·split at hq
          ·have:=zat hq;simp only[zgv,jW]at this
           grind
          ·exact hbr.len r (zat hq)
        ·simp only at hi' ⊢;simp only[vD,jI,if_false];have hnl:=zC hn;rw[AB]at hi';rw[vL,AY,AG];by_cases h1:i'<off
         ·rw[if_pos h1]at hi';obtain⟨v,hv1,hv2⟩:=hrow i' r n cl hi' hn;rw[if_neg (by grind)]at hv2;have Dd:=hbr.len r (zat hi')
          grind
         ·rw[if_neg h1]at hi';by_cases h2:i'<off+zs.length
          ·rw[if_pos h2]at hi';have hk:i'-off<(zfI zs).length:=wA
           simp only[zgv,kO,jq hk,qX,ji]at hi';subst hi';obtain rfl:n=0:=by simp at hnl;omega
           cases hn;refine⟨.int .i64 (zfI zs)[i'-off],?_,.int _ _ _⟩;rw[if_pos wA,if_pos wA];have e1:L.off+i'+0-(L.off+off)=i'-off:=wA
           rw[e1];simp[hk]
          ·rw[if_neg h2]at hi';obtain⟨v,hv1,hv2⟩:=hrow i' r n cl hi' hn;rw[if_neg (by simp[vD])]at hv2;have Dd:=hbr.len r (zat hi');rw[AY]at Dd hv1;rw[AG]at hv1;exact⟨v,by rw[if_neg wA];exact hv1,hv2⟩
       refine⟨.tuple #[],σ,j,rfl,⟨#[],rfl,zac.nil⟩,⟨hagc,hag.kZ⟩,?_,?_⟩
       ·
        have hw1:∀k,k≠L.blk->({ w' with heap:=(w'.heap.extract 0 w.heap.size) }:World).heap[k]?=w.heap[k]?:=by
         intro k hne;rcases qG k w.heap.size with hk|hk
         ·simp only[qt];rw[if_pos wA,jJ];exact hb2 k hk hne
         ·rw[qu (by simp;omega),qu hk]
        have hbl1:BL σ j { b with rows:=vR,ver:=b.ver+1 } L ({ w' with heap:=(w'.heap.extract 0 w.heap.size) }:World):=by
         obtain⟨a1,a2,a3,a4,⟨C2,T2,q1,q2,q3⟩,a6⟩:=hbl;refine⟨a1,a2,a3,a4,⟨C2,T2,?_,q2,q3⟩,a6⟩;simp only[qt];rw[if_pos wA,jJ];exact q1
        refine(hm.write hbk hj (b':={ b with rows:=vR,ver:=b.ver+1 }) rfl hw1 hbl1).more fun k hk=>?_
        simp only[Array.size_extract]at hk;simp only[qt];rw[if_pos wA,jJ]
       ·refine⟨zP.le_refl _,fun _ _ _ _ h=>h,BJ,fun b' hb' ho=>?_,fun _ _ _ h=>.inl h,fun id' b' hid hb'=>?_,⟨hos,Bl,Ci,fun _=>hdrn⟩⟩
        ·exact hb2 b' hb' (fun e=>ho (e ▸ hown L rfl))
        ·by_cases yI:id=id'
         ·subst yI;rw[hbk]at hb';cases hb';exact⟨_,by simp[hid];rfl,wD,fun h=>by simp at h⟩
         ·refine⟨b',by rw[jz yI];exact hb',jm _,fun _=>⟨rfl,fun L' hL'=>?_⟩⟩;exact hb2 _ (hm.qY hb' hL') (fun e=>yI (hm.vz id id' b b' L' hbk hb' (by rw[e];exact Inj.vI hj) hL'))
     grind
    grind
   grind
 grind
def zsA(k key:Nat):∀{r:List Cl} {l:List Int} (i:Nat),zuC k key i r=some l->r.length=l.length/\∀n,n<l.length->r[n]?=some (zjS (zgk k key (i+n)) (l.getD n 0))
 |[],l,i,h=>by simp[zuC]at h;subst h;exact⟨rfl,fun n hn=>by simp at hn⟩
 |c::r,l,i,h=>by
  have key1:∀(z:Int) (l':List Int),zjS (zgk k key i) z=c->zuC k key (i+1) r=some l'->(c::r).length=(z::l').length/\∀n,n<(z::l').length->(c::r)[n]?=some (zjS (zgk k key (i+n)) ((z::l').getD n 0)):=by
   intro z l' hc hr;obtain⟨h1,h2⟩:=zsA k key (i+1) hr
   grind
  unfold zuC at h;split at h
  ·split at h
   ·grind
   ·simp only[ja]at h
    grind [zjS]
  ·split at h
   ·rename_i b hk;simp only[ja]at h;obtain⟨l',h1,rfl⟩:=h;exact key1 _ _ (by cases b<;>simp[zjS,hk]) h1
   grind
  grind
def zsy(k key:Nat):∀{rs:List (List Cl)} {zs:List (List Int)},zv2 k key rs=some zs->rs.length=zs.length/\∀(i:Nat) (hi:i<zs.length),∃r,rs[i]?=some r/\r.length=zs[i].length/\∀n,n<zs[i].length->r[n]?=some (zjS (zgk k key n) (zs[i].getD n 0))
 |[],zs,h=>by simp[zv2]at h;subst h;exact⟨rfl,fun i hi=>by simp at hi⟩
 |r::rs,zs,h=>by
  unfold zv2 at h;split at h
  ·rename_i x xs h1 h2;obtain⟨g1,g2⟩:=zsA k key 0 h1;obtain⟨g3,g4⟩:=zsy k key h2
   grind
  grind
def vZ(b:Bool)(z:Int):Value:=if b then .bool (z !=0) else .int .i64 z
def zAB{σ:zP}{j:Inj}{b:Bool}{z:Int}{v:Value}(h:VC σ j (zjS b z) v):v=vZ b z:=by
 cases b with
 |true=>cases h;rfl
 |false=>cases h;rfl
def zDe(σ:zP)(j:Inj)(b:Bool)(z:Int):VC σ j (zjS b z) (vZ b z):=by
 cases b with
 |true=>exact .bool _ _
 |false=>exact .int _ _ _
def zzi(b:Bool)(z:Int):(vZ b z).oneCell'=true:=by cases b<;>rfl
def ziq(k key:Nat)(l:List Int):List Value:=(List.range k).map fun i=>vZ (zgk k key i) (l.getD i 0)
def zfg(k key:Nat)(zs:List (List Int)):List Value:=zs.flatMap (ziq k key)
def zoV(k key:Nat):∀(zs:List (List Int)),(zfg k key zs).length=zs.length*k
 |[]=>by simp[zfg]
 |z::zs=>by
  have:=zoV k key zs
  grind [zfg,List.length_append,List.length_cons,ziq,Nat.succ_mul]
def zmK(k key:Nat):∀(zs:List (List Int)) (i n:Nat) (hi:i<zs.length),n<k->(zfg k key zs)[i*k+n]?=some (vZ (zgk k key n) (zs[i].getD n 0))
 |z::zs,0,n,hi,hn=>by
  simp_all [zfg,kG,Nat.zero_mul,jJ,jo,ziq]
 |z::zs,i+1,n,hi,hn=>by
  have hl:(ziq k key z).length=k:=by simp[ziq]
  have:=zmK k key zs i n (by grind) hn
  grind [zfg,List.getElem?_append_right,Nat.succ_mul]
structure zut(P:Program)(f g k key:Nat):Prop where
 fn:∃fn,P.funcs[f]?=some fn/\fn.body.isNone=false/\(fn.name == "runtime.NumGoroutine")=false
 pos:0<k
 none:∀(p:Option Addr) (cap:Nat) (w:World),Calls P f #[.slice p 0 cap,.func (.func g) #[] #[]] w fun e w'=>e=.returned (.tuple #[])/\w'=w
 some:∀(blk off cap:Nat) (zs:List (List Int)) (w:World),Go.Sort.Holds id w blk off (zfg k key zs).toArray->blk<w.heap.size->zs.length<4611686018427387904 ->
  Calls P f #[.slice (.some ⟨blk,off,.none⟩) zs.length cap,.func (.func g) #[] #[]] w fun e w'=>e=.returned (.tuple #[])/\∃n os,w'=Go.Sort.grow (Go.Sort.putRow id (Go.Sort.ahead w n) blk off (zfg k key (ziS k key zs)).toArray) os
structure Zqq(P:Program)(f g:Nat):Prop where
 fn:∃fn,P.funcs[f]?=some fn/\fn.body.isNone=false/\(fn.name == "runtime.NumGoroutine")=false
 keys:∃T,∀(B m clock:Nat) (es:Array MapEntry) (ks:List Int) (w:World),w.cell? ⟨B,0,none⟩=some (.map (some m))->w.heap[m]?=some (.map es clock)->Go.MapKept.Stamped es clock->es.toList.map (·.key)=ks.map (Value.int .i64) ->
  (∀k∈ks,-9223372036854775808<=k/\k<9223372036854775808)->ks.length<=1000000 ->
  Calls P f #[.func (.func g) #[] #[.pointer (some ⟨B,0,none⟩)]] w fun e w'=>∃v,e=.returned v/\w'.ownsRow w.heap.size T 1 v ks.length ((zfI ks).map (Value.int .i64))/\Go.RowKit.Below w.heap.size w w'
structure ZqC(P:Program)(f:Nat):Prop where
 fn:∃fn,P.funcs[f]?=some fn/\fn.body.isNone=false/\(fn.name == "runtime.NumGoroutine")=false
 clone:∀(b:Nat) (es:Array MapEntry) (clock:Nat) (w:World),w.heap[b]?=some (.map es clock)->Calls P f #[.map (some b)] w fun e w'=>e=.returned (.map (some w.heap.size))/\w'=w.alloc (.map es clock)
def zqh(P:Program)(c:Nat×Nat×Nat×Bool):Prop:=(c.2.2.1=0->zCh P c.1)/\(c.2.2.1 % 64=1->Zqq P c.1 (c.2.2.1 / 64))/\(c.2.2.1 % 64=2->ZqC P c.1)/\(8<=c.2.2.1 % 64->zut P c.1 (c.2.2.1 / 64) (c.2.2.1 / 8 % 8) (c.2.2.1 % 8))
def zwi{f g k key:Nat}(hS:zut P f g k key){x:Cl}{res:AV}{M':Mem}(h:zqs k key x M=some (res,M'))(hag:zM σ w)(hm:MR own σ j M w){v:Value}(hx:VC σ j x v):Calls P f #[v,.func (.func g) #[] #[]] w (Ret own σ j M w res M'):=by
 unfold zqs at h;split at h
 ·cases h;cases hx;refine Calls.yf (hS.none none 0 w) ?_;rintro e w' ⟨rfl,rfl⟩;exact⟨.tuple #[],σ,j,rfl,⟨#[],rfl,zac.nil⟩,hag,hm,za2.refl⟩
 ·rename_i id0 gg es off len cap;split at h
  ·rename_i h0;subst h0;cases h;cases hx with
   |slice _ _ _ _ _ _ _ pl ad c hj hl yY ha =>
    refine Calls.yf (hS.none ad c w) ?_;rintro e w' ⟨rfl,rfl⟩;exact⟨.tuple #[],σ,j,rfl,⟨#[],rfl,zac.nil⟩,hag,hm,za2.refl⟩
  ·rename_i h0;split at h
   ·rename_i b hb0;obtain⟨hbk,Bb⟩:=zaz hb0;subst Bb;split at h
    ·rename_i hc;simp only[jk,qm,decide_eq_true_eq,beq_iff_eq]at hc;obtain⟨⟨⟨⟨vD,hfz⟩,AZ⟩,AY⟩,Bf⟩:=hc;split at h
     ·rename_i zs hzs;cases h;obtain⟨hz0,hz⟩:=zsy k key hzs;have hzl:zs.length=len:=by
       grind
      cases hx with
      |slice _ _ _ _ _ _ _ pl ad c hj hl yY ha =>
       obtain⟨L,rfl,_,rfl,hf2⟩:=ha wA;obtain⟨pl',yW,hbr,hown⟩:=hm.blk id0 b hbk;rw[hj]at yW;cases yW;have hbr:BL σ j b L w:=hbr;obtain⟨C,T,hC,hsz,hrow⟩:=hbr.heap;have hes:=hbr.esz;have uo:=hS.pos;have hLe:L.esz=k:=by grind
       have BP:=hbr.fit;have hlt:L.blk<w.heap.size:=(jV.1 hC).1;rw[AY]at BP;rw[hLe]at hf2 ⊢;have hF:∀zz:List (List Int),(zfg k key zz).toArray.size=zz.length*k:=fun zz=>by simp[zoV]
       have hmul:(off+zs.length)*k<=b.rows.length*k:=kh _ wA;have hadd:(off+zs.length)*k=off*k+zs.length*k:=qi _ _ _;have hri:∀i (hi:i<zs.length),∃r,b.rows[off+i]?=some r/\r.length=zs[i].length/\∀n,n<zs[i].length->r[n]?=some (zjS (zgk k key n) (zs[i].getD n 0)):=by
        grind
       have hzk:∀i (hi:i<zs.length),(zs[i]).length=k:=by
        intro i hi;obtain⟨r,h1,h2,_⟩:=hri i hi;have:=hbr.len _ (zat h1)
        grind
       have hold:Go.Sort.Holds id w L.blk (L.off+off*k) (zfg k key zs).toArray:=by
        intro t ht;rw[hF]at ht;have hq:t / k<zs.length:=Nat.div_lt_of_lt_mul (by grind);have hm':t % k<k:=qF _ uo;have et:t=t / k*k+t % k:=by grind [Nat.mul_comm,Nat.div_add_mod]
        have hg:=zmK k key zs (t / k) (t % k) hq hm';rw[<-et]at hg;have hzl':=hzk _ hq;obtain⟨r0,hr0,hr1,hr2⟩:=hri _ hq;obtain⟨v,hv1,hv2⟩:=hrow (off+t / k) _ (t % k) (zjS (zgk k key (t % k)) ((zs[t / k]).getD (t % k) 0)) hr0 (hr2 _ (by rw[hzl'];exact hm'));rw[if_neg (by simp[vD])]at hv2;have hv2:=zAB hv2;subst hv2;refine⟨?_,by simp[World.frozen?,hC]⟩;simp only[World.cell?,hC,kQ,jI,if_false]
        grind
       subst hzl;refine Calls.yf (hS.some L.blk (L.off+off*k) c zs w hold hlt Bf) ?_;rintro e w' ⟨rfl,n,os,rfl⟩;have hsl:=zx2 k key zs;generalize hZ:ziS k key zs=zz at hsl;generalize hC':Go.Sort.putCells id (L.off+off*k) (zfg k key zz).toArray C=C';have BU:C'.size=C.size:=by rw[<-hC'];simp[Go.Sort.putCells]
       have vL:∀p,C'[p]?=if L.off+off*k<=p/\p<L.off+off*k+zs.length*k then(if p<C.size then some ((zfg k key zz).toArray[p-(L.off+off*k)]!) else none) else C[p]?:=by
        intro p;rw[<-hC'];simp only[Go.Sort.putCells,Array.getElem?_mapIdx,hF,hsl];by_cases hp:p<C.size
        ·rw[vt hp];simp only[qX,hp,if_true];split<;>rfl
        ·rw[qu wA];simp[hp]
       have hb1:(Go.Sort.grow (Go.Sort.putRow id (Go.Sort.ahead w n) L.blk (L.off+off*k) (zfg k key zz).toArray) os).heap[L.blk]?=some (.cells C' T (0,0)):=by
        rw[Go.Sort.grow];simp only;rw[k9 (by simpa using hlt)];simp[Go.Sort.putRow,Go.Sort.mapBlock,Go.Sort.ahead,uW,hC,Go.Sort.onCells,hC']
       have hb2:∀q,q<w.heap.size->q≠L.blk->(Go.Sort.grow (Go.Sort.putRow id (Go.Sort.ahead w n) L.blk (L.off+off*k) (zfg k key zz).toArray) os).heap[q]?=w.heap[q]?:=by
        intro q hk hne;rw[Go.Sort.grow];simp only;rw[k9 (by simpa using hk)];simp[Go.Sort.putRow,Go.Sort.mapBlock,Go.Sort.ahead,uW,fun e=>hne (Eq.symm e),ko hne]
       have BJ:w.heap.size<=(Go.Sort.grow (Go.Sort.putRow id (Go.Sort.ahead w n) L.blk (L.off+off*k) (zfg k key zz).toArray) os).heap.size:=by simp[Go.Sort.grow]
       have hos:(Go.Sort.grow (Go.Sort.putRow id (Go.Sort.ahead w n) L.blk (L.off+off*k) (zfg k key zz).toArray) os).os=w.os:=rfl;have Bl:(Go.Sort.grow (Go.Sort.putRow id (Go.Sort.ahead w n) L.blk (L.off+off*k) (zfg k key zz).toArray) os).output=w.output:=rfl;have Ci:(Go.Sort.grow (Go.Sort.putRow id (Go.Sort.ahead w n) L.blk (L.off+off*k) (zfg k key zz).toArray) os).tape=w.tape:=rfl;have hdrn:w.drawn<=(Go.Sort.grow (Go.Sort.putRow id (Go.Sort.ahead w n) L.blk (L.off+off*k) (zfg k key zz).toArray) os).drawn:=uE _ _;generalize Go.Sort.grow (Go.Sort.putRow id (Go.Sort.ahead w n) L.blk (L.off+off*k) (zfg k key zz).toArray) os=w' at hb1 hb2 BJ hos Bl Ci hdrn;generalize AW:b.rows.take off++zz.map (zsl k key)++b.rows.drop (off+zs.length)=vR;have hrl:vR.length=b.rows.length:=by rw[<-AW];simp;omega
       have AB:∀i,vR[i]?=if i<off then b.rows[i]? else if i<off+zs.length then(zz.map (zsl k key))[i-off]? else b.rows[i]?:=by
        intro i;have:=zdb b.rows (zz.map (zsl k key)) off (by simp;omega) i;simp only[kl,hsl]at this;rw[<-AW,this]
       have hagc:∀b' o v,σ b' o=some v->w'.cell? ⟨b',o,none⟩=some v:=by
        intro b' o v hv';have hold:=hag.cells b' o v hv';by_cases hbb:b'=L.blk
        ·subst hbb;have hlo:o<L.off:=by
          rcases qG o L.off with h|h
          ·exact h
          ·have:=hbr.A5 o h (fun hh=>by rw[hfz]at hh;cases hh);rw[this]at hv';cases hv'
         simp only[World.cell?,hC,kQ,jI,if_false]at hold;simp only[World.cell?,hb1,kQ,jI,if_false];rw[vL,if_neg wA];exact hold
        ·have:=hb2 b' (hag.lt hv') hbb;simpa [World.cell?,this]using hold
       have hbl:BL σ j { b with rows:=vR,ver:=b.ver+1 } L w':=by
        refine⟨hes,hbr.pos,fun r hr'=>?_,by simpa [hrl,AY]using BP,⟨C',T,hb1,by rw[BU,hsz],fun i' r n cl hi' hn=>?_⟩,fun o h1 h2=>hbr.A5 o h1 (fun h=>by rw[hfz]at h;cases h)⟩
        ·obtain⟨q,hq⟩:=j7 hr';rw[AB]at hq;split at hq
         ·exact hbr.len r (zat hq)
         ·split at hq
          ·have:=zat hq;simp only[jW]at this;obtain⟨_,_,rfl⟩:=this;simp[zsl,AY]
          ·exact hbr.len r (zat hq)
        ·simp only at hi' ⊢;simp only[vD,jI,if_false];have hnl:=zC hn;rw[AB]at hi';rw[vL,AY];by_cases h1:i'<off
         ·rw[if_pos h1]at hi';obtain⟨v,hv1,hv2⟩:=hrow i' r n cl hi' hn;rw[if_neg (by simp[vD])]at hv2;have Dd:=hbr.len r (zat hi');rw[AY]at Dd hv1;have:(i'+1)*k<=off*k:=kh _ h1;rw[qZ]at this;exact⟨v,by rw[if_neg wA];exact hv1,hv2⟩
         ·rw[if_neg h1]at hi';by_cases h2:i'<off+zs.length
          ·rw[if_pos h2]at hi';have hk:i'-off<zz.length:=wA
           simp only[kO,jq hk,qX,ji]at hi';subst hi';have hnk:n<k:=by simpa [zsl]using hnl
           have ecl:cl=zjS (zgk k key n) ((zz[i'-off]).getD n 0):=by
            simp[zsl,hnk]at hn;simpa using hn.symm
           subst ecl;refine⟨vZ (zgk k key n) ((zz[i'-off]).getD n 0),?_,zDe _ _ _ _⟩;have hg:=zmK k key zz (i'-off) n hk hnk;have e0:i'=off+(i'-off):=wA
           have e1:i'*k=off*k+(i'-off)*k:=by rw[<-qi,<-e0]
           have e2:(i'-off+1)*k<=zs.length*k:=kh _ wA;rw[qZ]at e2;have e3:(i'+1)*k<=b.rows.length*k:=kh _ wA;rw[qZ]at e3;rw[if_pos wA,if_pos wA];rw[show L.off+i'*k+n-(L.off+off*k)=(i'-off)*k+n by omega,getElem!_def,ul,hg]
          ·rw[if_neg h2]at hi';obtain⟨v,hv1,hv2⟩:=hrow i' r n cl hi' hn;rw[if_neg (by simp[vD])]at hv2;have Dd:=hbr.len r (zat hi');rw[AY]at Dd hv1;have:(off+zs.length)*k<=i'*k:=kh _ wA;exact⟨v,by rw[if_neg wA];exact hv1,hv2⟩
       refine⟨.tuple #[],σ,j,rfl,⟨#[],rfl,zac.nil⟩,⟨hagc,hag.kZ⟩,?_,?_⟩
       ·
        have hw1:∀k,k≠L.blk->({ w' with heap:=(w'.heap.extract 0 w.heap.size) }:World).heap[k]?=w.heap[k]?:=by
         intro k hne;rcases qG k w.heap.size with hk|hk
         ·simp only[qt];rw[if_pos wA,jJ];exact hb2 k hk hne
         ·rw[qu (by simp;omega),qu hk]
        have hbl1:BL σ j { b with rows:=vR,ver:=b.ver+1 } L ({ w' with heap:=(w'.heap.extract 0 w.heap.size) }:World):=by
         obtain⟨a1,a2,a3,a4,⟨C2,T2,q1,q2,q3⟩,a6⟩:=hbl;refine⟨a1,a2,a3,a4,⟨C2,T2,?_,q2,q3⟩,a6⟩;simp only[qt];rw[if_pos wA,jJ];exact q1
        refine(hm.write hbk hj (b':={ b with rows:=vR,ver:=b.ver+1 }) rfl hw1 hbl1).more fun k hk=>?_
        simp only[Array.size_extract]at hk;simp only[qt];rw[if_pos wA,jJ]
       ·refine⟨zP.le_refl _,fun _ _ _ _ h=>h,BJ,fun b' hb' ho=>?_,fun _ _ _ h=>.inl h,fun id' b' hid hb'=>?_,⟨hos,Bl,Ci,fun _=>hdrn⟩⟩
        ·exact hb2 b' hb' (fun e=>ho (e ▸ hown L rfl))
        ·by_cases yI:id0=id'
         ·subst yI;rw[hbk]at hb';cases hb';exact⟨_,by simp[hid];rfl,wD,fun h=>by simp at h⟩
         ·refine⟨b',by rw[jz yI];exact hb',jm _,fun _=>⟨rfl,fun L' hL'=>?_⟩⟩;exact hb2 _ (hm.qY hb' hL') (fun e=>yI (hm.vz id0 id' b b' L' hbk hb' (by rw[e];exact Inj.vI hj) hL'))
     grind
    grind
   grind
 grind
def Zpd{M:Mem}{id:Nat}{b:Blk}{c:Int}{R:List (List Cl)}(h:zi4 M id=some (b,c,R)):M[id]?=some (some b)/\b.gen=0/\b.rows=[.int .i64 c]::R:=by
 grind [zi4,zaz]
def Zo6:∀{R:List (List Cl)} {ks:List (Int×Int)},Zo0 R=some ks->R.length=ks.length/\∀(i:Nat) (p:Int×Int),ks[i]?=some p->∃vc,R[i]?=some (.int .i64 p.1::.int .i64 p.2::vc)
 |[],ks,h=>by simp[Zo0]at h;subst h;exact⟨rfl,fun i p hp=>by simp at hp⟩
 |r::R,ks,h=>by
  unfold Zo0 at h;split at h
  ·grind
  ·obtain⟨l,hl,rfl⟩:=ja.1 h;obtain⟨h1,h2⟩:=Zo6 hl
   grind
  grind
theorem ZpP{f g:Nat}(hS:Zqq P f g)(hA:¬zb0.asc){x:Cl}{res:AV}{M':Mem}(h:ZpA g x M=some (res,M'))(hown:∀b,w.heap.size<=b->own b)(hag:zM σ w)(hm:MR own σ j M w){v:Value}(hx:VC σ j x v):Calls P f #[v] w (Ret own σ j M w res M'):=by
 unfold ZpA at h;split at h
 ·rename_i g' id;split at h
  ·rename_i b hb0;obtain⟨hbk,Bb⟩:=zaz hb0;split at h
   ·rename_i m gg vl;split at h
    ·rename_i bm c R hmap;split at h
     ·rename_i ks hks;split at h
      ·rename_i hc;cases h;obtain⟨rfl,vD,hlen,ve,hn1,hn2⟩:=hc;obtain⟨hR,hrow⟩:=Zo6 hks;have hM:=Zpd hmap;obtain⟨hmk,hmg,hmr⟩:=hM;cases hx with
       |fn _ _ _ _ fi' ca' l1 l2 q1 q2 =>
       have e1:fi' = #[]:=uH (by simpa using l1.symm);subst e1;obtain⟨u,hu⟩:∃u,ca' = #[u]:=by
        rcases ca' with⟨l⟩
        match l,l2 with
        |[u],_=>exact⟨u,rfl⟩
       subst hu;have hu:=q2 0 _ u rfl rfl;cases hu with
       |ptr _ _ _ _ _ L hj =>
       have CG:L.off=0:=hm.okP _ _ _ hj rfl;obtain⟨pl',yW,hbr,_⟩:=hm.blk id b hbk;rw[<-Bb,hj]at yW;cases yW;have hbr:BL σ j b L w:=hbr;obtain⟨C,T0,hC,hsz,hcell⟩:=hbr.heap;obtain⟨u,hu1,hu2⟩:=hcell 0 [.map m gg] 0 (.map m gg) (by rw[vl];rfl) rfl;rw[vD,if_pos rfl]at hu2;cases hu2 with
       |map _ _ _ l hjm =>
       obtain⟨plm,hplm,hbm,_⟩:=hm.vF m bm hmk;rw[hmg,hjm]at hplm;cases hplm;have hbm:MB σ j bm l gg w:=hbm;obtain⟨es,clock,R',hl,hr',Aq,hent⟩:=hbm.st;rw[hmr]at hr';simp only[As,Cl.int.injEq,true_and,and_true]at hr';obtain⟨rfl,rfl⟩:=hr';have hkeys:es.toList.map (·.key)=(ks.map (·.2)).map (Value.int .i64)/\es.toList.map (fun e=>(e.born:Int))=ks.map (·.1):=by
        have hle:es.toList.length=ks.length:=by rw[<-Aq,hR]
        have hi:∀i (h1:i<es.toList.length) (h2:i<ks.length),es.toList[i].key=.int .i64 ks[i].2/\(es.toList[i].born:Int)=ks[i].1:=fun i h1 h2=>by
         obtain⟨vc,hv⟩:=hrow i ks[i] (by simp[h2]);obtain⟨k,n,vc',x,r1,r2,_⟩:=hent i _ es.toList[i] hv (by simp[h1]);simp only[As,Cl.int.injEq]at r1;obtain⟨⟨_,r1⟩,⟨rfl,rfl⟩,_⟩:=r1;exact⟨r2,r1.symm⟩
        constructor
        ·apply Ak
         ·simp[hle]
         ·intro i h1 h2;simp only[Aj];exact(hi i (by simpa using h1) (by simpa using h2)).1
        ·apply Ak
         ·simp[hle]
         ·intro i h1 h2;simp only[Aj];exact(hi i (by simpa using h1) (by simpa using h2)).2
       have hst:Go.MapKept.Stamped es clock:=by
        refine⟨fun e he=>?_,?_,?_⟩
        ·have:(e.born:Int)∈ks.map (·.1):=by rw[<-hkeys.2];exact qI he
         obtain⟨p,hp,hpe⟩:=jW.1 this;have:=of_decide_eq_true (jw.1 ve p hp);omega
        ·have h3:(es.toList.map fun e=>(e.born:Int)).Nodup:=by rw[hkeys.2];exact hn1
         have:(es.toList.map fun e=>(e.born:Int))=(es.toList.map (·.born)).map (fun n:Nat=>(n:Int)):=wD
         rw[this]at h3;exact List.Pairwise.of_map (R:=(·≠·)) (S:=(·≠·)) _ (fun a b hab e=>hab (by rw[e])) h3
        ·rw[hkeys.1];exact List.Pairwise.map _ (fun a b hab e=>hab (by cases e;rfl)) hn2
       obtain⟨T,hS⟩:=hS.keys;have hcl:w.cell? ⟨L.blk,0,none⟩=some (.map (some l)):=by
        have:C[0]?=some (.map (some l)):=by grind
        simp[World.cell?,hC,this]
       have qE:=hS L.blk l clock es (ks.map (·.2)) w hcl hl hst hkeys.1 (fun k hk=>by
        obtain⟨p,hp,rfl⟩:=jW.1 hk;exact(of_decide_eq_true (jw.1 ve p hp)).2) (by simpa using hlen)
       have ea:L.off+0*L.esz+0=0:=wA
       rw[ea];refine Calls.yf qE ?_;rintro e w' ⟨v,rfl,Dr,Dg⟩;have hslen:(zfI (ks.map (·.2))).length=ks.length:=by rw[zsM];simp
       generalize zfI (ks.map (·.2))=ss at *;simp only[kl]at Dr;rw[<-hslen]at Dr;have hold:∀k,k<w.heap.size->w'.heap[k]?=w.heap[k]?:=Dg.block;have BK:zd9 w w':=⟨Dg.os,Dg.output,Dg.tape,fun q=>absurd q hA⟩;rcases Dr.2 with⟨rfl,hz⟩ |⟨gb,cap,cur,rfl,AD,hgb,yY,_,hcs,htk⟩
       ·have hs0:ss=[]:=jN hz;subst hs0;refine⟨_,σ,j,rfl,VC.jb _ 1 [] none 0 0 0 (fun _ _=>default) (jm _) (.inl rfl) (fun _ h=>by cases h) (fun i row n cl hi=>by simp at hi) (fun i row n cl hi=>by simp at hi),hag.AM (fun b o v hv=>hold b (hag.lt hv)),hm.more hold,zP.le_refl _,fun _ _ _ _ h=>h,Dg.size,fun b hb _=>hold b hb,fun _ _ _ h=>.inl h,fun id b _ hb=>⟨b,hb,jm _,fun _=>⟨rfl,fun q hq=>hold q (hm.qY hb hq)⟩⟩,BK⟩
       ·have hgw:∀o v,σ gb o=some v->False:=fun o v hv=>by have:=hag.lt hv;omega
        have hcell:∀i (hi:i<ss.length),cur[i]?=some (.int .i64 ss[i]):=fun i hi=>by
         have h3:=congrArg (·[i]?) htk;simp only[AG,vO,hi,if_true,kO,jq hi,qX]at h3;simpa using h3
        let σ':zP:=fun b o=>if b=gb then(ss[o]?).map (Value.int .i64) else σ b o
        have hle:σ.le σ':=fun b o v hv=>by
         by_cases hb:b=gb
         ·subst hb;exact(hgw _ _ hv).elim
         ·simp only[σ',if_neg hb];exact hv
        have hgl:gb<w'.heap.size:=(jV.1 hgb).1;refine⟨_,σ',j,rfl,?_,⟨fun b o v hv=>?_,hag.kZ.mono hle⟩,⟨fun id b hb=>?_,hm.vz,hm.dom,hm.okP⟩,hle,fun _ _ _ _ h=>h,Dg.size,fun b hb _=>hold b hb,fun b o v hv=>?_,fun id b _ hb=>⟨b,hb,jm _,fun _=>⟨rfl,fun q hq=>hold q (hm.qY hb hq)⟩⟩,BK⟩
        ·have:=VC.jb (σ:=σ') j 1 (zgv ss) (some ⟨gb,0,none⟩) cap gb 0 (fun i _=>.int .i64 (ss.getD i 0)) (by simpa [zgv]using yY) (.inr rfl) (fun row hr=>by simp[zgv]at hr;obtain⟨_,_,rfl⟩:=hr;rfl) (fun i row n cl hi hn=>by
          simp only[zgv,kO,ja]at hi;obtain⟨z,hz,rfl⟩:=hi;obtain rfl:n=0:=by
           have:=zC hn;simp at this;omega
          simp[σ',hz]) (fun i row n cl hi hn=>by
          simp only[zgv,kO,ja]at hi;obtain⟨z,hz,rfl⟩:=hi;obtain rfl:n=0:=by
           grind
          simp at hn;subst hn;simp[hz];exact VC.int _ _ _)
         simpa [zgv,AVR,WVR]using this
        ·by_cases hb:b=gb
         ·subst hb;simp only[σ',if_true,ja]at hv;obtain⟨z,hz,rfl⟩:=hv;obtain⟨ho,rfl⟩:=jy.1 hz;simp[World.cell?,hgb,hcell o ho]
         ·simp only[σ',if_neg hb]at hv;have:=hag.cells b o v hv
          grind [World.cell?]
        ·obtain⟨pl,h1,h2,h3⟩:=hm.vF id b hb;refine⟨pl,h1,h2.mono hle (Inj.le_refl _) (fun k hk=>hold k (hm.qY hb (Inj.v7 h1 hk))) (fun L' e o hs _ _=>?_),h3⟩;subst e;have:L'.blk<w.heap.size:=hm.qY hb (Inj.vI h1)
         grind
        grind
      grind
     grind
    grind
   grind
  grind
 grind
theorem Zpy{f:Nat}(hS:ZqC P f){x:Cl}{res:AV}{M':Mem}(h:Zpq x M=some (res,M'))(hown:∀b,w.heap.size<=b->own b)(hag:zM σ w)(hm:MR own σ j M w){v:Value}(hx:VC σ j x v):Calls P f #[v] w (Ret own σ j M w res M'):=by
 unfold Zpq at h;split at h
 ·rename_i m g;split at h
  ·rename_i b c R hmap;cases h;obtain⟨hmk,hmg,hmr⟩:=Zpd hmap;cases hx with
   |map _ _ _ l hj =>
   obtain⟨pl,hpl,hb,_⟩:=hm.vF m b hmk;rw[hmg,hj]at hpl;cases hpl;obtain⟨es,clock,R',hl,hr',Aq,hent⟩:=hb.st;refine Calls.yf (hS.clone l es clock w hl) ?_;rintro e w' ⟨rfl,rfl⟩;have hm1:=hm.qC 1;have hn:zg (M++qC 1) M.length { b with ver:=0 }=some (M++[some { b with ver:=0 }]):=by
    simp[zg,qC]
   have u4:j M.length 0=none:=by
    cases hq:j M.length 0 with
    |none=>rfl
    |some pl =>
     obtain⟨b2,hb2,_⟩:=hm.dom _ _ _ hq
     grind
   have hbr:MB σ (j.put M.length 0 (.mp w.heap.size g)) { b with ver:=0 } w.heap.size g (w.alloc (.map es clock)):=by
    refine⟨hb.box,es,clock,R',by show(w.heap.push _)[w.heap.size]?=_;simp,hr',Aq,fun i row e hi he=>?_⟩;obtain⟨k,n,vc,x,q1,q2,q3,q4⟩:=hent i row e hi he;exact⟨k,n,vc,x,q1,q2,q3,q4.mono (zP.le_refl _) (Inj.An u4)⟩
   obtain⟨v,w2,σ',j',r1,r2,r3,r4,r5⟩:=zlY (o:=.map es clock) (pl:=.mp w.heap.size g) (v:=.map (some w.heap.size)) (c:=.map M.length g) hn hag hm1 hown hmg (by grind) rfl hbr (.map _ _ _ _ (Inj.uZ _ _ _ _));cases r1;exact⟨_,σ',j',rfl,r2,r3,r4,r5.Cd⟩
  grind
 grind
def zvt(AD:zb0.base=P.funcs.size)(u9:P.follows .mixedOrders=true){Cs:List (Nat×Nat×Nat×Bool)}(hC:∀c∈Cs,(c.2.1==0||zf2 P c.1 c.2.1 c.2.2.1)=true)(hS:∀c∈Cs,c.2.1=0->zqh P c)(hA:∀c∈Cs,c.2.1=0->c.2.2.1 % 64=1->¬zb0.asc):FnS P (uv Cs):=by
 intro f args M res M' h vC;unfold uv at h;split at h
 ·rename_i esz bytes frz hl;have Ac:(f,esz,bytes,frz)∈Cs:=by
   clear h hC hS hA;induction Cs with
   |nil=>grind
   |cons c Cs ih =>
    grind
  split at h
  ·rename_i x;split at h
   ·rename_i h0;split at h
    ·rename_i hb0;have hSf:=(hS _ Ac h0).1 hb0;obtain⟨fn,h1,h2,h3⟩:=hSf.fn;refine⟨fun _=>⟨fn,h1,h2,h3,fun own σ j w vs hown hag hm hvs=>?_⟩,fun hge=>by
      grind⟩
     obtain⟨v,vs',hv0,hv,hs⟩:=hvs.kP;have CD:=hs.vQ;subst CD;have:vs = #[v]:=qz (by grind);subst this;exact zx1 hSf h hag hm hv
    ·have one:∀{own:Nat->Prop} {σ:zP} {j:Inj} {w:World} {vs:Array Value},zac σ j [.c x] vs.toList->∃v,vs = #[v]/\VC σ j x v:=fun {own σ j w vs} hvs=>by
      obtain⟨v,vs',hv0,hv,hs⟩:=hvs.kP;have CD:=hs.vQ;subst CD;exact⟨v,qz (by grind),hv⟩
     split at h
     ·rename_i h1;have hSf:=(hS _ Ac h0).2.1 h1;obtain⟨fn,g1,g2,g3⟩:=hSf.fn;refine⟨fun _=>⟨fn,g1,g2,g3,fun own σ j w vs hown hag hm hvs=>?_⟩,fun hge=>by
       grind⟩
      obtain⟨v,rfl,hv⟩:=one (own:=own) (w:=w) hvs
      grind [ZpP]
     ·split at h
      ·rename_i h1;have hSf:=(hS _ Ac h0).2.2.1 h1;obtain⟨fn,g1,g2,g3⟩:=hSf.fn;refine⟨fun _=>⟨fn,g1,g2,g3,fun own σ j w vs hown hag hm hvs=>?_⟩,fun hge=>by
        grind⟩
       obtain⟨v,rfl,hv⟩:=one (own:=own) (w:=w) hvs
       grind [Zpy]
      grind
   ·rename_i h0;have hck:=hC _ Ac;have hck:zf2 P f esz bytes=true:=by grind
    obtain⟨fn,h1,h2,h3,_⟩:=zrt (own:=fun _=>True) (σ:=fun _ _=>none) (j:=zb1) (w:=default) (v:=default) u9 hck h;refine⟨fun _=>⟨fn,h1,h2,h3,fun own σ j w vs hown hag hm hvs=>?_⟩,fun hge=>by
     grind⟩
    obtain⟨v,vs',hv0,hv,hs⟩:=hvs.kP;have CD:=hs.vQ;subst CD;have:vs = #[v]:=qz (by grind);subst this;obtain⟨_,_,_,_,hc⟩:=zrt (own:=own) (σ:=σ) (j:=j) (w:=w) (v:=v) u9 hck h;exact hc hown hag hm hv
  ·rename_i x g;split at h
   ·rename_i h0;obtain⟨h0,h00,rfl⟩:=h0;have hSf:=(hS _ Ac h0).2.2.2 h00;obtain⟨fn,h1,h2,h3⟩:=hSf.fn;refine⟨fun _=>⟨fn,h1,h2,h3,fun own σ j w vs hown hag hm hvs=>?_⟩,fun hge=>by
     have:=(jV.1 h1).1;omega⟩
    obtain⟨v,vs',hv0,hv,hs⟩:=hvs.kP;obtain⟨u,vs'',hu0,hu,hs'⟩:=hs.kP;have CD:=hs'.vQ;subst CD;subst hu0;have hu:VC σ j (.fn (bytes / 64) [] []) u:=hu;cases hu with
    |fn _ f fi ca fi' ca' l1 l2 q1 q2 =>
     have e1:fi' = #[]:=uH (by simpa using l1.symm);have e2:ca' = #[]:=uH (by simpa using l2.symm);subst e1 e2;have:vs = #[v,.func (.func (bytes / 64)) #[] #[]]:=qz (by simpa using hv0);subst this;exact zwi hSf h hag hm hv
   grind
  grind
 grind
end
section
variable[zb0]
theorem MR.nil{own:Nat->Prop}{σ:zP}{w:World}:MR own σ zb1 [] w :=
 ⟨fun id b h=>by simp at h,fun id id' b b' k h=>by simp at h,fun id g pl h=>by simp[zb1]at h,fun id g pl h=>by simp[zb1]at h⟩
end
def zqU{α:Type}{f:Nat}{c:α}:∀{l:List (Nat×α)},l.lookup f=some c->(f,c)∈l
 |[],h=>by simp at h
 |(g,d)::l,h=>by
  rw[List.lookup_cons]at h;split at h
  ·rename_i hb;cases h;simp at hb;subst hb;exact js ..
  ·exact jE _ (zqU h)
def Zpp(Cs:List (Nat×Nat×Nat×Bool)):Prop:=∀c∈Cs,c.2.1=0->c.2.2.1 % 64≠1
@[reducible] def zww [G:GlobP](P:Program)(T:FuncId->Option CFn)(asc:Prop:=True):zb0:={ toGlobP:=G,asc,base:=P.funcs.size,okc:=fun v ps a b n=>P.funcs.size<=v/\zAN P T v ps a b n,le:=fun _ _ _ _ _ h=>h.1 }
variable[GlobP]
def zql(P:Program)(L:List (Nat×CFn)):Bool:=L.all fun p=>match P.funcs[p.1]? with
 |some fn=>match fn.body with
  |some b=>(List.range (zeV b)).all fun i=>(L.lookup (P.funcs.size+16*p.1+i)).isSome
  |none=>true
 |none=>true
def zk9{P:Program}{an:Ann}{L:List (Nat×CFn)}(h:(L.map fun p=>zcF P an true p.1)=L.map fun p=>some p.2){f:FuncId}{c:CFn}(hl:L.lookup f=some c):zcF P an true f=some c/\(f,c)∈L:=by
 have hm:=zqU hl;obtain⟨k,hk⟩:=j7 hm;have:=congrArg (·[k]?) h;simp only[kO,hk,qX]at this;exact⟨Option.some.inj this,hm⟩
def zpU{P:Program}{an:Ann}{b:Bool}{v:FuncId}{c:CFn}(h:zho P an b v=some c):c.rnd.isSome=true:=by
 unfold zho at h;split at h
 ·split at h
  ·split at h
   ·split at h
    ·split at h
     ·cases h;rfl
     ·cases h
    ·cases h
   ·cases h
  ·cases h
 ·cases h
def zzm{P:Program}{A:Prop}{an:Ann}{L:List (Nat×CFn)}(h:(L.map fun p=>zcF P an true p.1)=L.map fun p=>some p.2)(hV:zql P L=true)(f:FuncId)(c:CFn)(hl:L.lookup f=some c) :
  (f<P.funcs.size->@zC5 (zww P (fun f=>L.lookup f) A) P f c)/\(P.funcs.size<=f->c.rnd.isSome=true):=by
 letI:=zww P (fun f=>L.lookup f) A;obtain⟨hc,hm⟩:=zk9 h hl;unfold zcF at hc;refine⟨fun hlt=>?_,fun hge=>?_⟩
 ·rw[if_pos hlt]at hc;refine zuf hc fun fn body i x hf hb hn hx=>⟨jT (uE _ (16*f)) (uE _ i),?_⟩
  have h1:=jw.1 hV _ hm;simp only[hf,hb]at h1;have h2:=jw.1 h1 i (by have:=zC hx;rw[zfr]at this;simpa using this);obtain⟨c',hc'⟩:=Option.isSome_iff_exists.1 h2;obtain⟨h3,_⟩:=zk9 h hc';unfold zcF at h3;rw[if_neg (Nat.not_lt.2 (jT (uE _ (16*f)) (uE _ i)))]at h3;exact zro h3 hc' hf hb hn hx
 ·rw[if_neg (Nat.not_lt.2 hge)]at hc;exact zpU hc
def zaH(L:List (Nat×CFn))(Cs:List (Nat×Nat×Nat×Bool))(n:Nat):za4:=zfk (fun f=>L.lookup f) (uv Cs) n
def zsT{P:Program}(u9:P.follows .mixedOrders=true){an:Ann}{L:List (Nat×CFn)}{Cs:List (Nat×Nat×Nat×Bool)}(hL:(L.map fun p=>zcF P an true p.1)=L.map fun p=>some p.2)(hV:zql P L=true)
  (hC:(Cs.all fun c=>c.2.1==0||zf2 P c.1 c.2.1 c.2.2.1)=true) (hS:∀c∈Cs,c.2.1=0->zqh P c) (n:Nat):@FnS (zww P (fun f=>L.lookup f) (Zpp Cs)) P (zaH L Cs n):=by
 letI:=zww P (fun f=>L.lookup f) (Zpp Cs);exact zrA u9 (fun f c hl=>zzm hL hV f c hl) (fun v ps a b n h=>h.2) (zvt rfl u9 (fun c hc=>jw.1 hC c hc) hS (fun c hc h0 h1 hn=>hn c hc h0 h1)) n
end Go.Eng
namespace Go.Eng
open Go
def za4.le(c d:za4):Prop:=∀f a M r,c f a M=some r->d f a M=some r
theorem zo1{c d:za4}(h:c.le d){f:FuncId}{args:List WV}{M:Mem}{r:AV×Mem×FP}(hr:zcG c f args M=some r):zcG d f args M=some r:=by
 unfold zcG at hr ⊢;dsimp only at hr ⊢;split at hr
 ·split at hr
  ·rename_i as Ms h2 h3;split at hr
   ·grind
   ·rename_i r0 Ms' h4;simp only[h2,h3,h _ _ _ _ h4]
    grind
  grind
 grind
theorem ztf{c d:za4}(h:c.le d){m:zbz}{fv:WV}{args:List WV}{M:Mem}{r:AV×Mem×FP}(hr:zx c m fv args M=some r):zx d m fv args M=some r:=by
 unfold zx at hr ⊢;split at hr
 ·split at hr
  ·split at hr
   ·grind
   ·split at hr
    ·dsimp only at hr;split at hr
     ·grind [zo1]
     ·grind [zo1]
    grind
  ·split at hr
   ·grind [zo1]
   grind
 grind
theorem zzW{c d:za4}(h:c.le d){n0:Nat}{E:Nat->Option AV}{M:Mem}{co:CO}{r:AV×Mem×FP}(hr:opF c n0 E M co=some r):opF d n0 E M co=some r:=by
 cases co with
 |call m f as =>
  grind [opF,ztf]
 |_=>exact hr
def zuH{c d:za4}(h:c.le d){n0:Nat}{o:zaG}{E:Nat->Option AV}{M:Mem}{r:AV×Mem×FP}(hr:zbm c n0 o E M=some r):zbm d n0 o E M=some r:=by
 grind [zbm,zzW]
theorem zp9{c d:za4}(h:c.le d){n0:Nat}:∀{os:List zaG} {E:Env} {M:Mem} {r:Env×Mem×List FP},zks c n0 os E M=some r->zks d n0 os E M=some r
 |[],E,M,r,hr=>hr
 |o::os,E,M,r,hr=>by
  simp only[zks]at hr ⊢;split at hr
  ·rename_i v M' fp h1;rw[zuH h h1];dsimp only;split at hr
   ·rename_i E2 M2 fs h2;rw[zp9 h h2]
    grind
   grind
  grind
def z7B{f g:Env->Mem->Option (EX×Env×Mem)}(h:∀E M r,f E M=some r->g E M=some r){live:Option (List Nat)}{n0:Nat}:∀{n m:Nat} {E:Env} {M:Mem} {r:EX×Env×Mem},n<=m->iter f live n0 n E M=some r->iter g live n0 m E M=some r
 |0,m,E,M,r,hn,hr=>by grind [iter]
 |n+1,0,E,M,r,hn,hr=>wA
 |n+1,m+1,E,M,r,hn,hr=>by
  simp only[iter]at hr ⊢;cases hf:f E M with
  |none=>grind
  |some x =>
   rw[hf]at hr;rw[h _ _ _ hf];obtain⟨ex,E',M'⟩:=x;cases ex with
   |normal=>exact z7B h wA hr
   |exit i=>grind
   |ret=>grind
theorem zcR{c d:za4}(h:c.le d){n m:Nat}(hn:n<=m):∀{cc:CC} {E:Env} {M:Mem} {r:EX×Env×Mem},zaV c n cc E M=some r->zaV d m cc E M=some r
 |.skip,E,M,r,hr=>hr
 |.region nA ops prs ue,E,M,r,hr=>by
  grind [zaV,zp9]
 |.seq a b,E,M,r,hr=>by
  simp only[zaV]at hr ⊢;cases ha:zaV c n a E M with
  |none=>grind
  |some x =>
   rw[ha]at hr;rw[zcR h hn ha];obtain⟨ex,E',M'⟩:=x;cases ex with
   |normal=>exact zcR h hn hr
   |exit i=>grind
   |ret=>grind
 |.cond x a b,E,M,r,hr=>by
  simp only[zaV]at hr ⊢;split at hr
  ·split at hr
   ·rename_i h1;rw[if_pos h1];exact zcR h hn hr
   ·rename_i h1;rw[if_neg h1];exact zcR h hn hr
  grind
 |.block id b,E,M,r,hr=>by
  simp only[zaV]at hr ⊢;cases ha:zaV c n b E M with
  |none=>grind
  |some x=>rw[zcR h hn ha];grind
 |.loop live b,E,M,r,hr=>by
  exact z7B (fun E M r hr=>zcR h hn hr) hn hr
 |.exit id,E,M,r,hr=>hr
 |.ret,E,M,r,hr=>hr
 |.rng f v caps,E,M,r,hr=>by
  grind [zaV,ztf]
def zyb{c d:za4}(h:c.le d){n m:Nat}(hn:n<=m){f:FuncId}{ps:List Nat}{pre code:CC}{args:List WV}{M:Mem}{r:AV×Mem}(hr:zoC c n f ps pre code args M=some r):zoC d m f ps pre code args M=some r:=by
 unfold zoC at hr ⊢;split at hr
 ·split at hr
  ·split at hr
   ·split at hr
    ·split at hr
     ·grind [zcR]
     grind
    grind
   grind
  grind
 grind
def zrz{T:FuncId->Option CFn}{X:za4}:∀n,za4.le (zfk T X n) (zfk T X (n+1))
 |0=>fun f a M r h=>by grind [zfk]
 |n+1=>fun f a M r h=>by
  have ih:=zrz (T:=T) (X:=X) n;simp only[zfk]at h;rw[zfk];split at h
  ·grind
  ·rename_i fn hT;split at h
   ·exact zyb ih (kL n) h
   ·split at h
    ·cases hx:zaV (zfk T X n) n fn.code (vT 0 a) M with
     |none=>grind
     |some x=>rw[zcR ih (kL n) hx];grind
    grind
def zAD{T:FuncId->Option CFn}{X:za4}{n m:Nat}(h:n<=m):za4.le (zfk T X n) (zfk T X m):=by
 induction h with
 |refl=>exact fun _ _ _ _ h=>h
 |step _ ih=>exact fun f a M r h=>zrz _ f a M r (ih f a M r h)
def zCa{α:Type}(f:Nat->Option α):Prop:=∀n m r,n<=m->f n=some r->f m=some r
open Classical in
noncomputable def lim{α:Type}(f:Nat->Option α):Option α:=if h:∃r n,f n=some r then some h.choose else none
def zt0{α:Type}{f:Nat->Option α}(hf:zCa f){r:α}:lim f=some r<->∃n,f n=some r:=by
 constructor
 ·intro h;unfold lim at h;split at h
  ·grind
  grind
 ·rintro⟨n,hn⟩;have hx:∃r n,f n=some r:=⟨r,n,hn⟩;unfold lim;obtain⟨m,hm⟩:=hx.choose_spec;have h1:=hf n (max n m) _ (uN ..) hn;have h2:=hf m (max n m) _ (uD ..) hm
  grind
section
variable(L:List (Nat×CFn))(Cs:List (Nat×Nat×Nat×Bool))
noncomputable def R:za4:=fun f a M=>lim fun n=>zaH L Cs n f a M
noncomputable def X(cc:CC)(E:Env)(M:Mem):Option (EX×Env×Mem):=lim fun n=>zaV (zaH L Cs n) n cc E M
noncomputable def Y(b:CC)(live:Option (List Nat))(n0:Nat)(E:Env)(M:Mem):Option (EX×Env×Mem):=lim fun n=>iter (zaV (zaH L Cs n) n b) live n0 n E M
end
section
variable{L:List (Nat×CFn)}{Cs:List (Nat×Nat×Nat×Bool)}
def zgu{n m:Nat}(h:n<=m):za4.le (zaH L Cs n) (zaH L Cs m):=zAD h
def zCS{f:FuncId}{a:List WV}{M:Mem}:zCa fun n=>zaH L Cs n f a M:=fun _ _ r h hr=>zgu h _ _ _ _ hr
def zCL{cc:CC}{E:Env}{M:Mem}:zCa fun n=>zaV (zaH L Cs n) n cc E M:=fun _ _ _ h hr=>zcR (zgu h) h hr
def zCJ{b:CC}{live:Option (List Nat)}{n0:Nat}{E:Env}{M:Mem}:zCa fun n=>iter (zaV (zaH L Cs n) n b) live n0 n E M:=fun _ _ _ h hr=>z7B (fun _ _ _ hr=>zcR (zgu h) h hr) h hr
theorem zah{f:FuncId}{a:List WV}{M:Mem}{r:AV×Mem}:R L Cs f a M=some r<->∃n,zaH L Cs n f a M=some r:=zt0 zCS
theorem zdL{cc:CC}{E:Env}{M:Mem}{r:EX×Env×Mem}:X L Cs cc E M=some r<->∃n,zaV (zaH L Cs n) n cc E M=some r:=zt0 zCL
theorem zpD{b:CC}{live:Option (List Nat)}{n0:Nat}{E:Env}{M:Mem}{r:EX×Env×Mem}:Y L Cs b live n0 E M=some r<->∃n,iter (zaV (zaH L Cs n) n b) live n0 n E M=some r:=zt0 zCJ
theorem zDi(n:Nat):za4.le (zaH L Cs n) (R L Cs):=fun _ _ _ _ h=>zah.2 ⟨n,h⟩
theorem zry{f:FuncId}{args:List WV}{M:Mem}{r:AV×Mem×FP}(hr:zcG (R L Cs) f args M=some r):∃n,zcG (zaH L Cs n) f args M=some r:=by
 grind [zcG,zah]
theorem zAC{m:zbz}{fv:WV}{args:List WV}{M:Mem}{r:AV×Mem×FP}(hr:zx (R L Cs) m fv args M=some r):∃n,zx (zaH L Cs n) m fv args M=some r:=by
 unfold zx at hr ⊢;split at hr
 ·split at hr
  ·split at hr
   ·grind
   ·split at hr
    ·dsimp only at hr;split at hr
     ·simp_all [zry,if_pos,if_true]
     grind [zry]
    grind
  simp_all [zry,if_neg,if_pos]
 grind
theorem zCe{n0:Nat}{E:Nat->Option AV}{M:Mem}{co:CO}{r:AV×Mem×FP}(hr:opF (R L Cs) n0 E M co=some r):∃n,opF (zaH L Cs n) n0 E M co=some r:=by
 cases co with
 |call m f as =>
  grind [opF,zAC]
 |_=>exact⟨0,hr⟩
def zBh{n0:Nat}{o:zaG}{E:Nat->Option AV}{M:Mem}{r:AV×Mem×FP}(hr:zbm (R L Cs) n0 o E M=some r):∃n,zbm (zaH L Cs n) n0 o E M=some r:=by
 unfold zbm at hr ⊢;split at hr
 ·grind [zCe]
 ·split at hr
  ·grind [zCe]
  ·simp_all
  grind
theorem zzL{n0:Nat}:∀{os:List zaG} {E:Env} {M:Mem} {r:Env×Mem×List FP},zks (R L Cs) n0 os E M=some r->∃n,zks (zaH L Cs n) n0 os E M=some r
 |[],E,M,r,hr=>⟨0,hr⟩
 |o::os,E,M,r,hr=>by
  simp only[zks]at hr;split at hr
  ·rename_i v M' fp h1;split at hr
   ·rename_i E2 M2 fs h2;obtain⟨n,hn⟩:=zBh h1;obtain⟨m,hm⟩:=zzL h2;refine⟨max n m,?_⟩;simp only[zks,zuH (zgu (uN n m)) hn,zp9 (zgu (uD n m)) hm]
    grind
   grind
  grind
def zi0{α:Type}{a b:Option α}(h:∀x,a=some x<->b=some x):a=b:=by
 cases a with
 |none=>cases b with
  |none=>rfl
  |some y=>simp_all
 |some x=>grind
def zCK(E:Env)(M:Mem):X L Cs .skip E M=some (.normal,E,M):=zdL.2 ⟨0,rfl⟩
def zCN(id:Nat)(E:Env)(M:Mem):X L Cs (.exit id) E M=some (.exit id,E,M):=zdL.2 ⟨0,rfl⟩
def zDo(E:Env)(M:Mem):X L Cs .ret E M=some (.ret,E,M):=zdL.2 ⟨0,rfl⟩
def zAM(nA:Nat)(ops:List zaG)(prs:List (Nat×Nat))(ue:Option (List Nat))(E:Env)(M:Mem):X L Cs (.region nA ops prs ue) E M=match zks (R L Cs) M.length ops E (M++qC nA)with
  |some (E',M',fs)=>if prs.all (zyi (M.length+nA) fs) then some (.normal,E'.kept ue,M') else none
  |none=>none:=by
 refine zi0 fun x=>⟨fun h=>?_,fun h=>?_⟩
 ·grind [zdL,zaV,zp9,zDi]
 grind [zzL,zdL,zaV]
def zDn(a b:CC)(E:Env)(M:Mem):X L Cs (.seq a b) E M=match X L Cs a E M with
  |some (.normal,E',M')=>X L Cs b E' M'
  |r=>r:=by
 refine zi0 fun x=>⟨fun h=>?_,fun h=>?_⟩
 ·grind [zdL,zaV,zaH]
 ·cases ha:X L Cs a E M with
  |none=>grind
  |some y =>
   rw[ha]at h;obtain⟨n,hn⟩:=zdL.1 ha;obtain⟨ex,E',M'⟩:=y;cases ex with
   |normal =>
    obtain⟨m,hm⟩:=zdL.1 h;exact zdL.2 ⟨max n m,by simp only[zaV,zcR (zgu (uN n m)) (uN n m) hn];exact zcR (zgu (uD n m)) (uD n m) hm⟩
   |exit i=>grind [zdL,zaV]
   |ret=>grind [zdL,zaV]
def zCO(c:Opd)(a b:CC)(E:Env)(M:Mem):X L Cs (.cond c a b) E M=match c.ev E.get with
  |some (.c (.bool t))=>if t then X L Cs a E M else X L Cs b E M
  |_=>none:=by
 refine zi0 fun x=>⟨fun h=>?_,fun h=>?_⟩
 ·obtain⟨n,hn⟩:=zdL.1 h;simp only[zaV]at hn;split at hn
  ·split at hn
   ·grind [zdL]
   ·grind [zdL]
  grind
 ·split at h
  ·split at h
   ·simp_all [zdL,zaV,if_pos]
   simp_all [zdL,zaV,if_neg]
  grind
def zBU(id:Nat)(b:CC)(E:Env)(M:Mem):X L Cs (.block id b) E M=match X L Cs b E M with
  |some (.exit id',E',M')=>if id'=id then some (.normal,E',M') else some (.exit id',E',M')
  |r=>r:=by
 refine zi0 fun x=>⟨fun h=>?_,fun h=>?_⟩
 ·grind [zdL,zaV,zaH]
 grind [X,zdL,zaV]
def zCM(live:Option (List Nat))(b:CC)(E:Env)(M:Mem):X L Cs (.loop live b) E M=Y L Cs b live M.length (canon M.length live E M).1 (canon M.length live E M).2:=by
 refine zi0 fun x=>⟨fun h=>?_,fun h=>?_⟩
 ·grind [zdL,zpD,zaV]
 grind [zpD,zdL,zaV]
theorem zrL(b:CC)(live:Option (List Nat))(n0:Nat)(E:Env)(M:Mem):Y L Cs b live n0 E M=match X L Cs b E M with
  |some (.normal,E',M')=>Y L Cs b live n0 (canon n0 live E' M').1 (canon n0 live E' M').2
  |r=>r:=by
 refine zi0 fun x=>⟨fun h=>?_,fun h=>?_⟩
 ·obtain⟨n,hn⟩:=zpD.1 h;cases n with
  |zero=>grind [iter]
  |succ n =>
   simp only[iter]at hn;cases ha:zaV (zaH L Cs (n+1)) (n+1) b E M with
   |none=>grind
   |some y =>
    rw[ha]at hn;rw[zdL.2 ⟨n+1,ha⟩];obtain⟨ex,E',M'⟩:=y;cases ex with
    |normal=>exact zpD.2 ⟨n+1,z7B (fun _ _ _ h=>h) (kL n) hn⟩
    |exit i=>grind
    |ret=>grind
 ·cases ha:X L Cs b E M with
  |none=>grind
  |some y =>
   rw[ha]at h;obtain⟨n,hn⟩:=zdL.1 ha;obtain⟨ex,E',M'⟩:=y;cases ex with
   |normal =>
    obtain⟨m,hm⟩:=zpD.1 h;refine zpD.2 ⟨max n m+1,?_⟩;have h1:=zcR (zgu (L:=L) (Cs:=Cs) (show n<=max n m+1 by omega)) (show n<=max n m+1 by omega) hn;simp only[iter,h1];exact z7B (fun _ _ _ hr=>zcR (zgu (show m<=max n m+1 by omega)) (show m<=max n m+1 by omega) hr) (show m<=max n m by omega) hm
   |exit i =>
    refine zpD.2 ⟨n+1,?_⟩;simp only[iter,zcR (zgu (kL n)) (kL n) hn];grind
   |ret =>
    refine zpD.2 ⟨n+1,?_⟩;simp only[iter,zcR (zgu (kL n)) (kL n) hn];grind
def zNb(f:Opd)(vf:FuncId)(caps:List Nat)(E:Env)(M:Mem):X L Cs (.rng f vf caps) E M=match f.ev E.get with
  |some (.c (.fn g fi ca))=>match zx (R L Cs) ⟨true⟩ (.c (.fn g fi ca)) [.c (.yld M.length vf (zeN E caps).1)] (M++[some (ghost (zeN E caps).2)])with
   |some (_,M',_)=>match kM M' M.length with
    |some s=>match znr s,zsR M' M.length s (-1)with
     |some ex,some M2=>some (ex,E,M2)
     |_,_=>none
    |none=>none
   |none=>none
  |_=>none:=by
 refine zi0 fun x=>⟨fun h=>?_,fun h=>?_⟩
 ·grind [zdL,zaV,ztf,zDi]
 ·split at h
  ·grind [zAC,zdL,zaV]
  grind
def zUa{f:FuncId}{fn:CFn}(hL:L.lookup f=some fn)(hr:fn.rnd=none)(args:List WV)(M:Mem):R L Cs f args M=if args.length=fn.nargs then
   match X L Cs fn.code (vT 0 args) M with
   |some (.normal,E,M') |some (.ret,E,M')=>match zpk E M' fn.res with
    |some r=>leave fn.frz M.length r M'
    |none=>none
   |_=>none
  else none:=by
 refine zi0 fun x=>⟨fun h=>?_,fun h=>?_⟩
 ·obtain⟨n,hn⟩:=zah.1 h;cases n with
  |zero=>simp[zaH,zfk]at hn
  |succ n =>
   simp only[zaH,zfk,hL,hr]at hn;split at hn
   ·cases ha:zaV (zfk (fun f=>L.lookup f) (uv Cs) n) n fn.code (vT 0 args) M with
    |none=>grind
    |some y=>rw[zdL.2 ⟨n,ha⟩];grind
   grind
 ·split at h
  ·rename_i hl;cases ha:X L Cs fn.code (vT 0 args) M with
   |none=>grind
   |some y =>
    obtain⟨n,hn⟩:=zdL.1 ha;refine zah.2 ⟨n+1,?_⟩;have hn:zaV (zfk (fun f=>L.lookup f) (uv Cs) n) n fn.code (vT 0 args) M=some y:=hn;simp only[zaH,zfk,hL,hr,if_pos hl,hn]
    grind
  grind
def zOg{f:FuncId}{fn:CFn}{ps:List Nat}{pre:CC}(hL:L.lookup f=some fn)(hr:fn.rnd=some (ps,pre)){id:Nat}{sh:List (Nat×Bool×Nat)}{as:List WV}{M M1 M2 M3 M4 M5:Mem}{cells:List Cl}{E0 E1 E3:Env}{ex:EX}{r:AV}
  (h1:as.length=ps.length) (h2:kM M id=some 0) (h3:zxb M id=some cells) (h4:AI sh cells=some E0) (h5:X L Cs pre (zv3 ps as++E0) M=some (.normal,E1,M1)) (h6:zsR M1 id 0 1=some M2)
  (h7:X L Cs fn.code E1 M2=some (ex,E3,M3)) (h8:zsR M3 id 1 (zxZ ex)=some M4) (h9:finish M.length (.w (.c (.bool (ex==.normal)))) M4=some (r,M5)):R L Cs f (.c (.yld id f sh)::as) M=some (r,M5):=by
 obtain⟨n,hn⟩:=zdL.1 h5;obtain⟨m,hm⟩:=zdL.1 h7;refine zah.2 ⟨max n m+1,?_⟩;have e1:=zcR (zgu (L:=L) (Cs:=Cs) (uN n m)) (uN n m) hn;have e2:=zcR (zgu (L:=L) (Cs:=Cs) (uD n m)) (uD n m) hm;show zfk (fun f=>L.lookup f) (uv Cs) (max n m+1) f (.c (.yld id f sh)::as) M=_;simp only[zfk,hL,hr,zoC];have e1:zaV (zfk (fun f=>L.lookup f) (uv Cs) (max n m)) (max n m) pre (zv3 ps as++E0) M=_:=e1;have e2:zaV (zfk (fun f=>L.lookup f) (uv Cs) (max n m)) (max n m) fn.code E1 M2=_:=e2
 grind
def zrP{f:FuncId}(hL:L.lookup f=none)(args:List WV)(M:Mem):R L Cs f args M=uv Cs f args M:=by
 refine zi0 fun x=>⟨fun h=>?_,fun h=>?_⟩
 ·obtain⟨n,hn⟩:=zah.1 h;cases n with
  |zero=>simp[zaH,zfk]at hn
  |succ n=>simpa only[zaH,zfk,hL]using hn
 ·exact zah.2 ⟨1,by simpa only[zaH,zfk,hL]using h⟩
end
abbrev I(n:Int):Cl:=.int .i64 n
abbrev W(n:Int):WV:=.c (.int .i64 n)
abbrev Bo(b:Bool):WV:=.c (.bool b)
theorem zTd(x:Int)(h:-9223372036854775808<=x)(h':x<=9223372036854775807):IntKind.i64.wrap x=x:=by
 simp[IntKind.wrap,IntKind.signed,IntKind.bits];omega
def qB(x:Int)(h:-9223372036854775808<=x:=by omega)(h':x<=9223372036854775807:=by omega):IntKind.i64.wrap x=x:=zTd x h h'
def holes0(M:Mem):M++qC 0=M:=by simp[qC]
def zvr(M:Mem)(n:Nat)(s:List Nat):collect M n [] s=s:=by cases n<;>rfl
def zug(M:Mem)(n id:Nat)(todo seen:List Nat):collect M (n+1) (id::todo) seen=if seen.contains id then collect M n todo seen else collect M n (zpw M id++todo) (seen++[id]):=rfl
def zz1(a b:Int):zyw true a b=max a b:=by simp only[zyw,if_true];split<;>omega
def zz0(a b:Int):zyw false a b=min a b:=by simp only[zyw,jI,if_false];split<;>omega
def zy3{i n:Nat}(h:i<n):zmk (i:Int) n=some i:=by
 unfold zmk;rw[if_pos wA];simp
abbrev own(es:Nat)(l:List (List Cl)):Blk:={ box:=false,esz:=es,rows:=l,gen:=l.length,fz:=false,ver:=l.length }
abbrev sl(id es:Nat)(l:List (List Cl)):Cl:=.slice id l.length es 0 l.length none
section
variable[GlobP]{L:List (Nat×CFn)}{Cs:List (Nat×Nat×Nat×Bool)}
def zhJ{b:CC}{live:Option (List Nat)}{n0:Nat}{E:Env}{M:Mem}{r:EX×Env×Mem}(h:X L Cs b E M=some r)(hn:r.1≠.normal):Y L Cs b live n0 E M=some r:=by
 rw[zrL,h];obtain⟨ex,E',M'⟩:=r;cases ex with
 |normal=>exact absurd rfl hn
 |exit i=>rfl
 |ret=>rfl
def zP2{b:CC}{live:Option (List Nat)}{n0:Nat}{E E':Env}{M M':Mem}{s:Env×Mem}(h:X L Cs b E M=some (.normal,E',M'))(hc:canon n0 live E' M'=s):Y L Cs b live n0 E M=Y L Cs b live n0 s.1 s.2:=by
 rw[zrL,h,<-hc]
end
def eqL{α:Type}(f:α->α->Bool):List α->List α->Bool
 |[],[]=>true
 |x::xs,y::ys=>match eqL f xs ys with
  |true=>f x y
  |false=>false
 |_,_=>false
def zDB:Int->Int->Bool
 |.ofNat a,.ofNat b=>Nat.beq a b
 |.negSucc a,.negSucc b=>Nat.beq a b
 |_,_=>false
def zDy(a b:Bool):Bool:=match a,b with
 |true,true=>true
 |false,false=>true
 |_,_=>false
def zDz:Option Nat->Option Nat->Bool
 |none,none=>true
 |some a,some b=>Nat.beq a b
 |_,_=>false
def shE(a b:Nat×Bool×Nat):Bool:=Nat.beq a.1 b.1&&(zDy a.2.1 b.2.1&&Nat.beq a.2.2 b.2.2)
def clE:Nat->Cl->Cl->Bool
 |0,_,_=>false
 |n+1,.bool a,.bool b=>zDy a b
 |n+1,.int k a,.int k' b=>(zDB a b)&&decide (k=k')
 |n+1,.str a,.str b=>decide (a.data.toList=b.data.toList)
 |n+1,.ptr a b c d,.ptr a' b' c' d'=>Nat.beq a a'&&(Nat.beq b b'&&(Nat.beq c c'&&Nat.beq d d'))
 |n+1,.uQ r k,.uQ r' k'=>Nat.beq k k'&&eqL (clE n) r r'
 |n+1,.kX,.kX=>true
 |n+1,.slice a b c d e f,.slice a' b' c' d' e' f'=>Nat.beq a a'&&(Nat.beq b b'&&(Nat.beq c c'&&(Nat.beq d d'&&(Nat.beq e e'&&zDz f f'))))
 |n+1,.jb a,.jb b=>eqL (eqL (clE n)) a b
 |n+1,.jc,.jc=>true
 |n+1,.fn f a b,.fn f' a' b'=>Nat.beq f f'&&(eqL (clE n) a a'&&eqL (clE n) b b')
 |n+1,.qT,.qT=>true
 |n+1,.iface t a b,.iface t' a' b'=>Nat.beq t t'&&(zDy a a'&&eqL (clE n) b b')
 |n+1,.qA,.qA=>true
 |n+1,.yld a b c,.yld a' b' c'=>Nat.beq a a'&&(Nat.beq b b'&&eqL shE c c')
 |n+1,.qS,.qS=>true
 |n+1,.map a g,.map a' g'=>Nat.beq a a'&&zDy g g'
 |n+1,.mit a,.mit a'=>Nat.beq a a'
 |n+1,.bsl a b c d e f g,.bsl a' b' c' d' e' f' g'=>Nat.beq a a'&&(Nat.beq b b'&&(Nat.beq c c'&&(Nat.beq d d'&&(Nat.beq e e'&&(Nat.beq f f'&&Nat.beq g g')))))
 |_,_,_=>false
def wvE:WV->WV->Bool
 |.c x,.c y=>clE 12 x y
 |.a x,.a y=>eqL (clE 12) x y
 |_,_=>false
def zDC:Option Blk->Option Blk->Bool
 |none,none=>true
 |some a,some b=>zDy a.box b.box&&(Nat.beq a.esz b.esz&&(Nat.beq a.gen b.gen&&(zDy a.fz b.fz&&(Nat.beq a.ver b.ver&&eqL (eqL (clE 12)) a.rows b.rows))))
 |_,_=>false
def zDA(M N:Mem):Bool:=eqL zDC M N
structure Ent where
 f:FuncId
 a:List WV
 M:Mem
 r:AV
 M':Mem
def Ent.find(f:FuncId)(a:List WV)(M:Mem):List Ent->Option (AV×Mem)
 |[]=>none
 |e::es=>match Nat.beq e.f f with
  |true=>match eqL wvE e.a a with
   |true=>match zDA e.M M with
    |true=>some (e.r,e.M')
    |false=>Ent.find f a M es
   |false=>Ent.find f a M es
  |false=>Ent.find f a M es
section
variable[GlobP]{L:List (Nat×CFn)}{Cs:List (Nat×Nat×Nat×Bool)}
def Holds(L:List (Nat×CFn))(Cs:List (Nat×Nat×Nat×Bool))(e:Ent):Prop:=R L Cs e.f e.a e.M=some (e.r,e.M')
end
def zMe(r:AV)(M:Mem):finish M.length r M=some (r,M):=by simp[finish]
attribute [simp] zvr vT zCK zCN zDo zAM zDn zCO zBU zCM zks zbm opF Opd.av Opd.ev Env.put Env.get zBR zCG zhN holes0 Env.kept Env.ue zpk zlQ zoD finish leave
 AV.below WV.below Eng.below yC zH Blk.below zke evs zoU zz1 zz0 unC zx zcG callee zl2 zku ziU zpM zeS zfe qJ Aa znn zhj zez zck uC back zgx
 WV.ids WV.cells AV.ids zBH CB zd3 zpw Blk.ids zg qC zdZ zhT storeAt zfJ Eng.look Eng.cut AS zaI zt9 zyi FP.apart FP.Ag FP.old FP.C8 zt5 zmk zdR yL zn7 zla zoS WV.sls AV.sls slC zcl
 zdv zt8 zdS zcf zbg zfj zug zcB zeF roomy canon km whole ztI WV.plain AV.plain zBL zBB sl own zus znj sliceB zcy zgN zxn zue zbM zi2 ztH zCC zoY ziB BC
abbrev o1(i d:Nat)(x:CO):zaG:=⟨i,some d,none,x⟩
abbrev o0(i:Nat)(x:CO):zaG:=⟨i,none,none,x⟩
abbrev mS(i d n:Nat):zaG:=⟨i,some d,none,.mv (.s n)⟩
abbrev kI(n:Int):Opd:=.k (.c (.int .i64 n))
abbrev kB(b:Bool):Opd:=.k (.c (.bool b))
abbrev rG(n:Nat)(ops:List zaG)(k:List Nat):CC:=.region n ops [] (some k)
abbrev sQ(a b:CC):CC:=.seq a b
attribute [simp] o1 o0 mS kI kB rG sQ
inductive Ins where
 |m (n:Nat)
 |q (d n:Nat)
 |p (d n:Nat)
 |v (n:Int)
 |l (n:Nat)
 |t (k n:Nat)
 |f (k n:Nat)
 |fl (k n:Nat)
 |c (f:Nat) (xs:List Nat)
 |d (f:Nat) (xs:List Opd)
 |a (e x y:Nat)
 |aa (e x y:Nat)
 |ai (e x:Nat) (n:Int)
 |nn (x:Nat)
 |n (x:Nat)
 |e (t k:Nat)
 |b (o:BinOp) (x y:Nat)
 |bb (o:BinOp) (x y:Nat)
 |bn (o:BinOp) (x y:Nat)
 |i (o:BinOp) (x:Nat) (n:Int)
 |ii (o:BinOp) (x:Nat) (n:Int)
 |k (o:BinOp) (x:Nat) (n:Int)
 |inc (x:Nat)
 |u (x:Nat)
 |y (x y:Nat)
 |r (x y:Nat)
 |x (d k e n:Nat)
 |w (k x y:Nat)
 |o (x:CO)
 |od (d:Nat) (x:CO)
 |z (x:CO)
 |j (i d:Nat)
 |g (x:Nat) (b:Bool)
 |h
@[simp] def asm:Nat->Nat->Option (Nat×Bool)->List Ins->List zaG
  |_,_,_,[]=>[]
  |i,d,g,.m n::r=>⟨i,some d,g,.mv (.s n)⟩::asm (i+1) (d+1) g r
  |i,d,g,.q k n::r=>⟨i,some k,g,.mv (.s n)⟩::asm (i+1) d g r
  |i,d,g,.p k n::r=>⟨i,some d,g,.mv (.s n)⟩::⟨i+1,some k,g,.mv (.s d)⟩::asm (i+2) (d+1) g r
  |i,d,g,.v n::r=>⟨i,some d,g,.mv (.k (.c (.int .i64 n)))⟩::asm (i+1) (d+1) g r
  |i,d,g,.l n::r=>⟨i,some d,g,.load false 1 (.s n)⟩::asm (i+1) (d+1) g r
  |i,d,g,.t k n::r=>⟨i,some d,g,.load true k (.s n)⟩::asm (i+1) (d+1) g r
  |i,d,g,.f k n::r=>⟨i,some d,g,.BA k (.s n)⟩::asm (i+1) (d+1) g r
  |i,d,g,.fl k n::r=>⟨i,some d,g,.BA k (.s n)⟩::⟨i+1,some (d+1),g,.load false 1 (.s d)⟩::asm (i+2) (d+2) g r
  |i,d,g,.c f xs::r=>⟨i,some d,g,.call ⟨true⟩ (.k (.c (.fn f [] []))) (xs.map .s)⟩::asm (i+1) (d+1) g r
  |i,d,g,.d f xs::r=>⟨i,some d,g,.call ⟨true⟩ (.k (.c (.fn f [] []))) xs⟩::asm (i+1) (d+1) g r
  |i,d,g,.a e x y::r=>⟨i,some d,g,.Bi e (.s x) (.s y)⟩::asm (i+1) (d+1) g r
  |i,d,g,.aa e x y::r=>⟨i,some d,g,.mv (.s x)⟩::⟨i+1,some (d+1),g,.mv (.s y)⟩::⟨i+2,some (d+2),g,.Bi e (.s d) (.s (d+1))⟩::asm (i+3) (d+3) g r
  |i,d,g,.ai e x n::r=>⟨i,some d,g,.Bi e (.s x) (.k (.c (.int .i64 n)))⟩::asm (i+1) (d+1) g r
  |i,d,g,.nn x::r=>⟨i,some d,g,.mv (.s x)⟩::⟨i+1,some (d+1),g,.len (.s d)⟩::asm (i+2) (d+2) g r
  |i,d,g,.n x::r=>⟨i,some d,g,.len (.s x)⟩::asm (i+1) (d+1) g r
  |i,d,g,.e t k::r=>⟨i,some d,g,.extract t k⟩::asm (i+1) (d+1) g r
  |i,d,g,.b o x y::r=>⟨i,some d,g,.bin o (.s x) (.s y)⟩::asm (i+1) (d+1) g r
  |i,d,g,.bb o x y::r=>⟨i,some d,g,.mv (.s x)⟩::⟨i+1,some (d+1),g,.mv (.s y)⟩::⟨i+2,some (d+2),g,.bin o (.s d) (.s (d+1))⟩::asm (i+3) (d+3) g r
  |i,d,g,.bn o x y::r=>⟨i,some d,g,.mv (.s x)⟩::⟨i+1,some (d+1),g,.mv (.s y)⟩::⟨i+2,some (d+2),g,.len (.s (d+1))⟩::⟨i+3,some (d+3),g,.bin o (.s d) (.s (d+2))⟩::asm (i+4) (d+4) g r
  |i,d,g,.i o x n::r=>⟨i,some d,g,.bin o (.s x) (.k (.c (.int .i64 n)))⟩::asm (i+1) (d+1) g r
  |i,d,g,.ii o x n::r=>⟨i,some d,g,.mv (.s x)⟩::⟨i+1,some (d+1),g,.bin o (.s d) (.k (.c (.int .i64 n)))⟩::asm (i+2) (d+2) g r
  |i,d,g,.k o x n::r=>⟨i,some d,g,.mv (.s x)⟩::⟨i+1,some (d+1),g,.len (.s d)⟩::⟨i+2,some (d+2),g,.bin o (.s (d+1)) (.k (.c (.int .i64 n)))⟩::asm (i+3) (d+3) g r
  |i,d,g,.inc x::r=>⟨i,some d,g,.mv (.s x)⟩::⟨i+1,some (d+1),g,.bin .add (.s d) (.k (.c (.int .i64 1)))⟩::⟨i+2,some x,g,.mv (.s (d+1))⟩::asm (i+3) (d+2) g r
  |i,d,g,.u x::r=>⟨i,some d,g,.un .not (.s x)⟩::asm (i+1) (d+1) g r
  |i,d,g,.y x y::r=>⟨i,some d,g,.pick (.s x) (.s y) (.k (.c (.bool false)))⟩::asm (i+1) (d+1) g r
  |i,d,g,.r x y::r=>⟨i,some d,g,.pick (.s x) (.k (.c (.bool true))) (.s y)⟩::asm (i+1) (d+1) g r
  |i,d,g,.x k s e n::r=>⟨i,some k,g,.box s e (.s n)⟩::asm (i+1) d g r
  |i,d,g,.w k x y::r=>⟨i,none,g,.store k (.s x) (.s y)⟩::asm (i+1) d g r
  |i,d,g,.o x::r=>⟨i,some d,g,x⟩::asm (i+1) (d+1) g r
  |i,d,g,.od k x::r=>⟨i,some k,g,x⟩::asm (i+1) d g r
  |i,d,g,.z x::r=>⟨i,none,g,x⟩::asm (i+1) d g r
  |_,_,g,.j i d::r=>asm i d g r
  |i,d,_,.g x b::r=>asm i d (some (x,b)) r
  |i,d,_,.h::r=>asm i d none r
abbrev rH(n d:Nat)(ops:List Ins)(k:List Nat):CC:=.region n (asm 0 d none ops) [] (some k)
abbrev rP(n d:Nat)(ops:List Ins)(ps:List (Nat×Nat))(k:List Nat):CC:=.region n (asm 0 d none ops) ps (some k)
abbrev fN(n t:Nat)(r:List RC)(c:CC):CFn:={ frz:=true,rnd:=none,nargs:=n,ntmps:=t,res:=r,code:=c }
abbrev fF(z:Bool)(v:Option (List Nat×CC))(n t:Nat)(r:List RC)(c:CC):CFn:={ frz:=z,rnd:=v,nargs:=n,ntmps:=t,res:=r,code:=c }
abbrev cD(n:Nat)(a b:CC):CC:=.cond (.s n) a b
attribute [simp] rH rP fN fF cD
inductive Sh where
 |int (k:IntKind)
 |bool
 |str
 |slice (s:Sh)
 |st (l:List Sh)
 deriving Inhabited
mutual
def Sh.n:Sh->Nat
 |.int _ |.bool |.str |.slice _=>1
 |.st l=>Sh.ns l
def Sh.ns:List Sh->Nat
 |[]=>0
 |s::l=>s.n+Sh.ns l
end
mutual
def zfo:Sh->List Cl->Prop
 |.int k,cs=>∃n,cs=[.int k n]/\k.min<=n/\n<=k.max
 |.bool,cs=>∃b,cs=[.bool b]
 |.str,cs=>∃s,cs=[.str s]/\s.size<=maxLen
 |.slice s,cs=>∃rows,cs=[.jb rows]/\rows.length<=maxLen/\∀r∈rows,zfo s r
 |.st l,cs=>znD l cs
def znD:List Sh->List Cl->Prop
 |[],cs=>cs=[]
 |s::l,cs=>∃c d,cs=c++d/\zfo s c/\znD l d
end
def zl5(P:Program)(f:TypeId->Option Sh):List Field->Nat->Option (List Sh)
 |[],_=>some []
 |x::xs,off=>match f x.type with
  |some s=>if x.offset=off/\P.cellsOf x.type=s.n then(zl5 P f xs (off+s.n)).map (s :: ·) else none
  |none=>none
def zey(P:Program):Nat->TypeId->Option Sh
 |0,_=>none
 |d+1,t=>match P.underlying t with
  |some (.int k)=>some (.int k)
  |some .bool=>some .bool
  |some .string=>some .str
  |some (.slice e)=>match zey P d e with
   |some s=>if P.cellsOf e=s.n/\0<s.n then some (.slice s) else none
   |none=>none
  |some (.struct fs)=>match zl5 P (zey P d) fs.toList 0 with
   |some l=>if P.cellsOf t=Sh.ns l then some (.st l) else none
   |none=>none
  |some (.array n e)=>match zey P d e with
   |some s=>if P.cellsOf e=s.n/\P.cellsOf t=n*s.n then some (.st (List.replicate n s)) else none
   |none=>none
  |_=>none
def zlM(P:Program)(d:Nat):List TypeId->Option (List Sh)
 |[]=>some []
 |t::ts=>match zey P d t,zlM P d ts with
  |some s,some l=>some (s::l)
  |_,_=>none
section
variable{H:Type}{enc:TypeId×Value->H}{P:Program}{W:World}{spare:Nat->Bool}{held:Bool}
def zcC(W:World):zP:=fun b o=>W.cell? ⟨b,o,none⟩
def zml [zb0](hG:GK (zcC W)):zM (zcC W) W:=⟨fun _ _ _ h=>h,hG⟩
def zqT{β:Type}{f:Nat->Option β}{n:Nat}{ys:List β}(h:(List.range n).mapM f=some ys):ys.length=n/\∀i,i<n->∃y,ys[i]?=some y/\f i=some y:=by
 have hl:ys.length=n:=by simpa using mapM_some_length h
 refine⟨hl,fun i hi=>?_⟩;have key:∀(l:List Nat) (ys:List β),l.mapM f=some ys->∀(k x:Nat),l[k]?=some x->∃y,ys[k]?=some y/\f x=some y:=by
  intro l;induction l with
  |nil=>grind
  |cons a l ih =>
   cases ha:f a with
   |none=>grind
   |some b =>
    cases hr:l.mapM f with
    |none=>grind
    |some bs =>
     grind
 exact key _ _ h i i (by grind)
def zrv{a:Addr}{n:Nat}{cs:List Value}(h:W.cells? 0 a n=some cs):cs.length=n/\∀i,i<n->∃v,cs[i]?=some v/\W.cell? (a.add i)=some v:=by
 exact zqT h
def zxa{a:Addr}{v:Value}(h:W.cell? a=some v):a.spot=none:=by
 unfold World.cell? at h;split at h
 ·simp_all
 grind
def zpb{d:Nat}{n:Nat}(ih:∀{t:TypeId} {cs:List Value} {x:DataW H×List MemPlace} {s:Sh},DataW.trod enc P W 0 spare held n t cs=some x->zey P d t=some s->∃cl,VCs (zcC W) zb1 cl cs/\zfo s cl) :
  ∀{fs:List Field} {off:Nat} {l:List Sh} {cs:List Value} {xs:List (DataW H×List MemPlace)},zl5 P (zey P d) fs off=some l->(fs.mapM fun f=>DataW.trod enc P W 0 spare held n f.type ((cs.drop f.offset).take (P.cellsOf f.type)))=some xs->cs.length=off+Sh.ns l ->
   ∃cl,VCs (zcC W) zb1 cl (cs.drop off)/\znD l cl
 |[],off,l,cs,xs,hf,hx,hl=>by
  simp only[zl5,ji]at hf;subst hf;simp only[Sh.ns,uL]at hl;exact⟨[],by grind [List.drop_eq_nil_of_le,VCs.nil],rfl⟩
 |f::fs,off,l,cs,xs,hf,hx,hl=>by
  simp only[zl5]at hf;split at hf
  ·rename_i s hs;split at hf
   ·rename_i hc;obtain⟨CG,yk⟩:=hc;simp only[ja]at hf;obtain⟨l',hl',rfl⟩:=hf;simp only[Sh.ns]at hl;cases h1:DataW.trod enc P W 0 spare held n f.type ((cs.drop f.offset).take (P.cellsOf f.type))with
    |none=>grind
    |some y =>
     cases h2:(fs.mapM fun f=>DataW.trod enc P W 0 spare held n f.type ((cs.drop f.offset).take (P.cellsOf f.type)))with
     |none=>grind
     |some ys =>
      obtain⟨c1,hv1,hs1⟩:=ih h1 hs;obtain⟨c2,hv2,hs2⟩:=zpb ih hl' h2 wA;refine⟨c1++c2,?_,c1,c2,rfl,hs1,hs2⟩;have e:cs.drop off=(cs.drop off).take s.n++cs.drop (off+s.n):=by rw[<-yO,ki]
      rw[e];rw[CG,yk]at hv1;exact hv1.append hv2
   grind
  grind
def zsB{d:Nat}{n:Nat}{e:TypeId}{s:Sh}(ih:∀{t:TypeId} {cs:List Value} {x:DataW H×List MemPlace} {s:Sh},DataW.trod enc P W 0 spare held n t cs=some x->zey P d t=some s->∃cl,VCs (zcC W) zb1 cl cs/\zfo s cl)(hs:zey P d e=some s) :
  ∀{m k:Nat} {cs:List Value},(∀i,i<m->∃x,DataW.trod enc P W 0 spare held n e ((cs.drop ((k+i)*s.n)).take s.n)=some x)->cs.length=(k+m)*s.n->∃cl,VCs (zcC W) zb1 cl (cs.drop (k*s.n))/\znD (List.replicate m s) cl
 |0,k,cs,h,hl=>⟨[],by grind [List.drop_eq_nil_of_le,VCs.nil],rfl⟩
 |m+1,k,cs,h,hl=>by
  obtain⟨x,hx⟩:=h 0 wA;obtain⟨c1,hv1,hs1⟩:=ih hx hs;obtain⟨c2,hv2,hs2⟩:=zsB ih hs (m:=m) (k:=k+1) (cs:=cs) (fun i hi=>by
   grind) (by grind)
  refine⟨c1++c2,?_,c1,c2,rfl,hs1,hs2⟩
  grind [VCs,zcC,zb1]
def zx4{a:Addr}{len cap sz:Nat}{Q:List Cl->Prop}(uo:0<sz)(hl:len<=cap)(h:∀i,i<len->∃cs cl,W.cells? 0 (a.add (i*sz)) sz=some cs/\VCs (zcC W) zb1 cl cs/\Q cl) :
  ∃rows:List (List Cl),rows.length=len/\(∀r∈rows,Q r)/\VC (zcC W) zb1 (.jb rows) (.slice (some a) len cap):=by
 have hch:∃f:Nat->List Value×List Cl,∀i,i<len->W.cells? 0 (a.add (i*sz)) sz=some (f i).1/\VCs (zcC W) zb1 (f i).2 (f i).1/\Q (f i).2:=by
  refine⟨fun i=>if hi:i<len then((h i hi).choose,(h i hi).choose_spec.choose) else([],[]),fun i hi=>?_⟩
  grind
 obtain⟨f,hf⟩:=hch;have hlen:∀i,i<len->(f i).1.length=sz/\(f i).2.length=sz:=fun i hi=>by
  have h1:=(zrv (hf i hi).1).1;exact⟨h1,by rw[(hf i hi).2.1.1,h1]⟩
 have Dz:∀i,i<len->∀n,n<sz->∃v,(f i).1[n]?=some v/\W.cell? ((a.add (i*sz)).add n)=some v:=fun i hi n hn=>(zrv (hf i hi).1).2 n hn
 have hsp:len=0\/∃b o,a=⟨b,o,none⟩:=by
  rcases Nat.eq_zero_or_pos len with h0|h0
  ·grind
  ·obtain⟨v,_,hv⟩:=Dz 0 h0 0 uo;have:=zxa hv;obtain⟨b,o,s⟩:=a;have:s=none:=by grind [Addr.add]
   exact Or.inr ⟨b,o,by rw[this]⟩
 refine⟨(List.range len).map fun i=>(f i).2,wD,?_,?_⟩
 ·grind
 ·have hrow:∀(i:Nat) (row:List Cl),((List.range len).map fun i=>(f i).2)[i]?=some row->i<len/\row=(f i).2:=fun i row hi=>by
   grind
  have hv:=VC.jb (σ:=zcC W) zb1 sz ((List.range len).map fun i=>(f i).2) (some a) cap a.block a.off (fun i n=>((f i).1[n]?).getD undef) (by grind) ?_ ?_ ?_ ?_
  ·grind
  ·grind
  ·grind
  ·intro i row n cl hi hn;obtain⟨hil,rfl⟩:=hrow i row hi;have hns:n<sz:=by grind
   obtain⟨v,h1,h2⟩:=Dz i hil n hns;rw[h1];rcases hsp with h0 |⟨b,o,rfl⟩
   ·omega
   ·show W.cell? ⟨b,o+i*sz+n,none⟩=some v
    grind [Addr.add]
  ·intro i row n cl hi hn;obtain⟨hil,rfl⟩:=hrow i row hi;have hns:n<sz:=by grind
   obtain⟨v,h1,_⟩:=Dz i hil n hns;rw[h1];exact(hf i hil).2.1.2 n cl v hn h1
def zxm:∀{n d:Nat} {t:TypeId} {cs:List Value} {x:DataW H×List MemPlace} {s:Sh},DataW.trod enc P W 0 spare held n t cs=some x->zey P d t=some s->∃cl,VCs (zcC W) zb1 cl cs/\zfo s cl
 |0,d,t,cs,x,s,h,hs=>by simp[DataW.trod]at h
 |n+1,0,t,cs,x,s,h,hs=>by grind [zey]
 |n+1,d+1,t,cs,x,s,h,hs=>by
  have ih:∀{t:TypeId} {cs:List Value} {x:DataW H×List MemPlace} {s:Sh},DataW.trod enc P W 0 spare held n t cs=some x->zey P d t=some s->∃cl,VCs (zcC W) zb1 cl cs/\zfo s cl:=fun h hs=>zxm h hs
  simp only[zey]at hs;split at hs
  ·rename_i k hu;cases hs;obtain⟨m,rfl,_,hw⟩:=DataW.trod_int hu h;simp only[Lit.wf,jk,decide_eq_true_eq]at hw;exact⟨[.int k m],VCs.cons (.int _ _ _) VCs.nil,m,rfl,hw⟩
  ·rename_i hu;cases hs;obtain⟨b,rfl,_⟩:=DataW.trod_bool hu h;exact⟨[.bool b],VCs.cons (.bool _ _) VCs.nil,b,rfl⟩
  ·rename_i hu;cases hs;obtain⟨b,rfl,_,hb⟩:=DataW.trod_string hu h;exact⟨[.str b],VCs.cons (.str _ _) VCs.nil,b,rfl,hb⟩
  ·rename_i e hu;split at hs
   ·rename_i s' hse;split at hs
    ·rename_i hc;obtain⟨yk,uo⟩:=hc;cases hs;rcases DataW.trod_slice hu h with⟨rfl,_⟩ |⟨a,len,cap,elems,rest,m,hm,rfl,_,_,hl,yY,hel,hx,_,_⟩
     ·exact⟨[.jb []],VCs.cons (.jb _ s'.n [] none 0 0 0 (fun _ _=>undef) (jm _) (Or.inl rfl) (fun _ h=>by grind) (fun _ _ _ _ h=>by grind) (fun _ _ _ _ h=>by grind)) VCs.nil,[],rfl,jr _,fun _ h=>by grind⟩
     ·obtain rfl:n=m:=wA
      rw[yk]at hx;obtain⟨rows,h1,h2,h3⟩:=zx4 (W:=W) (a:=a) (Q:=zfo s') uo hl (fun i hi=>by
       grind [List.getElem?_eq_getElem,Option.bind_eq_some_iff])
      exact⟨[.jb rows],VCs.cons h3 VCs.nil,rows,rfl,wA,h2⟩
    grind
   grind
  ·rename_i fs hu;split at hs
   ·rename_i l hf;split at hs
    ·rename_i hc;cases hs;simp only[DataW.trod,hu]at h;split at h
     ·rename_i hl;obtain⟨xs,h1,_⟩:=ja.1 h;obtain⟨cl,h2,h3⟩:=zpb ih hf h1 (by grind);exact⟨cl,by grind,h3⟩
     grind
    grind
   grind
  ·rename_i m e hu;split at hs
   ·rename_i s' hse;split at hs
    ·rename_i hc;cases hs;obtain⟨hce,hct⟩:=hc;obtain⟨xs,k,hk,_,hl,hxs,hx⟩:=DataW.trod_array hu h;obtain rfl:n=k:=wA
     rw[hce]at hx;obtain⟨cl,h2,h3⟩:=zsB (k:=0) (m:=m) ih hse (fun i hi=>by
      have:=hx i hi;rw[jq wA]at this;exact⟨_,by simpa using this⟩) (by grind)
     exact⟨cl,by grind,h3⟩
    grind
   grind
  grind
def zAK:Sh->List Cl->WV
 |.st _,cs=>.a cs
 |_,[x]=>.c x
 |_,cs=>.a cs
def zot:List Sh->List WV->Prop
 |[],xs=>xs=[]
 |s::l,xs=>∃cl ys,xs=zAK s cl::ys/\zfo s cl/\zot l ys
def zCH{d:Nat}{t:TypeId}{v:Value}{dt:DataW H}{ps:List MemPlace}{s:Sh}{r:Reach}{base:Nat}(hs:zey P d t=some s)(h:DataW.Trod enc P W 0 spare held t v dt ps)(hok:Value.okWide P W r base t v) :
  ∃cl,WVR (zcC W) zb1 (zAK s cl) v/\zfo s cl:=by
 obtain⟨n,hn⟩:=h;obtain⟨cl,h1,h2⟩:=zxm hn hs;refine⟨cl,?_,h2⟩;cases d with
 |zero=>grind [zey]
 |succ d =>
  simp only[zey]at hs;have single:∀x,cl=[x]->(∀a,v≠.agg a)->(∀a,v≠.tuple a)->WVR (zcC W) zb1 (.c x) v:=by
   intro x hx ha ht;subst hx;obtain⟨u,us,h3,h4,h5⟩:=h1.kP;have h5:=h5.vQ;subst h5;have:v.cells = #[v]:=by
    cases v<;>first |rfl |grind |exact absurd rfl (ht _)
   rw[this]at h3;simp at h3;subst h3;exact h4
  split at hs
  ·cases hs;obtain⟨m,rfl,_⟩:=h2;exact single _ rfl (fun a ha=>by simp_all [Value.okWide,Cell.okWide,Cell.ok]) (fun a ha=>by simp_all [Value.okWide,Cell.okWide,Cell.ok])
  ·cases hs;obtain⟨m,rfl⟩:=h2;exact single _ rfl (fun a ha=>by simp_all [Value.okWide,Cell.okWide,Cell.ok]) (fun a ha=>by simp_all [Value.okWide,Cell.okWide,Cell.ok])
  ·cases hs;obtain⟨m,rfl,_⟩:=h2;exact single _ rfl (fun a ha=>by simp_all [Value.okWide,Cell.okWide,Cell.ok]) (fun a ha=>by simp_all [Value.okWide,Cell.okWide,Cell.ok])
  ·split at hs
   ·split at hs
    ·cases hs;obtain⟨m,rfl,_⟩:=h2;exact single _ rfl (fun a ha=>by simp_all [Value.okWide,Cell.okWide,Cell.ok]) (fun a ha=>by simp_all [Value.okWide,Cell.okWide,Cell.ok])
    grind
   grind
  ·rename_i fs hu;split at hs
   ·split at hs
    ·cases hs;simp only[Value.okWide,hu]at hok;obtain⟨cs,rfl,_⟩:=hok;exact⟨cs,rfl,h1⟩
    grind
   grind
  ·rename_i m e hu;split at hs
   ·split at hs
    ·cases hs;simp only[Value.okWide,hu]at hok;obtain⟨cs,rfl,_⟩:=hok;exact⟨cs,rfl,h1⟩
    grind
   grind
  grind
def zxL{d:Nat}{r:Reach}{base:Nat}:∀{ts:List TypeId} {l:List Sh} {vs:List Value} {ds:List (DataW H)} {ps:List MemPlace},zlM P d ts=some l->DataW.TrodAll enc P W 0 spare held ts vs ds ps ->
  (∀(j:Nat) t v,ts[j]?=some t->vs[j]?=some v->Value.okWide P W r base t v)->∃xs,zac (zcC W) zb1 xs vs/\zot l xs
 |[],l,[],[],ps,hs,h,hv=>by
  simp only[zlM,ji]at hs;subst hs;exact⟨[],zac.nil,rfl⟩
 |t::ts,l,v::vs,d::ds,ps,hs,h,hv=>by
  obtain⟨p,q,h1,h2,_⟩:=h;simp only[zlM]at hs;split at hs
  ·rename_i s l' h3 h4;cases hs;obtain⟨cl,h5,h6⟩:=zCH h3 h1 (hv 0 t v rfl rfl);obtain⟨xs,h7,h8⟩:=zxL h4 h2 (fun j t v ht hv'=>hv (j+1) t v (by grind) (by grind));exact⟨zAK s cl::xs,zac.cons h5 h7,cl,xs,rfl,h6,h8⟩
  grind
end
open Go Go.ChangeShapes
section
variable[zb0]
def zsd{P:Program}{cf:za4}(hcf:FnS P cf){f:FuncId}(hf:f<zb0.base){args:List WV}{vs:Array Value}{w:World}{σ:zP}{j:Inj}{M M':Mem}(h:cf f args M=some (.w (.c (.bool true)),M'))(vC:Mem.full M)
  (hag:zM σ w) (hm:MR (fun b=>w.heap.size<=b) σ j M w) (hvs:zac σ j args vs.toList) :
  Calls P f vs w fun e w'=>e=.returned (.bool true)/\zd9 w w'/\∀i,i<w.heap.size->w'.heap[i]?=w.heap[i]?:=by
 obtain⟨_,_,_,_,hc⟩:=(hcf f args M _ _ h vC).1 hf;refine Calls.yf (hc (fun b=>w.heap.size<=b) σ j w vs (fun _ h=>h) hag hm hvs) ?_;rintro e w' ⟨v,σ',j',rfl,hr,_,_,hst⟩;cases hr;exact⟨rfl,hst.side,fun i hi=>hst.frame i hi wA⟩
end
section
variable{H:Type}{enc:TypeId×Value->H}{P:Program}
def zwm{w w':World}(h:∀i,i<w.heap.size->w'.heap[i]?=w.heap[i]?){p:MemPlace}(hp:p.block<w.heap.size):w.sameAt w' p:=by
 cases p with
 |cell b off =>
  have e:=h b hp;show w'.cell? ⟨b,off,none⟩=w.cell? ⟨b,off,none⟩
  grind [World.cell?]
 |map b=>exact h b hp
def zpc{w w':World}(h:∀i,i<w.heap.size->w'.heap[i]?=w.heap[i]?){base:Nat}{sp:Nat->Bool}{hd:Bool}:∀{ts:List TypeId} {vs:List Value} {ds:List (DataW H)} {ps:List MemPlace},
  (∀p∈ps,p.block<w.heap.size)->DataW.TrodAll enc P w base sp hd ts vs ds ps->DataW.TrodAll enc P w' base sp hd ts vs ds ps
 |[],[],[],_,_,h2=>h2
 |_::_,_::_,_::_,_,hl,⟨p,q,⟨n,h1⟩,h2,e⟩=>by
  subst e;exact⟨p,q,⟨n,DataW.trod_carry n _ _ _ h1 fun x hx=>zwm h (hl x (kV _ hx))⟩,zpc h (fun x hx=>hl x (qj _ hx)) h2,rfl⟩
def zpd{w:World}{base:Nat}{sp:Nat->Bool}{hd:Bool}:∀{ts:List TypeId} {vs:List Value} {ds:List (DataW H)} {ps:List MemPlace},DataW.TrodAll enc P w base sp hd ts vs ds ps->ds.length=ts.length
 |[],[],[],_,_=>rfl
 |_::_,_::_,_::_,_,⟨_,_,_,h2,_⟩=>by simp[zpd h2]
 |[],_::_,_,_,h |[],[],_::_,_,h |_::_,[],_,_,h |_::_,_::_,[],_,h=>by grind [DataW.TrodAll]
def zAf [zb0]{w w':World}(hs:zd9 w w')(hold:∀i,i<w.heap.size->w'.heap[i]?=w.heap[i]?){may:MemPlace->Prop}:w.keptBut w' may:=by
 refine⟨hs.os,hs.output,fun i hi=>?_⟩
 grind
def zzI{f:Func}{s:ChangeSpec}{apart fresh handsOn again:Bool}{W W':World}{args:Array Value}{v:Value}{ds gs:List (DataW H)}{before pa pv:List MemPlace}
  (hW:DataW.Whole enc P f.params.toList s.vars apart W args.toList ds gs before) (hold:∀i,i<W.heap.size->W'.heap[i]?=W.heap[i]?) (hk:W.keptBut W' (·∈before)) (hps:before=pa++pv)
  (Bs:∀(b:Nat) (sp:Nat->Bool) (hd:Bool),DataW.TrodAll enc P W' b sp hd f.resultTypes.toList (v.resultList f.resultTypes.size) (s.fn H (ds++gs)).results [])
  (Cq:∀sp:Nat->Bool,(∀p∈before,sp p.block=true)->DataW.TrodAll enc P W' 0 sp true f.params.toList args.toList (s.fn H (ds++gs)).args pa)
  (Ch:∀sp:Nat->Bool,(∀p∈before,sp p.block=true)->DataW.TrodVars enc P W' sp s.vars (s.fn H (ds++gs)).vars pv)
  (hok:∀(j:Nat) (t:TypeId) (r:Value),f.resultTypes[j]?=some t->(v.resultList f.resultTypes.size)[j]?=some r->Value.okWide P W' .any 0 t r) :
  s.post enc P f apart fresh handsOn again W args v W':=by
 have hlt:∀p∈before,p.block<W.heap.size:=fun p hp=>hW.lt p hp
 refine⟨ds,gs,before,[],pa,pv,hW,Bs _ _ _,Cq _ fun p hp=>decide_eq_true (hlt p hp),Ch _ fun p hp=>decide_eq_true (hlt p hp),World.keptBut_mono (fun p hp=>⟨hp,?_⟩) hk,fun _=>?_⟩
 ·grind
 ·have hW2:=hW;obtain⟨_,_,_,_,_,hz,hn⟩:=hW2;have ve:∀p∈before,(fun _:Nat=>true) p.block=true:=fun _ _=>rfl
  refine⟨hok,_,_,([]++pa)++pv,⟨[]++pa,pv,trodAll_append (Cq _ ve) (Bs _ _ _),Ch _ ve,rfl,fun b off hp=>?_,fun ha=>?_⟩,fun p hp _=>?_⟩
  ·have hp':MemPlace.cell b off∈before:=by grind
   have h1:=hz b off hp';have h2:=hold b (hlt _ hp')
   grind [World.frozen?]
  ·grind
  grind
def zzA [GlobP](u9:P.follows .mixedOrders=true){an:Ann}{L:List (Nat×CFn)}{Cs:List (Nat×Nat×Nat×Bool)}(hL:(L.map fun p=>zcF P an true p.1)=L.map fun p=>some p.2)(hV:zql P L=true)
  (hC:(Cs.all fun c=>c.2.1==0||zf2 P c.1 c.2.1 c.2.2.1)=true) (hS:∀c∈Cs,c.2.1=0->zqh P c) {fid:FuncId} (hfid:fid<P.funcs.size) {f:Func} {s:ChangeSpec} {l:List Sh} {d:Nat} {tb:TypeId}
  (hsh:zlM P d f.params.toList=some l) (Bs:f.resultTypes = #[tb]) (htb:P.underlying tb=some .bool) (Ch:s.vars=[])
  (hfn:∀ds:List (DataW H),ds.length=f.params.toList.length->s.fn H ds={ results:=[.lit (.bool true)],args:=ds })
  (hlaid:laidOutB P=true) (hmaps:mapsRowed P=true) (hts:f.params.toList.all (· < P.types.size)=true)
  (vC:((List.range P.types.size).all fun t=>match P.underlying t with |some (.slice e)=>decide (0<P.cellsOf e) |_=>true)=true)
  (ui:∀xs,zot l xs->∃M',R L Cs fid xs []=some (.w (.c (.bool true)),M'))
  {W:World} {base:Nat} {args:Array Value} {ds gs:List (DataW H)} {before:List MemPlace}
  (hG:GK (zcC W)) (hval:∀(j:Nat) t v,f.params[j]?=some t->args[j]?=some v->Value.okWide P W .any base t v) (hW:DataW.Whole enc P f.params.toList s.vars false W args.toList ds gs before) :
  Calls P fid args W fun e W'=>∃v,e=.returned v/\s.post enc P f false true false false W args v W':=by
 letI:=zww P (fun f=>L.lookup f) (Zpp Cs);have hW':=hW;obtain⟨p,q,hA,hV',hb,hfz,hnd⟩:=hW;rw[Ch]at hV';have hg:gs=[]/\q=[]:=by
  cases gs with
  |nil=>exact⟨rfl,hV'⟩
  |cons g gs=>grind [absurd,DataW.TrodVars]
 obtain⟨rfl,rfl⟩:=hg;obtain⟨xs,hx1,hx2⟩:=zxL hsh hA (fun j t v ht hv=>hval j t v (by grind) (by grind));obtain⟨M',hr⟩:=ui xs hx2;obtain⟨n,hn⟩:=zah.1 hr;refine(zsd (zsT u9 hL hV hC hS n) (f:=fid) hfid hn (fun id hid=>by grind) (zml (W:=W) hG) MR.nil hx1).mono fun e W' ⟨he,hsd,hold⟩=>?_
 subst he;have hlen:=zpd hA;have e0:s.fn H (ds++[])={ results:=[.lit (.bool true)],args:=ds }:=by grind
 have hlt:∀p'∈p,p'.block<W.heap.size:=fun p' hp=>hA.lt p' hp
 refine⟨_,rfl,zzI (pa:=p) (pv:=[]) hW' hold (zAf hsd hold) hb (fun b sp hd=>?_) (fun sp hsp=>?_) (fun sp _=>?_) ?_⟩
 ·rw[e0,Bs];exact⟨[],[],⟨1,by simp[DataW.trod,htb,Value.cells,Value.resultList]⟩,rfl,rfl⟩
 ·rw[e0];exact DataW.TrodAll.respare (T:=(· < P.types.size)) (kids_rows hlaid hmaps) (slices_full_of P vC) (fun t ht=>by grind) (zpc hold hlt hA) (fun x hx=>hsp x (by grind))
 ·rw[Ch,e0];rfl
 ·intro j t r hj hr;rw[Bs]at hj hr;cases j with
  |zero =>
   simp[Value.resultList]at hj hr;subst hj;subst hr;simp[Value.okWide,Cell.okWide,Cell.ok,htb]
  |succ j=>grind
end
def zmE{α β:Type}{f g:α->β}{l:List α}{n i:Nat}(h1:((l.drop i).take n).map f=((l.drop i).take n).map g)(h2:(l.drop (i+n)).map f=(l.drop (i+n)).map g):(l.drop i).map f=(l.drop i).map g:=by
 grind [List.take_append_drop,List.drop_drop]
def zsc{α β:Type}{f g:α->β}{l:List α}{i:Nat}(h:l.length<=i):(l.drop i).map f=(l.drop i).map g:=by
 grind [List.drop_of_length_le]
def zpx{α σ ρ:Type}(f:Nat->σ->α->σ ⊕ ρ):Nat->σ->List α->σ ⊕ ρ
 |_,s,[]=>.inl s
 |i,s,x::xs=>match f i s x with
  |.inl s'=>zpx f (i+1) s' xs
  |.inr r=>.inr r
def zM6{α σ:Type}(f:Nat->σ->α->σ):Nat->σ->List α->σ
 |_,s,[]=>s
 |i,s,x::xs=>zM6 f (i+1) (f i s x) xs
def zMd{α σ:Type}(f:σ->α->σ):∀(l:List α) (i:Nat) (s:σ),zM6 (fun _=>f) i s l=l.foldl f s
 |[],_,_=>rfl
 |x::l,i,s=>by exact zMd f l (i+1) (f s x)
abbrev bx(n:Nat)(row:List Cl):Option Blk:=some { box:=true,esz:=n,rows:=[row],gen:=0,fz:=false,ver:=0 }
abbrev bxv(v:Nat)(n:Nat)(row:List Cl):Option Blk:=some { box:=true,esz:=n,rows:=[row],gen:=0,fz:=false,ver:=v }
abbrev gb(es:Nat):Option Blk:=some { box:=false,esz:=es,rows:=[],gen:=0,fz:=false,ver:=0 }
abbrev Pt(k:Nat):WV:=.c (.ptr k 0 0 0)
section
variable[GlobP]{L:List (Nat×CFn)}{Cs:List (Nat×Nat×Nat×Bool)}{b:CC}{live:Option (List Nat)}{n0:Nat}
def ZfM{b':CC}(h:b=b')(E:Env)(M:Mem):Y L Cs b live n0 E M=match X L Cs b' E M with
  |some (.normal,E',M')=>Y L Cs b live n0 (canon n0 live E' M').1 (canon n0 live E' M').2
  |r=>r:=by
 grind [zrL]
def zBT{α σ ρ:Type}(l:List α)(E:Nat->σ->Env)(M:Nat->σ->Mem)(inv:Nat->σ->Prop)(f:Nat->σ->α->σ ⊕ ρ)(out:ρ->EX×Env×Mem)(e:σ->EX×Env×Mem)
  (hs:∀(i:Nat) (h:i<l.length) s,inv i s->match f i s l[i]with
   |.inl s'=>inv (i+1) s'/\Y L Cs b live n0 (E i s) (M i s)=Y L Cs b live n0 (E (i+1) s') (M (i+1) s')
   |.inr r=>Y L Cs b live n0 (E i s) (M i s)=some (out r))
  (he:∀s,inv l.length s->Y L Cs b live n0 (E l.length s) (M l.length s)=some (e s)) {s0:σ} (h0:inv 0 s0) :
  Y L Cs b live n0 (E 0 s0) (M 0 s0)=some (match zpx f 0 s0 l with |.inl s=>e s |.inr r=>out r):=by
 have key:∀(r:List α) (i:Nat) (s:σ),l.drop i=r->i<=l.length->inv i s->Y L Cs b live n0 (E i s) (M i s)=some (match zpx f i s r with |.inl s=>e s |.inr r=>out r):=by
  intro r;induction r with
  |nil =>
   intro i s hd hi hv;have:i=l.length:=by
    have:=congrArg List.length hd;simp at this;omega
   subst this;exact he s hv
  |cons x r ih =>
   intro i s hd hi hv;have hil:i<l.length:=by
    have:=congrArg List.length hd;simp at this;omega
   have hd':l.drop (i+1)=r:=by
    rw[jv hil]at hd;exact(ka hd).2
   have hx:l[i]=x:=by
    rw[jv hil]at hd;exact(ka hd).1
   have:=hs i hil s hv;rw[hx]at this;simp only[zpx];split at this
   ·rename_i s' hf;rw[this.2,ih (i+1) s' hd' hil this.1]
   ·rw[this]
 grind
def zPH{α σ:Type}(l:List α)(E:Nat->σ->Env)(M:Nat->σ->Mem)(inv:Nat->σ->Prop)(f:Nat->σ->α->σ)(e:σ->EX×Env×Mem)
  (hs:∀(i:Nat) (h:i<l.length) s,inv i s->inv (i+1) (f i s l[i])/\Y L Cs b live n0 (E i s) (M i s)=Y L Cs b live n0 (E (i+1) (f i s l[i])) (M (i+1) (f i s l[i])))
  (he:∀s,inv l.length s->Y L Cs b live n0 (E l.length s) (M l.length s)=some (e s)) {s0:σ} (h0:inv 0 s0) :
  Y L Cs b live n0 (E 0 s0) (M 0 s0)=some (e (zM6 f 0 s0 l)):=by
 have h:=zBT (ρ:=Unit) l E M inv (fun i s x=>.inl (f i s x)) (fun _=>(.normal,[],[])) e (fun i h s hv=>hs i h s hv) he h0;have h2:∀(r:List α) (i:Nat) (s:σ),zpx (ρ:=Unit) (fun i s x=>.inl (f i s x)) i s r=.inl (zM6 f i s r):=by
  intro r;induction r with
  |nil=>intro i s;rfl
  |cons x r ih=>grind [zpx,zM6]
 grind
def zxf{α:Type}(l:List α)(E:Nat->Env)(M:Mem)(p:α->Bool)(out:Nat->EX×Env×Mem)(e:EX×Env×Mem)
  (hs:∀(i:Nat) (h:i<l.length),p l[i]=false->Y L Cs b live n0 (E i) M=Y L Cs b live n0 (E (i+1)) M)
  (hh:∀(i:Nat) (h:i<l.length),p l[i]=true->Y L Cs b live n0 (E i) M=some (out i))
  (he:Y L Cs b live n0 (E l.length) M=some e) :
  Y L Cs b live n0 (E 0) M=some (match l.findIdx? p with |some i=>out i |none=>e):=by
 have h:=zBT (σ:=Unit) (ρ:=Nat) l (fun i _=>E i) (fun _ _=>M) (fun _ _=>True) (fun i s x=>if p x then .inr i else .inl s) out (fun _=>e)
  (fun i h s _=>by
   grind) (fun s _=>he) (s0:=()) trivial
 have h2:∀(r:List α) (i:Nat),(match zpx (σ:=Unit) (ρ:=Nat) (fun i s x=>if p x then .inr i else .inl s) i () r with |.inl _=>e |.inr r=>out r)=(match r.findIdx? p with |some k=>out (i+k) |none=>e):=by
  intro r;induction r with
  |nil=>grind [zpx]
  |cons x r ih =>
   intro i;simp only[zpx,vP];cases hp:p x with
   |true=>simp
   |false =>
    simp only[jI,if_false];rw[ih (i+1)];cases r.findIdx? p<;>simp[qf,Nat.add_comm,Nat.add_left_comm]
 grind
def zpE{α:Type}(l:List α)(E:Nat->Env)(M:Mem)(p:α->Bool)(out e:EX×Env×Mem)
  (hs:∀(i:Nat) (h:i<l.length),p l[i]=false->Y L Cs b live n0 (E i) M=Y L Cs b live n0 (E (i+1)) M)
  (hh:∀(i:Nat) (h:i<l.length),p l[i]=true->Y L Cs b live n0 (E i) M=some out)
  (he:Y L Cs b live n0 (E l.length) M=some e) :
  Y L Cs b live n0 (E 0) M=some (if l.any p then out else e):=by
 rw[zxf l E M p (fun _=>out) e hs hh he]
 grind
end
end Go.Eng
