/- This text proves parts of an evaluator's soundness: what the evaluator answers, the model's run does; no condition. -/
import Derived.Test.YtiakbjhnpchbhaaGreatEg2
import Derived.Sort.Grow
import Derived.Sort.AssemblyPlain
import Derived.RowKit3
import Derived.ChangeShapes
import Derived.ChangeSame
import Derived.ReadAgain
import Derived.OpenShut
set_option linter.unusedVariables false
set_option linter.unusedSimpArgs false
set_option linter.unusedSectionVars false
namespace Go.Eng
open Go
section
variable[GlobP]
def an0:Ann:={ mode:=fun _=>⟨true⟩,frz:=fun _=>true }
def nilCheck(P:Program)(id:Nat)(o:Array Oper)(esz:Nat):Bool:=match zeP P an0 8 id o.toList false with
 |some (1,[⟨_,some 2,none,.ko 0 e⟩],[])=>e==esz
 |_=>false
def zsE(P:Program)(o:Array Oper):Bool:=match zdT P o.toList an0.mode 8 0 with
 |some ⟨_,some 3,none,.mv (.s 0)⟩=>(match o.toList with
  |[_,⟨some 4,.binOp .eql S (.tmp 3) (.const (.slice none 0 0)) _,_,_,_,none⟩]=>(match P.underlying S with |some (.slice _)=>true |_=>false)
  |_=>false)
 |_=>false
def ztd(P:Program)(id:Nat)(o:Array Oper)(esz bytes:Nat):Bool:=match zeP P an0 8 id o.toList false with
 |some (1,[⟨_,some 5,none,.lit 0 e [] []⟩,⟨_,some 6,none,.mv (.s 0)⟩,⟨_,some 7,none,.append e' b (.s 5) (.s 6)⟩,⟨_,some 2,none,.mv (.s 7)⟩],[])=>e==esz&&e'==esz&&b==bytes
 |_=>false
def zf2(P:Program)(f:FuncId)(esz bytes:Nat):Bool:=match P.funcs[f]? with
 |some fn=>match fn.body with
  |some (.seq (.region i0 o0 false) (.seq (.seq (.region _ o1 false) (.cond (.tmp 4) (.seq (.region i2 o2 false) .ret) .skip)) (.seq (.region i3 o3 false) .ret))) =>
   !(fn.name == "runtime.NumGoroutine")&&fn.ntmps==8&&(match fn.results.toList with |[.tmp 2]=>true |_=>false)&&nilCheck P i0 o0 esz&&zsE P o1&&nilCheck P i2 o2 esz&&ztd P i3 o3 esz bytes
  |_=>false
 |none=>false
def zuh(esz bytes:Nat)(frz:Bool)(x:Cl):Mem->Option (AV×Mem)
 |[]=>match x with
  |.jc ys=>if ys.all (fun r=>r.length==esz)&&roomy ys.length bytes&&0<esz then
    some (if frz then(.w (.c (.jc ys)),[]) else
     (.w (.c (.slice 0 ys.length esz 0 ys.length none)),[some { box:=false,esz,rows:=ys,gen:=ys.length,fz:=false,ver:=ys.length }]))
   else none
  |_=>none
 |_=>none
def zgk(k key i:Nat):Bool:=key==7&&i+1==k
def zjS(b:Bool)(z:Int):Cl:=if b then .bool (z !=0) else .int .i64 z
def zuC(k key:Nat):Nat->List Cl->Option (List Int)
 |_,[]=>some []
 |i,c::l=>match c with
  |.int .i64 n=>if zgk k key i then none else(zuC k key (i+1) l).map (n :: ·)
  |.bool b=>if zgk k key i then(zuC k key (i+1) l).map ((if b then 1 else 0) :: ·) else none
  |_=>none
def zv2(k key:Nat):List (List Cl)->Option (List (List Int))
 |[]=>some []
 |r::l=>match zuC k key 0 r,zv2 k key l with
  |some x,some xs=>some (x::xs)
  |_,_=>none
def zhX:List Int->List Int->Bool
 |[],[]=>false
 |[],_::_=>true
 |_::_,[]=>false
 |x::xs,y::ys=>decide (x<y)||(decide (x=y)&&zhX xs ys)
def zsY(k key:Nat)(x:List Int):List Int:=(List.range k).map fun i=>if zgk k key i then(if x.getD i 0 !=0 then 1 else 0) else x.getD i 0
def ltZ(k key:Nat)(x y:List Int):Bool:=if key=7 then zhX (zsY k key x) (zsY k key y) else decide (x.getD key 0<y.getD key 0)
def zsn(n:Nat):Nat:=if n=0 then 0 else n.log2+1
def ziS(k key:Nat)(l:List (List Int)):List (List Int):=(Go.Sort.pdq (ltZ k key) l.toArray 0 l.length (zsn l.length) true true).toList
theorem zqV:∀x,zhX x x=false
 |[]=>rfl
 |x::xs=>by simp[zhX,zqV xs]
theorem zkz:∀{x y z:List Int},zhX x y=true->zhX y z=true->zhX x z=true
 |[],[],_,h,_=>by simp[zhX]at h
 |[],_::_,[],_,h=>by simp[zhX]at h
 |[],_::_,_::_,_,_=>rfl
 |_::_,[],_,h,_=>by simp[zhX]at h
 |_::_,_::_,[],_,h=>by simp[zhX]at h
 |x::xs,y::ys,z::zs,h1,h2=>by
  simp only[zhX,qd,decide_eq_true_eq,jh]at *;rcases h1 with h1 |⟨rfl,h1⟩
  ·rcases h2 with h2 |⟨rfl,h2⟩
   ·left;omega
   ·left;exact h1
  ·rcases h2 with h2 |⟨rfl,h2⟩
   ·left;exact h2
   ·right;exact⟨rfl,zkz h1 h2⟩
theorem znq:∀{x y:List Int},zhX x y=false->zhX y x=false->x=y
 |[],[],_,_=>rfl
 |[],_::_,h,_=>by simp[zhX]at h
 |_::_,[],_,h=>by simp[zhX]at h
 |x::xs,y::ys,h1,h2=>by
  simp only[zhX,yb,decide_eq_false_iff_not,Bool.and_eq_false_iff]at *;have e:x=y:=by omega
  subst e;rcases h1.2 with h|h
  ·exact absurd rfl h
  ·rcases h2.2 with g|g
   ·exact absurd rfl g
   ·rw[znq h g]
theorem zu5{x y z:List Int}(h1:zhX x y=false)(h2:zhX y z=false):zhX x z=false:=by
 cases h:zhX x z with
 |false=>rfl
 |true =>
  cases hyx:zhX y x with
  |true=>rw[zkz hyx h]at h2;cases h2
  |false=>rw[znq h1 hyx,h2]at h;cases h
theorem ztY(k key:Nat):Go.Sort.SWO (ltZ k key) where
 irrefl x:=by
  unfold ltZ;split
  ·exact zqV _
  ·simp
 trans x y z h1 h2:=by
  unfold ltZ at *;split
  ·rename_i h;rw[if_pos h]at h1 h2;exact zkz h1 h2
  ·rename_i h;rw[if_neg h]at h1 h2;simp at *;omega
 ntrans x y z h1 h2:=by
  unfold ltZ at *;split
  ·rename_i h;rw[if_pos h]at h1 h2;exact zu5 h1 h2
  ·rename_i h;rw[if_neg h]at h1 h2;simp at *;omega
theorem znh(k key:Nat)(l:List (List Int)):Go.Sort.PermIn 0 l.length l.toArray (Go.Sort.pdq (ltZ k key) l.toArray 0 l.length (zsn l.length) true true)/\Go.Sort.SortedIn (ltZ k key) 0 l.length (Go.Sort.pdq (ltZ k key) l.toArray 0 l.length (zsn l.length) true true) :=
 Go.Sort.pdq_sorts (ltZ k key) (ztY k key) l.toArray 0 l.length _ true true (jD _) (by simp) (Or.inl rfl)
theorem zx2(k key:Nat)(l:List (List Int)):(ziS k key l).length=l.length:=by
 have:=(znh k key l).1.1;simpa [ziS]using this
def zsl(k key:Nat)(l:List Int):List Cl:=(List.range k).map fun i=>zjS (zgk k key i) (l.getD i 0)
def zqs(k key:Nat)(x:Cl)(M:Mem):Option (AV×Mem):=match x with
 |.jd=>some (.t [],M)
 |.slice id g _ off len _ =>
  if len=0 then some (.t [],M) else
  match look M id g with
  |some b =>
   if !b.box && !b.fz&&off+len<=b.rows.length&&b.esz==k&&decide (len<4611686018427387904) then
    match zv2 k key ((b.rows.drop off).take len)with
    |some zs=>some (.t [],M.set id (some { b with rows:=b.rows.take off++(ziS k key zs).map (zsl k key)++b.rows.drop (off+len),ver:=b.ver+1 }))
    |none=>none
   else none
  |none=>none
 |_=>none
def yg(Cs:List (Nat×Nat×Nat×Bool)):za4:=fun f args M=>match Cs.lookup f with
 |some (esz,bytes,frz)=>match args with
  |[.c x]=>if esz=0 then none else zuh esz bytes frz x M
  |[.c x,.c (.fn g [] [])]=>if esz=0/\bytes≠0/\bytes / 64=g then zqs (bytes / 8 % 8) (bytes % 8) x M else none
  |_=>none
 |none=>none
end
section
variable[zb0]{own:Nat->Prop}{P:Program}{σ:zP}{j:Inj}{M:Mem}{w:World}
theorem zuP{ys:List (List Cl)}{v:Value}(hv:VC σ j (.jc ys) v):∃b l c,v=.slice b l c/\(b=none->ys=[]):=by
 cases hv with
 |jc _ es rows a c b o val hl ha hr h1 h2 =>
  refine⟨a,ys.length,c,rfl,fun hb=>?_⟩;rcases ha with ha|ha
  ·exact ha
  ·rw[hb]at ha;cases ha
theorem zTn(d:Nat)(t e:TypeId)(b:Option Addr)(l c:Nat)(w:World)(h:P.underlying t=some (.slice e)):(Op.equalIn (d+1) t (.slice b l c) (.slice none 0 0)).run P w=.ok b.isNone w:=by
 cases b<;>simp[Op.equalIn,run_underlying h]
theorem zpK(t e:TypeId)(b:Option Addr)(l c:Nat)(w:World)(h:P.underlying t=some (.slice e)):(Op.equal t (.slice b l c) (.slice none 0 0)).run P w=.ok b.isNone w :=
 zTn 9999 t e b l c w h
abbrev gh(esz:Nat):Blk:={ box:=false,esz,rows:=[],gen:=0,fz:=false,ver:=0 }
abbrev cl1(esz:Nat)(ys:List (List Cl)):Blk:={ box:=false,esz,rows:=ys,gen:=ys.length,fz:=false,ver:=ys.length }
theorem zAv{esz bytes:Nat}{ys:List (List Cl)}{E:Env}{i0 i1 i2 i3:Nat}(hE:E.get 0=some (.w (.c (.jc ys))))(hys:ys.all (fun r=>r.length==esz)=true)(qI:0<esz)(jZ:roomy ys.length bytes=true) :
  ∃E' fs,zks noX 1 [⟨i0,some 5,none,.lit 0 esz [] []⟩,⟨i1,some 6,none,.mv (.s 0)⟩,⟨i2,some 7,none,.append esz bytes (.s 5) (.s 6)⟩,⟨i3,some 2,none,.mv (.s 7)⟩] E ([some (gh esz)]++qF 1) =
   some (E',[some (gh esz),some (cl1 esz ys)],fs)/\E'.get 2=some (.w (.c (.slice 1 ys.length esz 0 ys.length none))):=by
 have s1:zbm noX 1 ⟨i0,some 5,none,.lit 0 esz [] []⟩ E.get ([some (gh esz)]++qF 1)=some (.w (.c (.slice 1 0 esz 0 0 none)),[some (gh esz),some (gh esz)],.no):=by
  simp[zbm,opF,zdS,qI,zcf,zbg,zg,qF,gh]
 have h4:zcB [some (gh esz),some (gh esz)] esz bytes (.slice 1 0 esz 0 0 none) (.jc ys)=some (.w (.c (.slice 1 ys.length esz 0 ys.length none)),[some (gh esz),some (cl1 esz ys)],.wr [(1,0,whole)]):=by
  simp only[zcB,zeF];rw[if_pos hys];cases ys with
  |nil=>simp only[js]at jZ;simp[look,gh,cl1,qI];exact jZ
  |cons y ys=>simp[look,gh,cl1,qI]at jZ ⊢;exact jZ
 have s2:∀(v:AV) (M1:Mem),zbm noX 1 ⟨i1,some 6,none,.mv (.s 0)⟩ (Env.put E (some 5) v).get M1=some (.w (.c (.jc ys)),M1,.no):=fun v M1=>by
  simp[zbm,opF,Opd.av,Opd.ev,Env.put,Env.get,hE]
 have s3:∀(v:AV),zbm noX 1 ⟨i2,some 7,none,.append esz bytes (.s 5) (.s 6)⟩ (Env.put (Env.put E (some 5) (.w (.c (.slice 1 0 esz 0 0 none)))) (some 6) (.w (.c (.jc ys)))).get [some (gh esz),some (gh esz)]=some (.w (.c (.slice 1 ys.length esz 0 ys.length none)),[some (gh esz),some (cl1 esz ys)],.wr [(1,0,whole)]):=fun v=>by
  simp[zbm,opF,Opd.av,Opd.ev,Env.put,Env.get,h4]
 have s4:∀(y:AV) (E:Env) (x:WV) (M1:Mem),zbm noX 1 ⟨i3,some 2,none,.mv (.s 7)⟩ (Env.put E (some 7) (.w x)).get M1=some (.w x,M1,.no):=fun y E x M1=>by
  simp[zbm,opF,Opd.av,Opd.ev,Env.put,Env.get]
 refine⟨Env.put (Env.put (Env.put (Env.put E (some 5) (.w (.c (.slice 1 0 esz 0 0 none)))) (some 6) (.w (.c (.jc ys)))) (some 7) (.w (.c (.slice 1 ys.length esz 0 ys.length none)))) (some 2) (.w (.c (.slice 1 ys.length esz 0 ys.length none))),[.no,.no,.wr [(1,0,whole)],.no],?_,?_⟩
 ·simp only[zks,s1,s2,s3 .u,s4 .u]
 ·simp[Env.put,Env.get]
theorem zvu{esz:Nat}{ys:List (List Cl)}(frz:Bool):leave frz 0 (.w (.c (.slice 1 ys.length esz 0 ys.length none))) [some (gh esz),some (cl1 esz ys)] =
  some (if frz then(.w (.c (.jc ys)),[]) else(.w (.c (.slice 0 ys.length esz 0 ys.length none)),[some (cl1 esz ys)])):=by
 cases frz with
 |true=>simp[leave,zoS,zn7,zdR,look,gh,cl1,finish,AV.below,WV.below,WV.cells,below,uX,zH]
 |false=>simp[leave,finish,AV.below,WV.below,WV.cells,below,uX,zH,AV.ids,WV.ids,zBH,C0,collect,zfj,zpw,Blk.ids,zku,znn,zpM,zeS,uv,zd3,zck,zhj,cl1]
theorem zrt(u6:P.follows .mixedOrders=true){f:FuncId}{esz bytes:Nat}{frz:Bool}{x:Cl}{v:Value}{res:AV}{M':Mem}(hck:zf2 P f esz bytes=true)(h:zuh esz bytes frz x M=some (res,M')) :
  ∃fn,P.funcs[f]?=some fn/\fn.body.isNone=false/\(fn.name == "runtime.NumGoroutine")=false /\
   ((∀b,w.heap.size<=b->own b)->zM σ w->MR own σ j M w->VC σ j x v->Calls P f #[v] w (Ret own σ j M w res M')):=by
 unfold zf2 at hck;split at hck
 ·rename_i fn hfn;split at hck
  ·rename_i i0 o0 i1 o1 i2 o2 i3 o3 CQ;simp only[jh,kR,beq_iff_eq]at hck;obtain⟨⟨⟨⟨⟨⟨AR,hnt⟩,AK⟩,hk0⟩,hk1⟩,hk2⟩,hk3⟩:=hck;refine⟨fn,hfn,by simp[CQ],by simpa using AR,fun k8 hag hm hv=>?_⟩;obtain⟨ys,rfl,rfl,vo,jZ,qI,B0⟩:∃ys,x=.jc ys/\M=[]/\ys.all (fun r=>r.length==esz)=true/\roomy ys.length bytes=true/\0<esz /\
     leave frz 0 (.w (.c (.slice 1 ys.length esz 0 ys.length none))) [some (gh esz),some (cl1 esz ys)]=some (res,M'):=by
    unfold zuh at h;split at h
    ·split at h
     ·rename_i ys;split at h
      ·rename_i hc;simp only[jh,decide_eq_true_eq]at hc;exact⟨ys,rfl,rfl,hc.1.1,hc.1.2,hc.2,by rw[zvu];exact h⟩
      ·cases h
     ·cases h
    ·cases h
   obtain⟨b,l,c,rfl,hbn⟩:=zuP hv;have hresl:fn.results.toList=[.tmp 2]:=by
    split at AK
    ·rename_i hr;exact hr
    ·cases AK
   have hF:zhz Fence.wide:=⟨fun _=>trivial,rfl,rfl⟩;have hat0:At own σ j (vC 0 [.c (.jc ys)]).get [] 8 { tmps:=#[.slice b l c]++Array.replicate (fn.ntmps-(#[Value.slice b l c]:Array Value).size) undef,defers:=[] } w:=by
    refine⟨zo7 (vs:=[.slice b l c]) (zac.cons hv zac.nil) (fun k u hk=>?_),by simp[hnt],zj3.nil,hag,hm,k8⟩;have hk0:k=0:=by have:=zC hk;simpa using this
    subst hk0;simp at hk;subst hk;rw[kT (by simp)];rfl
   refine(callsIn_wide (n:=0)).1 (callsIn_of_wp_marks hfn CQ trivial (wpIn_seq ?_));unfold nilCheck at hk0;split at hk0
   ·rename_i ix0 e0 hc0;obtain rfl:e0=esz:=by simpa using hk0
    refine ziY (n:=0) hF znV u6 hc0 (E:=vC 0 [.c (.jc ys)]) (E':=(2,.w (.c (.slice 0 0 e0 0 0 none)))::vC 0 [.c (.jc ys)]) (M':=[some (gh e0)]) (fs:=[.no]) (by simp[zks,zbm,opF,Env.put,qF,zg,gh]) (by simp) hat0 fun a1 w1 σ1 j1 Aq yp _ hd1=>?_
    refine wpIn_seq (wpIn_seq ?_);unfold zsE at hk1;split at hk1
    ·rename_i ix1 hca;split at hk1
     ·rename_i oa S yt ty pos aft hol;obtain⟨eT,hS⟩:∃e,P.underlying S=some (.slice e):=by
       split at hk1
       ·rename_i e he;exact⟨e,he⟩
       ·cases hk1
      have ho1:o1 = #[oa,⟨some 4,.binOp .eql S (.tmp 3) (.const (.slice none 0 0)) yt,ty,pos,aft,none⟩]:=ut (by simpa using hol);refine wpIn_region ?_;have hsz:o1.size=2:=by rw[ho1];rfl
      rw[hsz];show wpOpsIn _ _ _ _ _ [0,1] _ _;rw[wpOpsIn_cons];refine zoz hF znV hca (av:=.w (.c (.jc ys))) (M':=[some (gh e0)]) (fp:=.no) (n0:=0) (by simp[zbm,opF,Opd.av,Opd.ev,Env.get,vC]) Aq fun a2 w2 σ2 j2 Bb yw hd2=>?_
      rw[wpOpsIn_cons];obtain⟨v3,hv3,hr3⟩:=Bb.env 3 (.w (.c (.jc ys))) (by simp[zjC]);obtain⟨b3,l3,c3,rfl,hb3⟩:=zuP hr3;have he3:a2.eval (.tmp 3)=.slice b3 l3 c3:=by simp[Act.eval,kX,hv3]
      have Cf:(execOp a2.eval ⟨some 4,.binOp .eql S (.tmp 3) (.const (.slice none 0 0)) yt,ty,pos,aft,none⟩).run P w2=.ok (.value (.bool b3.isNone)) w2:=by
       simp[execOp,hv3,Act.eval,eqGuard,binOp,zpK _ _ _ _ _ _ hS]
      have BE:=Bb.put (d:=some 4) (av:=.w (.c (.bool b3.isNone))) (v:=.bool b3.isNone) (fun x hx=>by cases hx;omega) (VC.bool _ _) Bb.ya Bb.mem za2.refl;rw[<-ztG,<-ztG]at BE;unfold wpOpIn;have ho11:o1[1]?=some ⟨some 4,.binOp .eql S (.tmp 3) (.const (.slice none 0 0)) yt,ty,pos,aft,none⟩:=by rw[ho1];rfl
      simp only[ho11,Region.wanted,if_true];refine⟨fun _ _=>trivial,?_⟩;rw[Oper.semAt_eq _ _ _ (by intro c;simp),Cf];show Code.wpIn _ _ _ _ _ _ _;have he4:(a2.put (some 4) (.bool b3.isNone)).eval (.tmp 4)=.bool b3.isNone:=by
       obtain⟨v4,hv4,hr4⟩:=BE.env 4 (.w (.c (.bool b3.isNone))) (by simp[Env.put,Env.get]);have hr4:VC _ _ (.bool b3.isNone) v4:=hr4;have:v4=.bool b3.isNone:=by generalize b3.isNone=t at hr4;cases hr4;rfl
       subst this;simp[Act.eval,kX,hv4]
      have hrc:znS P fn.results.toList=some [.slot 2]:=by rw[hresl];rfl
      have fin:∀{E4:Env} {a4:Act} {w4:World} {σ4:zP} {j4:Inj},At own σ4 j4 E4.get [some (gh e0),some (cl1 e0 ys)] 8 a4 w4->E4.get 2=some (.w (.c (.slice 1 ys.length e0 0 ys.length none)))->za2 own 0 σ j [] w σ4 j4 [some (gh e0),some (cl1 e0 ys)] w4->a4.defers=[] ->
        bodyPostM Fence.wide 0 P fn (Ret own σ j [] w res M') .ret a4 w4:=by
       intro E4 a4 w4 σ4 j4 hat4 u0 hst hds;exact zuR (F:=Fence.wide) (n:=0) hm (fun id hid=>by simp at hid) (fun _ h=>h) (fun d hd=>by rw[hds]at hd;cases hd) hat4 hst (by simp) hrc (by simp[zpk,zlQ,zoD,u0]) B0
      refine wpIn_cond_split he4 (fun ht=>?_) (fun ht=>?_)
      ·
       have hys0:ys=[]:=hb3 (by simpa using ht);subst hys0;refine wpIn_seq ?_;unfold nilCheck at hk2;split at hk2
       ·rename_i ix2 e2 hc2;obtain rfl:e2=e0:=by simpa using hk2
        refine ziY (n:=0) hF znV u6 hc2 (E':=Env.put (Env.put (Env.put ((2,.w (.c (.slice 0 0 e2 0 0 none)))::vC 0 [.c (.jc [])]) (some 3) (.w (.c (.jc [])))) (some 4) (.w (.c (.bool b3.isNone)))) (some 2) (.w (.c (.slice 1 0 e2 0 0 none)))) (M':=[some (gh e2),some (cl1 e2 [])]) (fs:=[.no]) (by simp[zks,zbm,opF,Opd.av,Opd.ev,Env.put,qF,zg,gh]) (by simp) BE fun a4 w4 σ4 j4 hat4 C3 _ hd4=>?_
        exact wpIn_ret (fin hat4 (by simp[Env.put,Env.get]) (((yp.trans (yw.le (by simp))).trans (C3.le (by simp)))) (hd4.trans (zfX.trans (hd2.trans hd1))))
       ·cases hk2
      ·
       refine wpIn_skip ?_;show Code.wpIn _ _ _ _ _ _ _;refine wpIn_seq ?_;unfold ztd at hk3;split at hk3
       ·rename_i p0 e p1 p2 e' by' p3 hc3;simp only[jh,beq_iff_eq]at hk3;obtain⟨⟨rfl,rfl⟩,rfl⟩:=hk3;obtain⟨E5,fs5,qY,u0⟩:=zAv (i0:=p0) (i1:=p1) (i2:=p2) (i3:=p3) (E:=Env.put (Env.put ((2,.w (.c (.slice 0 0 e' 0 0 none)))::vC 0 [.c (.jc ys)]) (some 3) (.w (.c (.jc ys)))) (some 4) (.w (.c (.bool b3.isNone)))) (by simp[Env.put,Env.get,vC]) vo qI jZ;refine ziY (n:=0) (M:=[some (gh e')]) hF znV u6 hc3 qY (by simp) BE fun a4 w4 σ4 j4 hat4 C3 _ hd4=>?_
        exact wpIn_ret (fin hat4 u0 (((yp.trans (yw.le (by simp))).trans (C3.le (by simp)))) (hd4.trans (zfX.trans (hd2.trans hd1))))
       ·cases hk3
     ·cases hk1
    ·cases hk1
   ·cases hk0
  ·cases hck
 ·cases hck
theorem MR.more(hm:MR own σ j M w){w':World}(h:∀k,k<w.heap.size->w'.heap[k]?=w.heap[k]?):MR own σ j M w':=by
 refine⟨fun id b hb=>?_,hm.vR,hm.dom,hm.okP⟩;obtain⟨pl,h1,h2,h3⟩:=hm.yh id b hb;exact⟨pl,h1,h2.mono (zP.le_refl _) (Inj.le_refl _) (fun k hk=>h k (hm.u7 hb (Inj.yC h1 hk))) (fun _ _ _ h _ _=>h),h3⟩
theorem zsA(k key:Nat):∀{r:List Cl} {l:List Int} (i:Nat),zuC k key i r=some l->r.length=l.length/\∀n,n<l.length->r[n]?=some (zjS (zgk k key (i+n)) (l.getD n 0))
 |[],l,i,h=>by simp[zuC]at h;subst h;exact⟨rfl,fun n hn=>by simp at hn⟩
 |c::r,l,i,h=>by
  have key1:∀(z:Int) (l':List Int),zjS (zgk k key i) z=c->zuC k key (i+1) r=some l'->(c::r).length=(z::l').length/\∀n,n<(z::l').length->(c::r)[n]?=some (zjS (zgk k key (i+n)) ((z::l').getD n 0)):=by
   intro z l' hc hr;obtain⟨h1,h2⟩:=zsA k key (i+1) hr;refine⟨by simp[h1],fun n hn=>?_⟩;cases n with
   |zero=>simp[hc]
   |succ n =>
    have:=h2 n (by simpa using hn);rw[show i+1+n=i+(n+1) by omega]at this;simpa using this
  unfold zuC at h;split at h
  ·split at h
   ·cases h
   ·rename_i hk;simp only[jb]at h;obtain⟨l',h1,rfl⟩:=h;exact key1 _ _ (by simp[zjS,hk]) h1
  ·split at h
   ·rename_i b hk;simp only[jb]at h;obtain⟨l',h1,rfl⟩:=h;exact key1 _ _ (by cases b<;>simp[zjS,hk]) h1
   ·cases h
  ·cases h
theorem zsy(k key:Nat):∀{rs:List (List Cl)} {zs:List (List Int)},zv2 k key rs=some zs->rs.length=zs.length/\∀(i:Nat) (hi:i<zs.length),∃r,rs[i]?=some r/\r.length=zs[i].length/\∀n,n<zs[i].length->r[n]?=some (zjS (zgk k key n) (zs[i].getD n 0))
 |[],zs,h=>by simp[zv2]at h;subst h;exact⟨rfl,fun i hi=>by simp at hi⟩
 |r::rs,zs,h=>by
  unfold zv2 at h;split at h
  ·rename_i x xs h1 h2;cases h;obtain⟨g1,g2⟩:=zsA k key 0 h1;obtain⟨g3,g4⟩:=zsy k key h2;refine⟨by simp[g3],fun i hi=>?_⟩;cases i with
   |zero=>exact⟨r,rfl,g1,fun n hn=>by simpa using g2 n hn⟩
   |succ i=>exact g4 i (by simpa using hi)
  ·cases h
def vZ(b:Bool)(z:Int):Value:=if b then .bool (z !=0) else .int .i64 z
theorem zAB{σ:zP}{j:Inj}{b:Bool}{z:Int}{v:Value}(h:VC σ j (zjS b z) v):v=vZ b z:=by
 cases b with
 |true=>have h:VC σ j (.bool (z !=0)) v:=h;cases h;rfl
 |false=>have h:VC σ j (.int .i64 z) v:=h;cases h;rfl
theorem zDe(σ:zP)(j:Inj)(b:Bool)(z:Int):VC σ j (zjS b z) (vZ b z):=by
 cases b with
 |true=>exact .bool _ _
 |false=>exact .int _ _ _
theorem zzi(b:Bool)(z:Int):(vZ b z).oneCell'=true:=by cases b<;>rfl
def ziq(k key:Nat)(l:List Int):List Value:=(List.range k).map fun i=>vZ (zgk k key i) (l.getD i 0)
def zfg(k key:Nat)(zs:List (List Int)):List Value:=zs.flatMap (ziq k key)
theorem zoV(k key:Nat):∀(zs:List (List Int)),(zfg k key zs).length=zs.length*k
 |[]=>by simp[zfg]
 |z::zs=>by
  have:=zoV k key zs;simp only[zfg,jY,jr,jm]at this ⊢;rw[this];simp[ziq,qt];omega
theorem zmK(k key:Nat):∀(zs:List (List Int)) (i n:Nat) (hi:i<zs.length),n<k->(zfg k key zs)[i*k+n]?=some (vZ (zgk k key n) (zs[i].getD n 0))
 |z::zs,0,n,hi,hn=>by
  simp only[zfg,jY,Nat.zero_mul,jH];rw[jw (by simp[ziq];exact hn)];simp[ziq,hn]
 |z::zs,i+1,n,hi,hn=>by
  have hl:(ziq k key z).length=k:=by simp[ziq]
  have:=zmK k key zs i n (by simpa using hi) hn;simp only[zfg,jY]at this ⊢;rw[jX (by rw[hl,qt];omega),hl];rw[show(i+1)*k+n-k=i*k+n by rw[qt];omega,this];simp
structure zut(P:Program)(f g k key:Nat):Prop where
 fn:∃fn,P.funcs[f]?=some fn/\fn.body.isNone=false/\(fn.name == "runtime.NumGoroutine")=false
 pos:0<k
 none:∀(p:Option Addr) (cap:Nat) (w:World),Calls P f #[.slice p 0 cap,.func (.func g) #[] #[]] w fun e w'=>e=.returned (.tuple #[])/\w'=w
 some:∀(blk off cap:Nat) (zs:List (List Int)) (w:World),Go.Sort.Holds id w blk off (zfg k key zs).toArray->blk<w.heap.size->zs.length<4611686018427387904 ->
  Calls P f #[.slice (.some ⟨blk,off,.none⟩) zs.length cap,.func (.func g) #[] #[]] w fun e w'=>e=.returned (.tuple #[])/\∃n os,w'=Go.Sort.grow (Go.Sort.putRow id (Go.Sort.ahead w n) blk off (zfg k key (ziS k key zs)).toArray) os
def zqh(P:Program)(c:Nat×Nat×Nat×Bool):Prop:=c.2.2.1≠0->zut P c.1 (c.2.2.1 / 64) (c.2.2.1 / 8 % 8) (c.2.2.1 % 8)
theorem zwi{f g k key:Nat}(hS:zut P f g k key){x:Cl}{res:AV}{M':Mem}(h:zqs k key x M=some (res,M'))(hag:zM σ w)(hm:MR own σ j M w){v:Value}(hx:VC σ j x v):Calls P f #[v,.func (.func g) #[] #[]] w (Ret own σ j M w res M'):=by
 unfold zqs at h;split at h
 ·cases h;cases hx;refine Calls.y9 (hS.none none 0 w) ?_;rintro e w' ⟨rfl,rfl⟩;exact⟨.tuple #[],σ,j,rfl,⟨#[],rfl,zac.nil⟩,hag,hm,za2.refl⟩
 ·rename_i id0 gg es off len cap;split at h
  ·rename_i h0;subst h0;cases h;cases hx with
   |slice _ _ _ _ _ _ _ pl ad c hj hl qV ha =>
    refine Calls.y9 (hS.none ad c w) ?_;rintro e w' ⟨rfl,rfl⟩;exact⟨.tuple #[],σ,j,rfl,⟨#[],rfl,zac.nil⟩,hag,hm,za2.refl⟩
  ·rename_i h0;split at h
   ·rename_i b hb0;obtain⟨hbk,BZ⟩:=zaz hb0;subst BZ;split at h
    ·rename_i hc;simp only[jh,kR,decide_eq_true_eq,beq_iff_eq]at hc;obtain⟨⟨⟨⟨u9,hfz⟩,Ap⟩,Br⟩,hbig⟩:=hc;split at h
     ·rename_i zs hzs;cases h;obtain⟨hz0,hz⟩:=zsy k key hzs;have hzl:zs.length=len:=by
       have:=hz0;simp at this;omega
      cases hx with
      |slice _ _ _ _ _ _ _ pl ad c hj hl qV ha =>
       obtain⟨L,rfl,_,rfl,hf2⟩:=ha (by omega);obtain⟨pl',Al,hbr,k8⟩:=hm.blk id0 b hbk;rw[hj]at Al;cases Al;have hbr:BL σ j b L w:=hbr;obtain⟨C,T,hC,hsz,qB⟩:=hbr.heap;have hes:=hbr.esz;have qI:=hS.pos;have hLe:L.esz=k:=by rw[hes,Br]
       have CM:=hbr.fit;have hlt:L.blk<w.heap.size:=(jR.1 hC).1;rw[Br]at CM;rw[hLe]at hf2 ⊢;have hF:∀zz:List (List Int),(zfg k key zz).toArray.size=zz.length*k:=fun zz=>by simp[zoV]
       have hmul:(off+zs.length)*k<=b.rows.length*k:=kc _ (by omega);have C9:(off+zs.length)*k=off*k+zs.length*k:=kW _ _ _;have hri:∀i (hi:i<zs.length),∃r,b.rows[off+i]?=some r/\r.length=zs[i].length/\∀n,n<zs[i].length->r[n]?=some (zjS (zgk k key n) (zs[i].getD n 0)):=by
        intro i hi;obtain⟨r,h1,h2⟩:=hz i hi;rw[qQ (by omega),qn]at h1;exact⟨r,h1,h2⟩
       have hzk:∀i (hi:i<zs.length),(zs[i]).length=k:=by
        intro i hi;obtain⟨r,h1,h2,_⟩:=hri i hi;have:=hbr.len _ (zat h1);rw[<-h2];simpa [Br]using this
       have hold:Go.Sort.Holds id w L.blk (L.off+off*k) (zfg k key zs).toArray:=by
        intro t ht;rw[hF]at ht;have hq:t / k<zs.length:=Nat.div_lt_of_lt_mul (by rw[qA];exact ht);have hm':t % k<k:=qW _ qI;have et:t=t / k*k+t % k:=by rw[qA];exact(vt t k).symm
        have hg:=zmK k key zs (t / k) (t % k) hq hm';rw[<-et]at hg;have hzl':=hzk _ hq;obtain⟨r0,hr0,hr1,hr2⟩:=hri _ hq;obtain⟨v,hv1,hv2⟩:=qB (off+t / k) _ (t % k) (zjS (zgk k key (t % k)) ((zs[t / k]).getD (t % k) 0)) hr0 (hr2 _ (by rw[hzl'];exact hm'));rw[if_neg (by simp[u9])]at hv2;have hv2:=zAB hv2;subst hv2;refine⟨?_,by simp[World.frozen?,hC]⟩;simp only[World.cell?,hC,qm,jI,if_false];rw[Br]at hv1;have e2:L.off+off*k+t=L.off+(off+t / k)*k+t % k:=by rw[kW];omega
        rw[e2,hv1];have:(zfg k key zs).toArray[t]! = vZ (zgk k key (t % k)) ((zs[t / k]).getD (t % k) 0):=by
         rw[getElem!_def,qL,hg]
        rw[this];rfl
       subst hzl;refine Calls.y9 (hS.some L.blk (L.off+off*k) c zs w hold hlt hbig) ?_;rintro e w' ⟨rfl,n,os,rfl⟩;have hsl:=zx2 k key zs;generalize hZ:ziS k key zs=zz at hsl;generalize hC':Go.Sort.putCells id (L.off+off*k) (zfg k key zz).toArray C=C';have Bv:C'.size=C.size:=by rw[<-hC'];simp[Go.Sort.putCells]
       have vH:∀p,C'[p]?=if L.off+off*k<=p/\p<L.off+off*k+zs.length*k then(if p<C.size then some ((zfg k key zz).toArray[p-(L.off+off*k)]!) else none) else C[p]?:=by
        intro p;rw[<-hC'];simp only[Go.Sort.putCells,Array.getElem?_mapIdx,hF,hsl];by_cases hp:p<C.size
        ·rw[uh hp];simp only[uJ,hp,if_true];split<;>rfl
        ·rw[qZ (by omega)];simp[hp]
       have hb1:(Go.Sort.grow (Go.Sort.putRow id (Go.Sort.ahead w n) L.blk (L.off+off*k) (zfg k key zz).toArray) os).heap[L.blk]?=some (.cells C' T (0,0)):=by
        rw[Go.Sort.grow];simp only;rw[kT (by simpa using hlt)];simp[Go.Sort.putRow,Go.Sort.mapBlock,Go.Sort.ahead,Array.getElem?_modify,hC,Go.Sort.onCells,hC']
       have hb2:∀q,q<w.heap.size->q≠L.blk->(Go.Sort.grow (Go.Sort.putRow id (Go.Sort.ahead w n) L.blk (L.off+off*k) (zfg k key zz).toArray) os).heap[q]?=w.heap[q]?:=by
        intro q hk hne;rw[Go.Sort.grow];simp only;rw[kT (by simpa using hk)];simp[Go.Sort.putRow,Go.Sort.mapBlock,Go.Sort.ahead,Array.getElem?_modify,fun e=>hne (Eq.symm e),qK hne]
       have Di:w.heap.size<=(Go.Sort.grow (Go.Sort.putRow id (Go.Sort.ahead w n) L.blk (L.off+off*k) (zfg k key zz).toArray) os).heap.size:=by simp[Go.Sort.grow]
       have hos:(Go.Sort.grow (Go.Sort.putRow id (Go.Sort.ahead w n) L.blk (L.off+off*k) (zfg k key zz).toArray) os).os=w.os:=rfl;have BB:(Go.Sort.grow (Go.Sort.putRow id (Go.Sort.ahead w n) L.blk (L.off+off*k) (zfg k key zz).toArray) os).output=w.output:=rfl;have htape:(Go.Sort.grow (Go.Sort.putRow id (Go.Sort.ahead w n) L.blk (L.off+off*k) (zfg k key zz).toArray) os).tape=w.tape:=rfl;have hdrn:w.drawn<=(Go.Sort.grow (Go.Sort.putRow id (Go.Sort.ahead w n) L.blk (L.off+off*k) (zfg k key zz).toArray) os).drawn:=uz _ _;generalize Go.Sort.grow (Go.Sort.putRow id (Go.Sort.ahead w n) L.blk (L.off+off*k) (zfg k key zz).toArray) os=w' at hb1 hb2 Di hos BB htape hdrn;generalize Bj:b.rows.take off++zz.map (zsl k key)++b.rows.drop (off+zs.length)=yQ;have hrl:yQ.length=b.rows.length:=by rw[<-Bj];simp;omega
       have Bp:∀i,yQ[i]?=if i<off then b.rows[i]? else if i<off+zs.length then(zz.map (zsl k key))[i-off]? else b.rows[i]?:=by
        intro i;have:=zdb b.rows (zz.map (zsl k key)) off (by simp;omega) i;simp only[uN,hsl]at this;rw[<-Bj,this]
       have hagc:∀b' o v,σ b' o=some v->w'.cell? ⟨b',o,none⟩=some v:=by
        intro b' o v hv';have hold:=hag.cells b' o v hv';by_cases hbb:b'=L.blk
        ·subst hbb;have hlo:o<L.off:=by
          rcases kD o L.off with h|h
          ·exact h
          ·have:=hbr.A8 o h (fun hh=>by rw[hfz]at hh;cases hh);rw[this]at hv';cases hv'
         simp only[World.cell?,hC,qm,jI,if_false]at hold;simp only[World.cell?,hb1,qm,jI,if_false];rw[vH,if_neg (by omega)];exact hold
        ·have:=hb2 b' (hag.lt hv') hbb;simpa [World.cell?,this]using hold
       have hbl:BL σ j { b with rows:=yQ,ver:=b.ver+1 } L w':=by
        refine⟨hes,hbr.pos,fun r hr'=>?_,by simpa [hrl,Br]using CM,⟨C',T,hb1,by rw[Bv,hsz],fun i' r n cl hi' hn=>?_⟩,fun o h1 h2=>hbr.A8 o h1 (fun h=>by rw[hfz]at h;cases h)⟩
        ·obtain⟨q,hq⟩:=kd hr';rw[Bp]at hq;split at hq
         ·exact hbr.len r (zat hq)
         ·split at hq
          ·have:=zat hq;simp only[kJ]at this;obtain⟨_,_,rfl⟩:=this;simp[zsl,Br]
          ·exact hbr.len r (zat hq)
        ·simp only at hi' ⊢;simp only[u9,jI,if_false];have hnl:=zC hn;rw[Bp]at hi';rw[vH,Br];by_cases h1:i'<off
         ·rw[if_pos h1]at hi';obtain⟨v,hv1,hv2⟩:=qB i' r n cl hi' hn;rw[if_neg (by simp[u9])]at hv2;have hrl1:=hbr.len r (zat hi');rw[Br]at hrl1 hv1;have:(i'+1)*k<=off*k:=kc _ h1;rw[qt]at this;exact⟨v,by rw[if_neg (by omega)];exact hv1,hv2⟩
         ·rw[if_neg h1]at hi';by_cases h2:i'<off+zs.length
          ·rw[if_pos h2]at hi';have hk:i'-off<zz.length:=by omega
           simp only[qG,jv hk,uJ,ji]at hi';subst hi';have hnk:n<k:=by simpa [zsl]using hnl
           have ecl:cl=zjS (zgk k key n) ((zz[i'-off]).getD n 0):=by
            simp[zsl,hnk]at hn;simpa using hn.symm
           subst ecl;refine⟨vZ (zgk k key n) ((zz[i'-off]).getD n 0),?_,zDe _ _ _ _⟩;have hg:=zmK k key zz (i'-off) n hk hnk;have e0:i'=off+(i'-off):=by omega
           have e1:i'*k=off*k+(i'-off)*k:=by rw[<-kW,<-e0]
           have e2:(i'-off+1)*k<=zs.length*k:=kc _ (by omega);rw[qt]at e2;have e3:(i'+1)*k<=b.rows.length*k:=kc _ (by omega);rw[qt]at e3;rw[if_pos (by omega),if_pos (by omega)];rw[show L.off+i'*k+n-(L.off+off*k)=(i'-off)*k+n by omega,getElem!_def,qL,hg]
          ·rw[if_neg h2]at hi';obtain⟨v,hv1,hv2⟩:=qB i' r n cl hi' hn;rw[if_neg (by simp[u9])]at hv2;have hrl1:=hbr.len r (zat hi');rw[Br]at hrl1 hv1;have:(off+zs.length)*k<=i'*k:=kc _ (by omega);exact⟨v,by rw[if_neg (by omega)];exact hv1,hv2⟩
       refine⟨.tuple #[],σ,j,rfl,⟨#[],rfl,zac.nil⟩,⟨hagc,hag.qw⟩,?_,?_⟩
       ·
        have hw1:∀k,k≠L.blk->({ w' with heap:=(w'.heap.extract 0 w.heap.size) }:World).heap[k]?=w.heap[k]?:=by
         intro k hne;rcases kD k w.heap.size with hk|hk
         ·simp only[uH];rw[if_pos (by omega),jH];exact hb2 k hk hne
         ·rw[qZ (by simp;omega),qZ hk]
        have hbl1:BL σ j { b with rows:=yQ,ver:=b.ver+1 } L ({ w' with heap:=(w'.heap.extract 0 w.heap.size) }:World):=by
         obtain⟨a1,a2,a3,a4,⟨C2,T2,q1,q2,q3⟩,a6⟩:=hbl;refine⟨a1,a2,a3,a4,⟨C2,T2,?_,q2,q3⟩,a6⟩;simp only[uH];rw[if_pos (by omega),jH];exact q1
        refine(hm.write hbk hj (b':={ b with rows:=yQ,ver:=b.ver+1 }) rfl hw1 hbl1).more fun k hk=>?_
        simp only[Array.size_extract]at hk;simp only[uH];rw[if_pos (by omega),jH]
       ·refine⟨zP.le_refl _,fun _ _ _ _ h=>h,Di,fun b' hb' ho=>?_,fun _ _ _ h=>.inl h,fun id' b' hid hb'=>?_,⟨hos,BB,htape,hdrn⟩⟩
        ·exact hb2 b' hb' (fun e=>ho (e ▸ k8 L rfl))
        ·by_cases yW:id0=id'
         ·subst yW;rw[hbk]at hb';cases hb';exact⟨_,by simp[hid];rfl,by simp,fun h=>by simp at h⟩
         ·refine⟨b',by rw[jJ yW];exact hb',jq _,fun _=>⟨rfl,fun L' hL'=>?_⟩⟩;exact hb2 _ (hm.u7 hb' hL') (fun e=>yW (hm.vR id0 id' b b' L' hbk hb' (by rw[e];exact Inj.v8 hj) hL'))
     ·cases h
    ·cases h
   ·cases h
 ·cases h
theorem zvt(AF:zb0.base=P.funcs.size)(u6:P.follows .mixedOrders=true){Cs:List (Nat×Nat×Nat×Bool)}(hC:∀c∈Cs,(c.2.1==0||zf2 P c.1 c.2.1 c.2.2.1)=true)(hS:∀c∈Cs,c.2.1=0->zqh P c):FnS P (yg Cs):=by
 intro f args M res M' h ve;unfold yg at h;split at h
 ·rename_i esz bytes frz hl;have AL:(f,esz,bytes,frz)∈Cs:=by
   clear h hC hS;induction Cs with
   |nil=>simp at hl
   |cons c Cs ih =>
    obtain⟨g,d⟩:=c;rw[List.lookup_cons]at hl;split at hl
    ·rename_i hb;cases hl;simp at hb;subst hb;exact ju ..
    ·exact jy _ (ih hl)
  split at h
  ·rename_i x;split at h
   ·rename_i h0;cases h
   ·rename_i h0;have hck:=hC _ AL;have hck:zf2 P f esz bytes=true:=by simpa [h0]using hck
    obtain⟨fn,h1,h2,h3,_⟩:=zrt (own:=fun _=>True) (σ:=fun _ _=>none) (j:=zb1) (w:=default) (v:=default) u6 hck h;refine⟨fun _=>⟨fn,h1,h2,h3,fun own σ j w vs k8 hag hm hvs=>?_⟩,fun hge=>by
     have:=(jR.1 h1).1;omega⟩
    obtain⟨v,vs',hv0,hv,hs⟩:=hvs.qM;have hvs':=hs.yl;subst hvs';have:vs = #[v]:=ut (by simpa using hv0);subst this;obtain⟨_,_,_,_,hc⟩:=zrt (own:=own) (σ:=σ) (j:=j) (w:=w) (v:=v) u6 hck h;exact hc k8 hag hm hv
  ·rename_i x g;split at h
   ·rename_i h0;obtain⟨h0,h00,rfl⟩:=h0;have hSf:=hS _ AL h0 h00;obtain⟨fn,h1,h2,h3⟩:=hSf.fn;refine⟨fun _=>⟨fn,h1,h2,h3,fun own σ j w vs k8 hag hm hvs=>?_⟩,fun hge=>by
     have:=(jR.1 h1).1;omega⟩
    obtain⟨v,vs',hv0,hv,hs⟩:=hvs.qM;obtain⟨u,vs'',hu0,hu,hs'⟩:=hs.qM;have hvs':=hs'.yl;subst hvs';subst hu0;have hu:VC σ j (.fn (bytes / 64) [] []) u:=hu;cases hu with
    |fn _ f fi ca fi' ca' l1 l2 q1 q2 =>
     have e1:fi' = #[]:=v7 (by simpa using l1.symm);have e2:ca' = #[]:=v7 (by simpa using l2.symm);subst e1 e2;have:vs = #[v,.func (.func (bytes / 64)) #[] #[]]:=ut (by simpa using hv0);subst this;exact zwi hSf h hag hm hv
   ·cases h
  ·cases h
 ·cases h
end
section
variable[zb0]
theorem MR.nil{own:Nat->Prop}{σ:zP}{w:World}:MR own σ zb1 [] w :=
 ⟨fun id b h=>by simp at h,fun id id' b b' k h=>by simp at h,fun id g pl h=>by simp[zb1]at h,fun id g pl h=>by simp[zb1]at h⟩
end
theorem zqU{α:Type}{f:Nat}{c:α}:∀{l:List (Nat×α)},l.lookup f=some c->(f,c)∈l
 |[],h=>by simp at h
 |(g,d)::l,h=>by
  rw[List.lookup_cons]at h;split at h
  ·rename_i hb;cases h;simp at hb;subst hb;exact ju ..
  ·exact jy _ (zqU h)
@[reducible] def zww [G:GlobP](P:Program)(T:FuncId->Option CFn):zb0:={ toGlobP:=G,base:=P.funcs.size,okc:=fun v ps a b n=>P.funcs.size<=v/\zAN P T v ps a b n,le:=fun _ _ _ _ _ h=>h.1 }
variable[GlobP]
def zql(P:Program)(L:List (Nat×CFn)):Bool:=L.all fun p=>match P.funcs[p.1]? with
 |some fn=>match fn.body with
  |some b=>(List.range (zeV b)).all fun i=>(L.lookup (P.funcs.size+16*p.1+i)).isSome
  |none=>true
 |none=>true
theorem zk9{P:Program}{an:Ann}{L:List (Nat×CFn)}(h:(L.map fun p=>zcF P an true p.1)=L.map fun p=>some p.2){f:FuncId}{c:CFn}(hl:L.lookup f=some c):zcF P an true f=some c/\(f,c)∈L:=by
 have hm:=zqU hl;obtain⟨k,hk⟩:=kd hm;have:=congrArg (·[k]?) h;simp only[qG,hk,uJ]at this;exact⟨yi this,hm⟩
theorem zpU{P:Program}{an:Ann}{b:Bool}{v:FuncId}{c:CFn}(h:zho P an b v=some c):c.rnd.isSome=true:=by
 unfold zho at h;split at h
 ·split at h
  ·split at h
   ·split at h
    ·split at h
     ·cases h;rfl
     ·cases h
    ·cases h
   ·cases h
  ·cases h
 ·cases h
theorem zzm{P:Program}{an:Ann}{L:List (Nat×CFn)}(h:(L.map fun p=>zcF P an true p.1)=L.map fun p=>some p.2)(hV:zql P L=true)(f:FuncId)(c:CFn)(hl:L.lookup f=some c) :
  (f<P.funcs.size->@zC5 (zww P fun f=>L.lookup f) P f c)/\(P.funcs.size<=f->c.rnd.isSome=true):=by
 letI:=zww P fun f=>L.lookup f
 obtain⟨hc,hm⟩:=zk9 h hl;unfold zcF at hc;refine⟨fun hlt=>?_,fun hge=>?_⟩
 ·rw[if_pos hlt]at hc;refine zuf hc fun fn body i x hf hb hn hx=>⟨j7 (uz _ (16*f)) (uz _ i),?_⟩
  have h1:=jA.1 hV _ hm;simp only[hf,hb]at h1;have h2:=jA.1 h1 i (by have:=zC hx;rw[zfr]at this;simpa using this);obtain⟨c',hc'⟩:=qz.1 h2;obtain⟨h3,_⟩:=zk9 h hc';unfold zcF at h3;rw[if_neg (Nat.not_lt.2 (j7 (uz _ (16*f)) (uz _ i)))]at h3;exact zro h3 hc' hf hb hn hx
 ·rw[if_neg (Nat.not_lt.2 hge)]at hc;exact zpU hc
def zaH(L:List (Nat×CFn))(Cs:List (Nat×Nat×Nat×Bool))(n:Nat):za4:=zfk (fun f=>L.lookup f) (yg Cs) n
theorem zsT{P:Program}(u6:P.follows .mixedOrders=true){an:Ann}{L:List (Nat×CFn)}{Cs:List (Nat×Nat×Nat×Bool)}(hL:(L.map fun p=>zcF P an true p.1)=L.map fun p=>some p.2)(hV:zql P L=true)
  (hC:(Cs.all fun c=>c.2.1==0||zf2 P c.1 c.2.1 c.2.2.1)=true) (hS:∀c∈Cs,c.2.1=0->zqh P c) (n:Nat):@FnS (zww P fun f=>L.lookup f) P (zaH L Cs n):=by
 letI:=zww P fun f=>L.lookup f
 exact zrA u6 (fun f c hl=>zzm hL hV f c hl) (fun v ps a b n h=>h.2) (zvt rfl u6 (fun c hc=>jA.1 hC c hc) hS) n
end Go.Eng
namespace Go.Eng
open Go
def za4.le(c d:za4):Prop:=∀f a M r,c f a M=some r->d f a M=some r
theorem zo1{c d:za4}(h:c.le d){f:FuncId}{args:List WV}{M:Mem}{r:AV×Mem×FP}(hr:zcG c f args M=some r):zcG d f args M=some r:=by
 unfold zcG at hr ⊢;dsimp only at hr ⊢;split at hr
 ·rename_i h1;rw[if_pos h1];split at hr
  ·rename_i as Ms h2 h3;split at hr
   ·cases hr
   ·rename_i r0 Ms' h4;simp only[h2,h3,h _ _ _ _ h4];exact hr
  ·cases hr
 ·cases hr
theorem ztf{c d:za4}(h:c.le d){m:zbz}{fv:WV}{args:List WV}{M:Mem}{r:AV×Mem×FP}(hr:zx c m fv args M=some r):zx d m fv args M=some r:=by
 unfold zx at hr ⊢;split at hr
 ·split at hr
  ·rename_i hm;rw[if_pos hm];split at hr
   ·cases hr
   ·rename_i as h2;split at hr
    ·rename_i h1;simp only[h2,h1,if_true];dsimp only at hr;split at hr
     ·rename_i h3;rw[if_pos h3];exact zo1 h hr
     ·rename_i h3;rw[if_neg h3];split at hr
      ·cases hr
      ·rename_i r0 M2 fp h4;simp only[zo1 h h4];exact hr
    ·cases hr
  ·rename_i hm;rw[if_neg hm];split at hr
   ·rename_i h1;rw[if_pos h1];exact zo1 h hr
   ·cases hr
 ·cases hr
theorem zzW{c d:za4}(h:c.le d){n0:Nat}{E:Nat->Option AV}{M:Mem}{co:CO}{r:AV×Mem×FP}(hr:opF c n0 E M co=some r):opF d n0 E M co=some r:=by
 cases co with
 |call m f as =>
  simp only[opF]at hr ⊢;split at hr
  ·rename_i fv vs h1 h2;exact ztf h hr
  ·cases hr
 |_=>exact hr
theorem zuH{c d:za4}(h:c.le d){n0:Nat}{o:zaG}{E:Nat->Option AV}{M:Mem}{r:AV×Mem×FP}(hr:zbm c n0 o E M=some r):zbm d n0 o E M=some r:=by
 unfold zbm at hr ⊢;split at hr
 ·exact zzW h hr
 ·split at hr
  ·exact zzW h hr
  ·exact hr
  ·cases hr
theorem zp9{c d:za4}(h:c.le d){n0:Nat}:∀{os:List zaG} {E:Env} {M:Mem} {r:Env×Mem×List FP},zks c n0 os E M=some r->zks d n0 os E M=some r
 |[],E,M,r,hr=>hr
 |o::os,E,M,r,hr=>by
  simp only[zks]at hr ⊢;split at hr
  ·rename_i v M' fp h1;rw[zuH h h1];dsimp only;split at hr
   ·rename_i E2 M2 fs h2;rw[zp9 h h2];exact hr
   ·cases hr
  ·cases hr
theorem z7B{f g:Env->Mem->Option (EX×Env×Mem)}(h:∀E M r,f E M=some r->g E M=some r){live:Option (List Nat)}{n0:Nat}:∀{n m:Nat} {E:Env} {M:Mem} {r:EX×Env×Mem},n<=m->iter f live n0 n E M=some r->iter g live n0 m E M=some r
 |0,m,E,M,r,hn,hr=>by simp[iter]at hr
 |n+1,0,E,M,r,hn,hr=>by omega
 |n+1,m+1,E,M,r,hn,hr=>by
  simp only[iter]at hr ⊢;cases hf:f E M with
  |none=>rw[hf]at hr;cases hr
  |some x =>
   rw[hf]at hr;rw[h _ _ _ hf];obtain⟨ex,E',M'⟩:=x;cases ex with
   |normal=>exact z7B h (by omega) hr
   |exit i=>exact hr
   |ret=>exact hr
theorem zcR{c d:za4}(h:c.le d){n m:Nat}(hn:n<=m):∀{cc:CC} {E:Env} {M:Mem} {r:EX×Env×Mem},zaV c n cc E M=some r->zaV d m cc E M=some r
 |.skip,E,M,r,hr=>hr
 |.region nA ops prs vw,E,M,r,hr=>by
  simp only[zaV]at hr ⊢;split at hr
  ·rename_i E' M' fs h1;rw[zp9 h h1];exact hr
  ·cases hr
 |.seq a b,E,M,r,hr=>by
  simp only[zaV]at hr ⊢;cases ha:zaV c n a E M with
  |none=>rw[ha]at hr;cases hr
  |some x =>
   rw[ha]at hr;rw[zcR h hn ha];obtain⟨ex,E',M'⟩:=x;cases ex with
   |normal=>exact zcR h hn hr
   |exit i=>exact hr
   |ret=>exact hr
 |.cond x a b,E,M,r,hr=>by
  simp only[zaV]at hr ⊢;split at hr
  ·rename_i t ht;split at hr
   ·rename_i h1;rw[if_pos h1];exact zcR h hn hr
   ·rename_i h1;rw[if_neg h1];exact zcR h hn hr
  ·cases hr
 |.block id b,E,M,r,hr=>by
  simp only[zaV]at hr ⊢;cases ha:zaV c n b E M with
  |none=>rw[ha]at hr;cases hr
  |some x=>rw[ha]at hr;rw[zcR h hn ha];exact hr
 |.loop live b,E,M,r,hr=>by
  simp only[zaV]at hr ⊢;exact z7B (fun E M r hr=>zcR h hn hr) hn hr
 |.exit id,E,M,r,hr=>hr
 |.ret,E,M,r,hr=>hr
 |.rng f v caps,E,M,r,hr=>by
  simp only[zaV]at hr ⊢;split at hr
  ·rename_i g fi ca h1;split at hr
   ·rename_i a M' fp h2;rw[ztf h h2];exact hr
   ·cases hr
  ·cases hr
theorem zyb{c d:za4}(h:c.le d){n m:Nat}(hn:n<=m){f:FuncId}{ps:List Nat}{pre code:CC}{args:List WV}{M:Mem}{r:AV×Mem}(hr:zoC c n f ps pre code args M=some r):zoC d m f ps pre code args M=some r:=by
 unfold zoC at hr ⊢;split at hr
 ·split at hr
  ·rename_i h1;rw[if_pos h1];split at hr
   ·rename_i cells h2;split at hr
    ·rename_i E0 h3;split at hr
     ·rename_i E1 M1 h4;simp only[h2,h3,zcR h hn h4];split at hr
      ·rename_i M2 h5;split at hr
       ·rename_i ex E3 M3 h6;simp only[zcR h hn h6];exact hr
       ·cases hr
      ·cases hr
     ·cases hr
    ·cases hr
   ·cases hr
  ·cases hr
 ·cases hr
theorem zrz{T:FuncId->Option CFn}{X:za4}:∀n,za4.le (zfk T X n) (zfk T X (n+1))
 |0=>fun f a M r h=>by simp[zfk]at h
 |n+1=>fun f a M r h=>by
  have ih:=zrz (T:=T) (X:=X) n;simp only[zfk]at h;rw[zfk];split at h
  ·exact h
  ·rename_i fn hT;split at h
   ·exact zyb ih (uj n) h
   ·rename_i hr;split at h
    ·rename_i hl;rw[if_pos hl];cases hx:zaV (zfk T X n) n fn.code (vC 0 a) M with
     |none=>rw[hx]at h;cases h
     |some x=>rw[hx]at h;rw[zcR ih (uj n) hx];exact h
    ·cases h
theorem zAD{T:FuncId->Option CFn}{X:za4}{n m:Nat}(h:n<=m):za4.le (zfk T X n) (zfk T X m):=by
 induction h with
 |refl=>exact fun _ _ _ _ h=>h
 |step _ ih=>exact fun f a M r h=>zrz _ f a M r (ih f a M r h)
def zCa{α:Type}(f:Nat->Option α):Prop:=∀n m r,n<=m->f n=some r->f m=some r
open Classical in
noncomputable def lim{α:Type}(f:Nat->Option α):Option α:=if h:∃r n,f n=some r then some h.choose else none
theorem zt0{α:Type}{f:Nat->Option α}(hf:zCa f){r:α}:lim f=some r<->∃n,f n=some r:=by
 constructor
 ·intro h;unfold lim at h;split at h
  ·rename_i hx;cases h;exact hx.choose_spec
  ·cases h
 ·rintro⟨n,hn⟩;have hx:∃r n,f n=some r:=⟨r,n,hn⟩;unfold lim;rw[dif_pos hx];obtain⟨m,hm⟩:=hx.choose_spec;have h1:=hf n (max n m) _ (uK ..) hn;have h2:=hf m (max n m) _ (uy ..) hm;rw[h1]at h2;exact h2.symm
section
variable(L:List (Nat×CFn))(Cs:List (Nat×Nat×Nat×Bool))
noncomputable def R:za4:=fun f a M=>lim fun n=>zaH L Cs n f a M
noncomputable def X(cc:CC)(E:Env)(M:Mem):Option (EX×Env×Mem):=lim fun n=>zaV (zaH L Cs n) n cc E M
noncomputable def Y(b:CC)(live:Option (List Nat))(n0:Nat)(E:Env)(M:Mem):Option (EX×Env×Mem):=lim fun n=>iter (zaV (zaH L Cs n) n b) live n0 n E M
end
section
variable{L:List (Nat×CFn)}{Cs:List (Nat×Nat×Nat×Bool)}
theorem zgu{n m:Nat}(h:n<=m):za4.le (zaH L Cs n) (zaH L Cs m):=zAD h
theorem zCS{f:FuncId}{a:List WV}{M:Mem}:zCa fun n=>zaH L Cs n f a M:=fun _ _ r h hr=>zgu h _ _ _ _ hr
theorem zCL{cc:CC}{E:Env}{M:Mem}:zCa fun n=>zaV (zaH L Cs n) n cc E M:=fun _ _ _ h hr=>zcR (zgu h) h hr
theorem zCJ{b:CC}{live:Option (List Nat)}{n0:Nat}{E:Env}{M:Mem}:zCa fun n=>iter (zaV (zaH L Cs n) n b) live n0 n E M:=fun _ _ _ h hr=>z7B (fun _ _ _ hr=>zcR (zgu h) h hr) h hr
theorem zah{f:FuncId}{a:List WV}{M:Mem}{r:AV×Mem}:R L Cs f a M=some r<->∃n,zaH L Cs n f a M=some r:=zt0 zCS
theorem zdL{cc:CC}{E:Env}{M:Mem}{r:EX×Env×Mem}:X L Cs cc E M=some r<->∃n,zaV (zaH L Cs n) n cc E M=some r:=zt0 zCL
theorem zpD{b:CC}{live:Option (List Nat)}{n0:Nat}{E:Env}{M:Mem}{r:EX×Env×Mem}:Y L Cs b live n0 E M=some r<->∃n,iter (zaV (zaH L Cs n) n b) live n0 n E M=some r:=zt0 zCJ
theorem zDi(n:Nat):za4.le (zaH L Cs n) (R L Cs):=fun _ _ _ _ h=>zah.2 ⟨n,h⟩
theorem zry{f:FuncId}{args:List WV}{M:Mem}{r:AV×Mem×FP}(hr:zcG (R L Cs) f args M=some r):∃n,zcG (zaH L Cs n) f args M=some r:=by
 unfold zcG at hr ⊢;dsimp only at hr ⊢;split at hr
 ·rename_i h1;split at hr
  ·rename_i as Ms h2 h3;split at hr
   ·cases hr
   ·rename_i r0 Ms' h4;obtain⟨n,hn⟩:=zah.1 h4;exact⟨n,by rw[if_pos h1];simp only[h2,h3,hn];exact hr⟩
  ·cases hr
 ·cases hr
theorem zAC{m:zbz}{fv:WV}{args:List WV}{M:Mem}{r:AV×Mem×FP}(hr:zx (R L Cs) m fv args M=some r):∃n,zx (zaH L Cs n) m fv args M=some r:=by
 unfold zx at hr ⊢;split at hr
 ·split at hr
  ·rename_i hm;split at hr
   ·cases hr
   ·rename_i as h2;split at hr
    ·rename_i h1;dsimp only at hr;split at hr
     ·rename_i h3;obtain⟨n,hn⟩:=zry hr;exact⟨n,by rw[if_pos hm];simp only[h2,h1,if_true];rw[if_pos h3];exact hn⟩
     ·rename_i h3;split at hr
      ·cases hr
      ·rename_i r0 M2 fp h4;obtain⟨n,hn⟩:=zry h4;exact⟨n,by rw[if_pos hm];simp only[h2,h1,if_true];rw[if_neg h3];simp only[hn];exact hr⟩
    ·cases hr
  ·rename_i hm;split at hr
   ·rename_i h1;obtain⟨n,hn⟩:=zry hr;exact⟨n,by rw[if_neg hm,if_pos h1];exact hn⟩
   ·cases hr
 ·cases hr
theorem zCe{n0:Nat}{E:Nat->Option AV}{M:Mem}{co:CO}{r:AV×Mem×FP}(hr:opF (R L Cs) n0 E M co=some r):∃n,opF (zaH L Cs n) n0 E M co=some r:=by
 cases co with
 |call m f as =>
  simp only[opF]at hr ⊢;split at hr
  ·exact zAC hr
  ·cases hr
 |_=>exact⟨0,hr⟩
theorem zBh{n0:Nat}{o:zaG}{E:Nat->Option AV}{M:Mem}{r:AV×Mem×FP}(hr:zbm (R L Cs) n0 o E M=some r):∃n,zbm (zaH L Cs n) n0 o E M=some r:=by
 unfold zbm at hr ⊢;split at hr
 ·exact zCe hr
 ·split at hr
  ·exact zCe hr
  ·exact⟨0,hr⟩
  ·cases hr
theorem zzL{n0:Nat}:∀{os:List zaG} {E:Env} {M:Mem} {r:Env×Mem×List FP},zks (R L Cs) n0 os E M=some r->∃n,zks (zaH L Cs n) n0 os E M=some r
 |[],E,M,r,hr=>⟨0,hr⟩
 |o::os,E,M,r,hr=>by
  simp only[zks]at hr;split at hr
  ·rename_i v M' fp h1;split at hr
   ·rename_i E2 M2 fs h2;obtain⟨n,hn⟩:=zBh h1;obtain⟨m,hm⟩:=zzL h2;refine⟨max n m,?_⟩;simp only[zks,zuH (zgu (uK n m)) hn,zp9 (zgu (uy n m)) hm];exact hr
   ·cases hr
  ·cases hr
theorem zi0{α:Type}{a b:Option α}(h:∀x,a=some x<->b=some x):a=b:=by
 cases a with
 |none=>cases b with
  |none=>rfl
  |some y=>have:=(h y).2 rfl;cases this
 |some x=>exact((h x).1 rfl).symm
theorem zCK(E:Env)(M:Mem):X L Cs .skip E M=some (.normal,E,M):=zdL.2 ⟨0,rfl⟩
theorem zCN(id:Nat)(E:Env)(M:Mem):X L Cs (.exit id) E M=some (.exit id,E,M):=zdL.2 ⟨0,rfl⟩
theorem zDo(E:Env)(M:Mem):X L Cs .ret E M=some (.ret,E,M):=zdL.2 ⟨0,rfl⟩
theorem zAM(nA:Nat)(ops:List zaG)(prs:List (Nat×Nat))(vw:Option (List Nat))(E:Env)(M:Mem):X L Cs (.region nA ops prs vw) E M=match zks (R L Cs) M.length ops E (M++qF nA)with
  |some (E',M',fs)=>if prs.all (zyi (M.length+nA) fs) then some (.normal,E'.kept vw,M') else none
  |none=>none:=by
 refine zi0 fun x=>⟨fun h=>?_,fun h=>?_⟩
 ·obtain⟨n,hn⟩:=zdL.1 h;simp only[zaV]at hn;split at hn
  ·rename_i E' M' fs h1;rw[zp9 (zDi n) h1];exact hn
  ·cases hn
 ·split at h
  ·rename_i E' M' fs h1;obtain⟨n,hn⟩:=zzL h1;exact zdL.2 ⟨n,by simp only[zaV,hn];exact h⟩
  ·cases h
theorem zDn(a b:CC)(E:Env)(M:Mem):X L Cs (.seq a b) E M=match X L Cs a E M with
  |some (.normal,E',M')=>X L Cs b E' M'
  |r=>r:=by
 refine zi0 fun x=>⟨fun h=>?_,fun h=>?_⟩
 ·obtain⟨n,hn⟩:=zdL.1 h;simp only[zaV]at hn;cases ha:zaV (zaH L Cs n) n a E M with
  |none=>rw[ha]at hn;cases hn
  |some y =>
   rw[ha]at hn;rw[zdL.2 ⟨n,ha⟩];obtain⟨ex,E',M'⟩:=y;cases ex with
   |normal=>exact zdL.2 ⟨n,hn⟩
   |exit i=>exact hn
   |ret=>exact hn
 ·cases ha:X L Cs a E M with
  |none=>rw[ha]at h;cases h
  |some y =>
   rw[ha]at h;obtain⟨n,hn⟩:=zdL.1 ha;obtain⟨ex,E',M'⟩:=y;cases ex with
   |normal =>
    obtain⟨m,hm⟩:=zdL.1 h;exact zdL.2 ⟨max n m,by simp only[zaV,zcR (zgu (uK n m)) (uK n m) hn];exact zcR (zgu (uy n m)) (uy n m) hm⟩
   |exit i=>exact zdL.2 ⟨n,by simp only[zaV,hn];exact h⟩
   |ret=>exact zdL.2 ⟨n,by simp only[zaV,hn];exact h⟩
theorem zCO(c:Opd)(a b:CC)(E:Env)(M:Mem):X L Cs (.cond c a b) E M=match c.ev E.get with
  |some (.c (.bool t))=>if t then X L Cs a E M else X L Cs b E M
  |_=>none:=by
 refine zi0 fun x=>⟨fun h=>?_,fun h=>?_⟩
 ·obtain⟨n,hn⟩:=zdL.1 h;simp only[zaV]at hn;split at hn
  ·rename_i t ht;split at hn
   ·rename_i h1;simp only[ht];rw[if_pos h1];exact zdL.2 ⟨n,hn⟩
   ·rename_i h1;simp only[ht];rw[if_neg h1];exact zdL.2 ⟨n,hn⟩
  ·cases hn
 ·split at h
  ·rename_i t ht;split at h
   ·rename_i h1;obtain⟨n,hn⟩:=zdL.1 h;exact zdL.2 ⟨n,by simp only[zaV,ht];rw[if_pos h1];exact hn⟩
   ·rename_i h1;obtain⟨n,hn⟩:=zdL.1 h;exact zdL.2 ⟨n,by simp only[zaV,ht];rw[if_neg h1];exact hn⟩
  ·cases h
theorem zBU(id:Nat)(b:CC)(E:Env)(M:Mem):X L Cs (.block id b) E M=match X L Cs b E M with
  |some (.exit id',E',M')=>if id'=id then some (.normal,E',M') else some (.exit id',E',M')
  |r=>r:=by
 refine zi0 fun x=>⟨fun h=>?_,fun h=>?_⟩
 ·obtain⟨n,hn⟩:=zdL.1 h;simp only[zaV]at hn;cases ha:zaV (zaH L Cs n) n b E M with
  |none=>rw[ha]at hn;cases hn
  |some y=>rw[ha]at hn;rw[zdL.2 ⟨n,ha⟩];exact hn
 ·cases ha:X L Cs b E M with
  |none=>rw[ha]at h;cases h
  |some y =>
   rw[ha]at h;obtain⟨n,hn⟩:=zdL.1 ha;exact zdL.2 ⟨n,by simp only[zaV,hn];exact h⟩
theorem zCM(live:Option (List Nat))(b:CC)(E:Env)(M:Mem):X L Cs (.loop live b) E M=Y L Cs b live M.length (canon M.length live E M).1 (canon M.length live E M).2:=by
 refine zi0 fun x=>⟨fun h=>?_,fun h=>?_⟩
 ·obtain⟨n,hn⟩:=zdL.1 h;exact zpD.2 ⟨n,by simpa only[zaV]using hn⟩
 ·obtain⟨n,hn⟩:=zpD.1 h;exact zdL.2 ⟨n,by simpa only[zaV]using hn⟩
theorem zrL(b:CC)(live:Option (List Nat))(n0:Nat)(E:Env)(M:Mem):Y L Cs b live n0 E M=match X L Cs b E M with
  |some (.normal,E',M')=>Y L Cs b live n0 (canon n0 live E' M').1 (canon n0 live E' M').2
  |r=>r:=by
 refine zi0 fun x=>⟨fun h=>?_,fun h=>?_⟩
 ·obtain⟨n,hn⟩:=zpD.1 h;cases n with
  |zero=>simp[iter]at hn
  |succ n =>
   simp only[iter]at hn;cases ha:zaV (zaH L Cs (n+1)) (n+1) b E M with
   |none=>rw[ha]at hn;cases hn
   |some y =>
    rw[ha]at hn;rw[zdL.2 ⟨n+1,ha⟩];obtain⟨ex,E',M'⟩:=y;cases ex with
    |normal=>exact zpD.2 ⟨n+1,z7B (fun _ _ _ h=>h) (uj n) hn⟩
    |exit i=>exact hn
    |ret=>exact hn
 ·cases ha:X L Cs b E M with
  |none=>rw[ha]at h;cases h
  |some y =>
   rw[ha]at h;obtain⟨n,hn⟩:=zdL.1 ha;obtain⟨ex,E',M'⟩:=y;cases ex with
   |normal =>
    obtain⟨m,hm⟩:=zpD.1 h;refine zpD.2 ⟨max n m+1,?_⟩;have h1:=zcR (zgu (L:=L) (Cs:=Cs) (show n<=max n m+1 by omega)) (show n<=max n m+1 by omega) hn;simp only[iter,h1];exact z7B (fun _ _ _ hr=>zcR (zgu (show m<=max n m+1 by omega)) (show m<=max n m+1 by omega) hr) (show m<=max n m by omega) hm
   |exit i =>
    refine zpD.2 ⟨n+1,?_⟩;simp only[iter,zcR (zgu (uj n)) (uj n) hn];exact h
   |ret =>
    refine zpD.2 ⟨n+1,?_⟩;simp only[iter,zcR (zgu (uj n)) (uj n) hn];exact h
theorem zNb(f:Opd)(vf:FuncId)(caps:List Nat)(E:Env)(M:Mem):X L Cs (.rng f vf caps) E M=match f.ev E.get with
  |some (.c (.fn g fi ca))=>match zx (R L Cs) ⟨true⟩ (.c (.fn g fi ca)) [.c (.yld M.length vf (zeN E caps).1)] (M++[some (ghost (zeN E caps).2)])with
   |some (_,M',_)=>match jU M' M.length with
    |some s=>match znr s,zsR M' M.length s (-1)with
     |some ex,some M2=>some (ex,E,M2)
     |_,_=>none
    |none=>none
   |none=>none
  |_=>none:=by
 refine zi0 fun x=>⟨fun h=>?_,fun h=>?_⟩
 ·obtain⟨n,hn⟩:=zdL.1 h;simp only[zaV]at hn;split at hn
  ·rename_i g fi ca h1;split at hn
   ·rename_i a M' fp h2;simp only[h1,ztf (zDi n) h2];exact hn
   ·cases hn
  ·cases hn
 ·split at h
  ·rename_i g fi ca h1;split at h
   ·rename_i a M' fp h2;obtain⟨n,hn⟩:=zAC h2;exact zdL.2 ⟨n,by simp only[zaV,h1,hn];exact h⟩
   ·cases h
  ·cases h
theorem zUa{f:FuncId}{fn:CFn}(hL:L.lookup f=some fn)(hr:fn.rnd=none)(args:List WV)(M:Mem):R L Cs f args M=if args.length=fn.nargs then
   match X L Cs fn.code (vC 0 args) M with
   |some (.normal,E,M') |some (.ret,E,M')=>match zpk E M' fn.res with
    |some r=>leave fn.frz M.length r M'
    |none=>none
   |_=>none
  else none:=by
 refine zi0 fun x=>⟨fun h=>?_,fun h=>?_⟩
 ·obtain⟨n,hn⟩:=zah.1 h;cases n with
  |zero=>simp[zaH,zfk]at hn
  |succ n =>
   simp only[zaH,zfk,hL,hr]at hn;split at hn
   ·rename_i hl;rw[if_pos hl];cases ha:zaV (zfk (fun f=>L.lookup f) (yg Cs) n) n fn.code (vC 0 args) M with
    |none=>rw[ha]at hn;cases hn
    |some y=>rw[ha]at hn;rw[zdL.2 ⟨n,ha⟩];exact hn
   ·cases hn
 ·split at h
  ·rename_i hl;cases ha:X L Cs fn.code (vC 0 args) M with
   |none=>rw[ha]at h;cases h
   |some y =>
    rw[ha]at h;obtain⟨n,hn⟩:=zdL.1 ha;refine zah.2 ⟨n+1,?_⟩;have hn:zaV (zfk (fun f=>L.lookup f) (yg Cs) n) n fn.code (vC 0 args) M=some y:=hn;simp only[zaH,zfk,hL,hr,if_pos hl,hn];exact h
  ·cases h
theorem zOg{f:FuncId}{fn:CFn}{ps:List Nat}{pre:CC}(hL:L.lookup f=some fn)(hr:fn.rnd=some (ps,pre)){id:Nat}{sh:List (Nat×Bool×Nat)}{as:List WV}{M M1 M2 M3 M4 M5:Mem}{cells:List Cl}{E0 E1 E3:Env}{ex:EX}{r:AV}
  (h1:as.length=ps.length) (h2:jU M id=some 0) (h3:zxb M id=some cells) (h4:Av sh cells=some E0) (h5:X L Cs pre (zv3 ps as++E0) M=some (.normal,E1,M1)) (h6:zsR M1 id 0 1=some M2)
  (h7:X L Cs fn.code E1 M2=some (ex,E3,M3)) (h8:zsR M3 id 1 (zxZ ex)=some M4) (h9:finish M.length (.w (.c (.bool (ex==.normal)))) M4=some (r,M5)):R L Cs f (.c (.yld id f sh)::as) M=some (r,M5):=by
 obtain⟨n,hn⟩:=zdL.1 h5;obtain⟨m,hm⟩:=zdL.1 h7;refine zah.2 ⟨max n m+1,?_⟩;have e1:=zcR (zgu (L:=L) (Cs:=Cs) (uK n m)) (uK n m) hn;have e2:=zcR (zgu (L:=L) (Cs:=Cs) (uy n m)) (uy n m) hm;show zfk (fun f=>L.lookup f) (yg Cs) (max n m+1) f (.c (.yld id f sh)::as) M=_;simp only[zfk,hL,hr,zoC];rw[if_pos (by simp[h1,h2])];have e1:zaV (zfk (fun f=>L.lookup f) (yg Cs) (max n m)) (max n m) pre (zv3 ps as++E0) M=_:=e1;have e2:zaV (zfk (fun f=>L.lookup f) (yg Cs) (max n m)) (max n m) fn.code E1 M2=_:=e2;simp only[h3,h4,e1,h6,e2,h8,h9]
theorem zrP{f:FuncId}(hL:L.lookup f=none)(args:List WV)(M:Mem):R L Cs f args M=yg Cs f args M:=by
 refine zi0 fun x=>⟨fun h=>?_,fun h=>?_⟩
 ·obtain⟨n,hn⟩:=zah.1 h;cases n with
  |zero=>simp[zaH,zfk]at hn
  |succ n=>simpa only[zaH,zfk,hL]using hn
 ·exact zah.2 ⟨1,by simpa only[zaH,zfk,hL]using h⟩
end
abbrev I(n:Int):Cl:=.int .i64 n
abbrev W(n:Int):WV:=.c (.int .i64 n)
abbrev Bo(b:Bool):WV:=.c (.bool b)
theorem zTd(x:Int)(h:-9223372036854775808<=x)(h':x<=9223372036854775807):IntKind.i64.wrap x=x:=by
 simp[IntKind.wrap,IntKind.signed,IntKind.bits];omega
theorem ku(x:Int)(h:-9223372036854775808<=x:=by omega)(h':x<=9223372036854775807:=by omega):IntKind.i64.wrap x=x:=zTd x h h'
theorem holes0(M:Mem):M++qF 0=M:=by simp[qF]
theorem zvr(M:Mem)(n:Nat)(s:List Nat):collect M n [] s=s:=by cases n<;>rfl
theorem zug(M:Mem)(n id:Nat)(todo seen:List Nat):collect M (n+1) (id::todo) seen=if seen.contains id then collect M n todo seen else collect M n (zpw M id++todo) (seen++[id]):=rfl
theorem zz1(a b:Int):zyw true a b=max a b:=by simp only[zyw,if_true];split<;>omega
theorem zz0(a b:Int):zyw false a b=min a b:=by simp only[zyw,jI,if_false];split<;>omega
theorem zy3{i n:Nat}(h:i<n):zmk (i:Int) n=some i:=by
 unfold zmk;rw[if_pos (by omega)];simp
abbrev own(es:Nat)(l:List (List Cl)):Blk:={ box:=false,esz:=es,rows:=l,gen:=l.length,fz:=false,ver:=l.length }
abbrev sl(id es:Nat)(l:List (List Cl)):Cl:=.slice id l.length es 0 l.length none
section
variable[GlobP]{L:List (Nat×CFn)}{Cs:List (Nat×Nat×Nat×Bool)}
theorem zhJ{b:CC}{live:Option (List Nat)}{n0:Nat}{E:Env}{M:Mem}{r:EX×Env×Mem}(h:X L Cs b E M=some r)(hn:r.1≠.normal):Y L Cs b live n0 E M=some r:=by
 rw[zrL,h];obtain⟨ex,E',M'⟩:=r;cases ex with
 |normal=>exact absurd rfl hn
 |exit i=>rfl
 |ret=>rfl
end
def eqL{α:Type}(f:α->α->Bool):List α->List α->Bool
 |[],[]=>true
 |x::xs,y::ys=>match eqL f xs ys with
  |true=>f x y
  |false=>false
 |_,_=>false
def zDB:Int->Int->Bool
 |.ofNat a,.ofNat b=>Nat.beq a b
 |.negSucc a,.negSucc b=>Nat.beq a b
 |_,_=>false
def zDy(a b:Bool):Bool:=match a,b with
 |true,true=>true
 |false,false=>true
 |_,_=>false
def zDz:Option Nat->Option Nat->Bool
 |none,none=>true
 |some a,some b=>Nat.beq a b
 |_,_=>false
def shE(a b:Nat×Bool×Nat):Bool:=Nat.beq a.1 b.1&&(zDy a.2.1 b.2.1&&Nat.beq a.2.2 b.2.2)
def clE:Nat->Cl->Cl->Bool
 |0,_,_=>false
 |n+1,.bool a,.bool b=>zDy a b
 |n+1,.int k a,.int k' b=>(zDB a b)&&decide (k=k')
 |n+1,.str a,.str b=>decide (a.data.toList=b.data.toList)
 |n+1,.ptr a b c d,.ptr a' b' c' d'=>Nat.beq a a'&&(Nat.beq b b'&&(Nat.beq c c'&&Nat.beq d d'))
 |n+1,.uR r k,.uR r' k'=>Nat.beq k k'&&eqL (clE n) r r'
 |n+1,.qS,.qS=>true
 |n+1,.slice a b c d e f,.slice a' b' c' d' e' f'=>Nat.beq a a'&&(Nat.beq b b'&&(Nat.beq c c'&&(Nat.beq d d'&&(Nat.beq e e'&&zDz f f'))))
 |n+1,.jc a,.jc b=>eqL (eqL (clE n)) a b
 |n+1,.jd,.jd=>true
 |n+1,.fn f a b,.fn f' a' b'=>Nat.beq f f'&&(eqL (clE n) a a'&&eqL (clE n) b b')
 |n+1,.vl,.vl=>true
 |n+1,.iface t a b,.iface t' a' b'=>Nat.beq t t'&&(zDy a a'&&eqL (clE n) b b')
 |n+1,.qy,.qy=>true
 |n+1,.yld a b c,.yld a' b' c'=>Nat.beq a a'&&(Nat.beq b b'&&eqL shE c c')
 |_,_,_=>false
def wvE:WV->WV->Bool
 |.c x,.c y=>clE 12 x y
 |.a x,.a y=>eqL (clE 12) x y
 |_,_=>false
def zDC:Option Blk->Option Blk->Bool
 |none,none=>true
 |some a,some b=>zDy a.box b.box&&(Nat.beq a.esz b.esz&&(Nat.beq a.gen b.gen&&(zDy a.fz b.fz&&(Nat.beq a.ver b.ver&&eqL (eqL (clE 12)) a.rows b.rows))))
 |_,_=>false
def zDA(M N:Mem):Bool:=eqL zDC M N
structure Ent where
 f:FuncId
 a:List WV
 M:Mem
 r:AV
 M':Mem
def Ent.find(f:FuncId)(a:List WV)(M:Mem):List Ent->Option (AV×Mem)
 |[]=>none
 |e::es=>match Nat.beq e.f f with
  |true=>match eqL wvE e.a a with
   |true=>match zDA e.M M with
    |true=>some (e.r,e.M')
    |false=>Ent.find f a M es
   |false=>Ent.find f a M es
  |false=>Ent.find f a M es
section
variable[GlobP]{L:List (Nat×CFn)}{Cs:List (Nat×Nat×Nat×Bool)}
def Holds(L:List (Nat×CFn))(Cs:List (Nat×Nat×Nat×Bool))(e:Ent):Prop:=R L Cs e.f e.a e.M=some (e.r,e.M')
def zIX(L:List (Nat×CFn))(Cs:List (Nat×Nat×Nat×Bool))(es:List Ent):Prop:=∀e∈es,Holds L Cs e
theorem zIX.nil:zIX L Cs []:=fun _ h=>by cases h
theorem zIX.cons{e:Ent}{es:List Ent}(h:Holds L Cs e)(hs:zIX L Cs es):zIX L Cs (e::es):=fun x hx=>by
 rcases jB.1 hx with rfl|hx
 ·exact h
 ·exact hs x hx
end
attribute [simp] zvr vC zCK zCN zDo zAM zDn zCO zBU zCM zks zbm opF Opd.av Opd.ev Env.put Env.get zBR zCG zhN holes0 Env.kept Env.vw zpk zlQ zoD finish leave
 AV.below WV.below Eng.below uX zH Blk.below zke evs zoU zz1 zz0 unC zx zcG callee zl2 zku ziU zpM zeS zfe uv y7 znn zhj zez zck vY back zgx
 WV.ids WV.cells AV.ids zBH C0 zd3 zpw Blk.ids zg qF zdZ zhT storeAt zfJ Eng.look Eng.cut AH zaI zt9 zyi FP.apart FP.Aa FP.old FP.isNo zt5 zmk zdR yK zn7 zla zoS WV.sls AV.sls slC zcl
 zdv zt8 zdS zcf zbg zfj zug zcB zeF roomy canon jN whole ztI WV.plain AV.plain zBL zBB sl own zus znj sliceB zcy zgN zxn zue zbM
abbrev o1(i d:Nat)(x:CO):zaG:=⟨i,some d,none,x⟩
abbrev o0(i:Nat)(x:CO):zaG:=⟨i,none,none,x⟩
abbrev mS(i d n:Nat):zaG:=⟨i,some d,none,.mv (.s n)⟩
abbrev kI(n:Int):Opd:=.k (.c (.int .i64 n))
abbrev kB(b:Bool):Opd:=.k (.c (.bool b))
abbrev rG(n:Nat)(ops:List zaG)(k:List Nat):CC:=.region n ops [] (some k)
abbrev sQ(a b:CC):CC:=.seq a b
attribute [simp] o1 o0 mS kI kB rG sQ
inductive Ins where
 |m (n:Nat)
 |q (d n:Nat)
 |p (d n:Nat)
 |v (n:Int)
 |l (n:Nat)
 |t (k n:Nat)
 |f (k n:Nat)
 |fl (k n:Nat)
 |c (f:Nat) (xs:List Nat)
 |d (f:Nat) (xs:List Opd)
 |a (e x y:Nat)
 |aa (e x y:Nat)
 |ai (e x:Nat) (n:Int)
 |nn (x:Nat)
 |n (x:Nat)
 |e (t k:Nat)
 |b (o:BinOp) (x y:Nat)
 |bb (o:BinOp) (x y:Nat)
 |bn (o:BinOp) (x y:Nat)
 |i (o:BinOp) (x:Nat) (n:Int)
 |ii (o:BinOp) (x:Nat) (n:Int)
 |k (o:BinOp) (x:Nat) (n:Int)
 |inc (x:Nat)
 |u (x:Nat)
 |y (x y:Nat)
 |r (x y:Nat)
 |x (d k e n:Nat)
 |w (k x y:Nat)
 |o (x:CO)
 |od (d:Nat) (x:CO)
 |z (x:CO)
 |j (i d:Nat)
 |g (x:Nat) (b:Bool)
 |h
@[simp] def asm:Nat->Nat->Option (Nat×Bool)->List Ins->List zaG
  |_,_,_,[]=>[]
  |i,d,g,.m n::r=>⟨i,some d,g,.mv (.s n)⟩::asm (i+1) (d+1) g r
  |i,d,g,.q k n::r=>⟨i,some k,g,.mv (.s n)⟩::asm (i+1) d g r
  |i,d,g,.p k n::r=>⟨i,some d,g,.mv (.s n)⟩::⟨i+1,some k,g,.mv (.s d)⟩::asm (i+2) (d+1) g r
  |i,d,g,.v n::r=>⟨i,some d,g,.mv (.k (.c (.int .i64 n)))⟩::asm (i+1) (d+1) g r
  |i,d,g,.l n::r=>⟨i,some d,g,.load false 1 (.s n)⟩::asm (i+1) (d+1) g r
  |i,d,g,.t k n::r=>⟨i,some d,g,.load true k (.s n)⟩::asm (i+1) (d+1) g r
  |i,d,g,.f k n::r=>⟨i,some d,g,.Bw k (.s n)⟩::asm (i+1) (d+1) g r
  |i,d,g,.fl k n::r=>⟨i,some d,g,.Bw k (.s n)⟩::⟨i+1,some (d+1),g,.load false 1 (.s d)⟩::asm (i+2) (d+2) g r
  |i,d,g,.c f xs::r=>⟨i,some d,g,.call ⟨true⟩ (.k (.c (.fn f [] []))) (xs.map .s)⟩::asm (i+1) (d+1) g r
  |i,d,g,.d f xs::r=>⟨i,some d,g,.call ⟨true⟩ (.k (.c (.fn f [] []))) xs⟩::asm (i+1) (d+1) g r
  |i,d,g,.a e x y::r=>⟨i,some d,g,.A4 e (.s x) (.s y)⟩::asm (i+1) (d+1) g r
  |i,d,g,.aa e x y::r=>⟨i,some d,g,.mv (.s x)⟩::⟨i+1,some (d+1),g,.mv (.s y)⟩::⟨i+2,some (d+2),g,.A4 e (.s d) (.s (d+1))⟩::asm (i+3) (d+3) g r
  |i,d,g,.ai e x n::r=>⟨i,some d,g,.A4 e (.s x) (.k (.c (.int .i64 n)))⟩::asm (i+1) (d+1) g r
  |i,d,g,.nn x::r=>⟨i,some d,g,.mv (.s x)⟩::⟨i+1,some (d+1),g,.len (.s d)⟩::asm (i+2) (d+2) g r
  |i,d,g,.n x::r=>⟨i,some d,g,.len (.s x)⟩::asm (i+1) (d+1) g r
  |i,d,g,.e t k::r=>⟨i,some d,g,.extract t k⟩::asm (i+1) (d+1) g r
  |i,d,g,.b o x y::r=>⟨i,some d,g,.bin o (.s x) (.s y)⟩::asm (i+1) (d+1) g r
  |i,d,g,.bb o x y::r=>⟨i,some d,g,.mv (.s x)⟩::⟨i+1,some (d+1),g,.mv (.s y)⟩::⟨i+2,some (d+2),g,.bin o (.s d) (.s (d+1))⟩::asm (i+3) (d+3) g r
  |i,d,g,.bn o x y::r=>⟨i,some d,g,.mv (.s x)⟩::⟨i+1,some (d+1),g,.mv (.s y)⟩::⟨i+2,some (d+2),g,.len (.s (d+1))⟩::⟨i+3,some (d+3),g,.bin o (.s d) (.s (d+2))⟩::asm (i+4) (d+4) g r
  |i,d,g,.i o x n::r=>⟨i,some d,g,.bin o (.s x) (.k (.c (.int .i64 n)))⟩::asm (i+1) (d+1) g r
  |i,d,g,.ii o x n::r=>⟨i,some d,g,.mv (.s x)⟩::⟨i+1,some (d+1),g,.bin o (.s d) (.k (.c (.int .i64 n)))⟩::asm (i+2) (d+2) g r
  |i,d,g,.k o x n::r=>⟨i,some d,g,.mv (.s x)⟩::⟨i+1,some (d+1),g,.len (.s d)⟩::⟨i+2,some (d+2),g,.bin o (.s (d+1)) (.k (.c (.int .i64 n)))⟩::asm (i+3) (d+3) g r
  |i,d,g,.inc x::r=>⟨i,some d,g,.mv (.s x)⟩::⟨i+1,some (d+1),g,.bin .add (.s d) (.k (.c (.int .i64 1)))⟩::⟨i+2,some x,g,.mv (.s (d+1))⟩::asm (i+3) (d+2) g r
  |i,d,g,.u x::r=>⟨i,some d,g,.un .not (.s x)⟩::asm (i+1) (d+1) g r
  |i,d,g,.y x y::r=>⟨i,some d,g,.pick (.s x) (.s y) (.k (.c (.bool false)))⟩::asm (i+1) (d+1) g r
  |i,d,g,.r x y::r=>⟨i,some d,g,.pick (.s x) (.k (.c (.bool true))) (.s y)⟩::asm (i+1) (d+1) g r
  |i,d,g,.x k s e n::r=>⟨i,some k,g,.box s e (.s n)⟩::asm (i+1) d g r
  |i,d,g,.w k x y::r=>⟨i,none,g,.store k (.s x) (.s y)⟩::asm (i+1) d g r
  |i,d,g,.o x::r=>⟨i,some d,g,x⟩::asm (i+1) (d+1) g r
  |i,d,g,.od k x::r=>⟨i,some k,g,x⟩::asm (i+1) d g r
  |i,d,g,.z x::r=>⟨i,none,g,x⟩::asm (i+1) d g r
  |_,_,g,.j i d::r=>asm i d g r
  |i,d,_,.g x b::r=>asm i d (some (x,b)) r
  |i,d,_,.h::r=>asm i d none r
abbrev rH(n d:Nat)(ops:List Ins)(k:List Nat):CC:=.region n (asm 0 d none ops) [] (some k)
abbrev rP(n d:Nat)(ops:List Ins)(ps:List (Nat×Nat))(k:List Nat):CC:=.region n (asm 0 d none ops) ps (some k)
abbrev fN(n t:Nat)(r:List RC)(c:CC):CFn:={ frz:=true,rnd:=none,nargs:=n,ntmps:=t,res:=r,code:=c }
abbrev fF(z:Bool)(v:Option (List Nat×CC))(n t:Nat)(r:List RC)(c:CC):CFn:={ frz:=z,rnd:=v,nargs:=n,ntmps:=t,res:=r,code:=c }
abbrev cD(n:Nat)(a b:CC):CC:=.cond (.s n) a b
attribute [simp] rH rP fN fF cD
inductive Sh where
 |int (k:IntKind)
 |bool
 |str
 |slice (s:Sh)
 |st (l:List Sh)
 deriving Inhabited
mutual
def Sh.n:Sh->Nat
 |.int _ |.bool |.str |.slice _=>1
 |.st l=>Sh.ns l
def Sh.ns:List Sh->Nat
 |[]=>0
 |s::l=>s.n+Sh.ns l
end
mutual
def zfo:Sh->List Cl->Prop
 |.int k,cs=>∃n,cs=[.int k n]/\k.min<=n/\n<=k.max
 |.bool,cs=>∃b,cs=[.bool b]
 |.str,cs=>∃s,cs=[.str s]/\s.size<=maxLen
 |.slice s,cs=>∃rows,cs=[.jc rows]/\rows.length<=maxLen/\∀r∈rows,zfo s r
 |.st l,cs=>znD l cs
def znD:List Sh->List Cl->Prop
 |[],cs=>cs=[]
 |s::l,cs=>∃c d,cs=c++d/\zfo s c/\znD l d
end
def zl5(P:Program)(f:TypeId->Option Sh):List Field->Nat->Option (List Sh)
 |[],_=>some []
 |x::xs,off=>match f x.type with
  |some s=>if x.offset=off/\P.cellsOf x.type=s.n then(zl5 P f xs (off+s.n)).map (s :: ·) else none
  |none=>none
def zey(P:Program):Nat->TypeId->Option Sh
 |0,_=>none
 |d+1,t=>match P.underlying t with
  |some (.int k)=>some (.int k)
  |some .bool=>some .bool
  |some .string=>some .str
  |some (.slice e)=>match zey P d e with
   |some s=>if P.cellsOf e=s.n/\0<s.n then some (.slice s) else none
   |none=>none
  |some (.struct fs)=>match zl5 P (zey P d) fs.toList 0 with
   |some l=>if P.cellsOf t=Sh.ns l then some (.st l) else none
   |none=>none
  |some (.array n e)=>match zey P d e with
   |some s=>if P.cellsOf e=s.n/\P.cellsOf t=n*s.n then some (.st (List.replicate n s)) else none
   |none=>none
  |_=>none
def zlM(P:Program)(d:Nat):List TypeId->Option (List Sh)
 |[]=>some []
 |t::ts=>match zey P d t,zlM P d ts with
  |some s,some l=>some (s::l)
  |_,_=>none
section
variable{H:Type}{enc:TypeId×Value->H}{P:Program}{W:World}{spare:Nat->Bool}{held:Bool}
def zcC(W:World):zP:=fun b o=>W.cell? ⟨b,o,none⟩
theorem zml [zb0](hG:GK (zcC W)):zM (zcC W) W:=⟨fun _ _ _ h=>h,hG⟩
theorem zqT{β:Type}{f:Nat->Option β}{n:Nat}{ys:List β}(h:(List.range n).mapM f=some ys):ys.length=n/\∀i,i<n->∃y,ys[i]?=some y/\f i=some y:=by
 have hl:ys.length=n:=by simpa using mapM_some_length h
 refine⟨hl,fun i hi=>?_⟩;have key:∀(l:List Nat) (ys:List β),l.mapM f=some ys->∀(k x:Nat),l[k]?=some x->∃y,ys[k]?=some y/\f x=some y:=by
  intro l;induction l with
  |nil=>intro ys h k x hk;simp at hk
  |cons a l ih =>
   intro ys h k x hk;rw[yH]at h;cases ha:f a with
   |none=>rw[ha]at h;simp at h
   |some b =>
    rw[ha]at h;cases hr:l.mapM f with
    |none=>rw[hr]at h;simp at h
    |some bs =>
     rw[hr]at h;simp at h;subst h;cases k with
     |zero=>simp at hk;subst hk;exact⟨b,rfl,ha⟩
     |succ k=>simpa using ih bs hr k x (by simpa using hk)
 exact key _ _ h i i (by simp[hi])
theorem zrv{a:Addr}{n:Nat}{cs:List Value}(h:W.cells? 0 a n=some cs):cs.length=n/\∀i,i<n->∃v,cs[i]?=some v/\W.cell? (a.add i)=some v:=by
 unfold World.cells? at h;rw[if_pos (jD _)]at h;exact zqT h
theorem zxa{a:Addr}{v:Value}(h:W.cell? a=some v):a.spot=none:=by
 unfold World.cell? at h;split at h
 ·cases hs:a.spot with
  |none=>rfl
  |some s=>rw[hs]at h;simp at h
 ·cases h
theorem zx4{a:Addr}{len cap sz:Nat}{Q:List Cl->Prop}(qI:0<sz)(hl:len<=cap)(h:∀i,i<len->∃cs cl,W.cells? 0 (a.add (i*sz)) sz=some cs/\VCs (zcC W) zb1 cl cs/\Q cl) :
  ∃rows:List (List Cl),rows.length=len/\(∀r∈rows,Q r)/\VC (zcC W) zb1 (.jc rows) (.slice (some a) len cap):=by
 have hch:∃f:Nat->List Value×List Cl,∀i,i<len->W.cells? 0 (a.add (i*sz)) sz=some (f i).1/\VCs (zcC W) zb1 (f i).2 (f i).1/\Q (f i).2:=by
  refine⟨fun i=>if hi:i<len then((h i hi).choose,(h i hi).choose_spec.choose) else([],[]),fun i hi=>?_⟩;simp only[hi,dif_pos];exact(h i hi).choose_spec.choose_spec
 obtain⟨f,hf⟩:=hch;have hlen:∀i,i<len->(f i).1.length=sz/\(f i).2.length=sz:=fun i hi=>by
  have h1:=(zrv (hf i hi).1).1;exact⟨h1,by rw[(hf i hi).2.1.1,h1]⟩
 have Dt:∀i,i<len->∀n,n<sz->∃v,(f i).1[n]?=some v/\W.cell? ((a.add (i*sz)).add n)=some v:=fun i hi n hn=>(zrv (hf i hi).1).2 n hn
 have hsp:len=0\/∃b o,a=⟨b,o,none⟩:=by
  rcases yD len with h0|h0
  ·exact Or.inl h0
  ·obtain⟨v,_,hv⟩:=Dt 0 h0 0 qI;have:=zxa hv;obtain⟨b,o,s⟩:=a;have:s=none:=by simpa [Addr.add]using this
   exact Or.inr ⟨b,o,by rw[this]⟩
 refine⟨(List.range len).map fun i=>(f i).2,by simp,?_,?_⟩
 ·intro r hr;obtain⟨i,hi,rfl⟩:=kJ.1 hr;exact(hf i (by simpa using hi)).2.2
 ·have qB:∀(i:Nat) (row:List Cl),((List.range len).map fun i=>(f i).2)[i]?=some row->i<len/\row=(f i).2:=fun i row hi=>by
   simp only[qG,jb]at hi;obtain⟨k,hk,rfl⟩:=hi;obtain⟨h1,h2⟩:=kh.1 hk;simp at h1 h2;subst h2;exact⟨h1,rfl⟩
  have hv:=VC.jc (σ:=zcC W) zb1 sz ((List.range len).map fun i=>(f i).2) (some a) cap a.block a.off (fun i n=>((f i).1[n]?).getD undef) (by simpa using hl) ?_ ?_ ?_ ?_
  ·simpa using hv
  ·rcases hsp with h0 |⟨b,o,rfl⟩
   ·exact Or.inl (by subst h0;rfl)
   ·exact Or.inr rfl
  ·intro row hr;obtain⟨i,hi,rfl⟩:=kJ.1 hr;exact(hlen i (by simpa using hi)).2
  ·intro i row n cl hi hn;obtain⟨hil,rfl⟩:=qB i row hi;have hns:n<sz:=by have:=(kh.1 hn).1;rw[(hlen i hil).2]at this;exact this
   obtain⟨v,h1,h2⟩:=Dt i hil n hns;rw[h1];rcases hsp with h0 |⟨b,o,rfl⟩
   ·omega
   ·show W.cell? ⟨b,o+i*sz+n,none⟩=some v;rw[<-h2];by_cases e1:i*sz=0<;>by_cases e2:n=0<;>simp[Addr.add,e1,e2]
  ·intro i row n cl hi hn;obtain⟨hil,rfl⟩:=qB i row hi;have hns:n<sz:=by have:=(kh.1 hn).1;rw[(hlen i hil).2]at this;exact this
   obtain⟨v,h1,_⟩:=Dt i hil n hns;rw[h1];exact(hf i hil).2.1.2 n cl v hn h1
def zAK:Sh->List Cl->WV
 |.st _,cs=>.a cs
 |_,[x]=>.c x
 |_,cs=>.a cs
end
open Go Go.ChangeShapes
section
variable[zb0]
theorem zsd{P:Program}{cf:za4}(hcf:FnS P cf){f:FuncId}(hf:f<zb0.base){args:List WV}{vs:Array Value}{w:World}{σ:zP}{j:Inj}{M M':Mem}(h:cf f args M=some (.w (.c (.bool true)),M'))(ve:Mem.full M)
  (hag:zM σ w) (hm:MR (fun b=>w.heap.size<=b) σ j M w) (hvs:zac σ j args vs.toList) :
  Calls P f vs w fun e w'=>e=.returned (.bool true)/\zd9 w w'/\∀i,i<w.heap.size->w'.heap[i]?=w.heap[i]?:=by
 obtain⟨_,_,_,_,hc⟩:=(hcf f args M _ _ h ve).1 hf;refine Calls.y9 (hc (fun b=>w.heap.size<=b) σ j w vs (fun _ h=>h) hag hm hvs) ?_;rintro e w' ⟨v,σ',j',rfl,hr,_,_,hst⟩;have hr:VC σ' j' (.bool true) v:=hr;cases hr;exact⟨rfl,hst.side,fun i hi=>hst.frame i hi (by omega)⟩
end
section
variable{H:Type}{enc:TypeId×Value->H}{P:Program}
theorem zwm{w w':World}(h:∀i,i<w.heap.size->w'.heap[i]?=w.heap[i]?){p:MemPlace}(hp:p.block<w.heap.size):w.sameAt w' p:=by
 cases p with
 |cell b off =>
  have e:=h b hp;show w'.cell? ⟨b,off,none⟩=w.cell? ⟨b,off,none⟩;unfold World.cell?;rw[e]
 |map b=>exact h b hp
theorem zpc{w w':World}(h:∀i,i<w.heap.size->w'.heap[i]?=w.heap[i]?){base:Nat}{sp:Nat->Bool}{hd:Bool}:∀{ts:List TypeId} {vs:List Value} {ds:List (DataW H)} {ps:List MemPlace},
  (∀p∈ps,p.block<w.heap.size)->DataW.TrodAll enc P w base sp hd ts vs ds ps->DataW.TrodAll enc P w' base sp hd ts vs ds ps
 |[],[],[],_,_,h2=>h2
 |_::_,_::_,_::_,_,hl,⟨p,q,⟨n,h1⟩,h2,e⟩=>by
  subst e;exact⟨p,q,⟨n,DataW.trod_carry n _ _ _ h1 fun x hx=>zwm h (hl x (j6 _ hx))⟩,zpc h (fun x hx=>hl x (kL _ hx)) h2,rfl⟩
theorem zpd{w:World}{base:Nat}{sp:Nat->Bool}{hd:Bool}:∀{ts:List TypeId} {vs:List Value} {ds:List (DataW H)} {ps:List MemPlace},DataW.TrodAll enc P w base sp hd ts vs ds ps->ds.length=ts.length
 |[],[],[],_,_=>rfl
 |_::_,_::_,_::_,_,⟨_,_,_,h2,_⟩=>by simp[zpd h2]
 |[],_::_,_,_,h |[],[],_::_,_,h |_::_,[],_,_,h |_::_,_::_,[],_,h=>by simp[DataW.TrodAll]at h
theorem zAf{w w':World}(hs:zd9 w w')(hold:∀i,i<w.heap.size->w'.heap[i]?=w.heap[i]?){may:MemPlace->Prop}:w.keptBut w' may:=by
 refine⟨hs.os,hs.output,fun i hi=>?_⟩;rw[hold i hi];cases hx:w.heap[i]? with
 |none=>rfl
 |some o=>cases o<;>simp
theorem zzI{f:Func}{s:ChangeSpec}{apart fresh handsOn again:Bool}{W W':World}{args:Array Value}{v:Value}{ds gs:List (DataW H)}{before pa pv:List MemPlace}
  (hW:DataW.Whole enc P f.params.toList s.vars apart W args.toList ds gs before) (hold:∀i,i<W.heap.size->W'.heap[i]?=W.heap[i]?) (hk:W.keptBut W' (·∈before)) (hps:before=pa++pv)
  (AK:∀(b:Nat) (sp:Nat->Bool) (hd:Bool),DataW.TrodAll enc P W' b sp hd f.resultTypes.toList (v.resultList f.resultTypes.size) (s.fn H (ds++gs)).results [])
  (BO:∀sp:Nat->Bool,(∀p∈before,sp p.block=true)->DataW.TrodAll enc P W' 0 sp true f.params.toList args.toList (s.fn H (ds++gs)).args pa)
  (Ca:∀sp:Nat->Bool,(∀p∈before,sp p.block=true)->DataW.TrodVars enc P W' sp s.vars (s.fn H (ds++gs)).vars pv)
  (hok:∀(j:Nat) (t:TypeId) (r:Value),f.resultTypes[j]?=some t->(v.resultList f.resultTypes.size)[j]?=some r->Value.okWide P W' .any 0 t r) :
  s.post enc P f apart fresh handsOn again W args v W':=by
 have hlt:∀p∈before,p.block<W.heap.size:=fun p hp=>hW.lt p hp
 have AL:∀p∈before,p∈[]\/p∈pa++pv:=fun p hp=>.inr (hps ▸ hp)
 refine⟨ds,gs,before,[],pa,pv,hW,AK _ _ _,BO _ fun p hp=>decide_eq_true (hlt p hp),Ca _ fun p hp=>decide_eq_true (hlt p hp),World.keptBut_mono (fun p hp=>⟨hp,?_⟩) hk,fun _=>?_⟩
 ·rcases AL p hp with h|h
  ·cases h
  ·exact .inr (jt.1 h)
 ·have hW2:=hW;obtain⟨_,_,_,_,_,hz,hn⟩:=hW2;have vo:∀p∈before,(fun _:Nat=>true) p.block=true:=fun _ _=>rfl
  refine⟨hok,_,_,([]++pa)++pv,⟨[]++pa,pv,trodAll_append (BO _ vo) (AK _ _ _),Ca _ vo,rfl,fun b off hp=>?_,fun ha=>?_⟩,fun p hp _=>?_⟩
  ·have hp':MemPlace.cell b off∈before:=by rw[hps];simpa using hp
   have h1:=hz b off hp';have h2:=hold b (hlt _ hp');unfold World.frozen? at h1 ⊢;rw[h2];exact h1
  ·have h1:=hn ha;rw[hps]at h1;simpa using h1
  ·rw[hps];simpa using hp
end
theorem zmE{α β:Type}{f g:α->β}{l:List α}{n i:Nat}(h1:((l.drop i).take n).map f=((l.drop i).take n).map g)(h2:(l.drop (i+n)).map f=(l.drop (i+n)).map g):(l.drop i).map f=(l.drop i).map g:=by
 rw[<-ke n (l.drop i),uL,uL,h1,vM,h2]
theorem zsc{α β:Type}{f g:α->β}{l:List α}{i:Nat}(h:l.length<=i):(l.drop i).map f=(l.drop i).map g:=by
 rw[uE h];rfl
def zpx{α σ ρ:Type}(f:Nat->σ->α->σ ⊕ ρ):Nat->σ->List α->σ ⊕ ρ
 |_,s,[]=>.inl s
 |i,s,x::xs=>match f i s x with
  |.inl s'=>zpx f (i+1) s' xs
  |.inr r=>.inr r
def zM6{α σ:Type}(f:Nat->σ->α->σ):Nat->σ->List α->σ
 |_,s,[]=>s
 |i,s,x::xs=>zM6 f (i+1) (f i s x) xs
theorem zMd{α σ:Type}(f:σ->α->σ):∀(l:List α) (i:Nat) (s:σ),zM6 (fun _=>f) i s l=l.foldl f s
 |[],_,_=>rfl
 |x::l,i,s=>by simp only[zM6,List.foldl];exact zMd f l (i+1) (f s x)
abbrev bx(n:Nat)(row:List Cl):Option Blk:=some { box:=true,esz:=n,rows:=[row],gen:=0,fz:=false,ver:=0 }
abbrev bxv(v:Nat)(n:Nat)(row:List Cl):Option Blk:=some { box:=true,esz:=n,rows:=[row],gen:=0,fz:=false,ver:=v }
abbrev gb(es:Nat):Option Blk:=some { box:=false,esz:=es,rows:=[],gen:=0,fz:=false,ver:=0 }
abbrev Pt(k:Nat):WV:=.c (.ptr k 0 0 0)
section
variable[GlobP]{L:List (Nat×CFn)}{Cs:List (Nat×Nat×Nat×Bool)}{b:CC}{live:Option (List Nat)}{n0:Nat}
theorem ZfM{b':CC}(h:b=b')(E:Env)(M:Mem):Y L Cs b live n0 E M=match X L Cs b' E M with
  |some (.normal,E',M')=>Y L Cs b live n0 (canon n0 live E' M').1 (canon n0 live E' M').2
  |r=>r:=by
 rw[<-h];exact zrL b live n0 E M
theorem zBT{α σ ρ:Type}(l:List α)(E:Nat->σ->Env)(M:Nat->σ->Mem)(inv:Nat->σ->Prop)(f:Nat->σ->α->σ ⊕ ρ)(out:ρ->EX×Env×Mem)(e:σ->EX×Env×Mem)
  (hs:∀(i:Nat) (h:i<l.length) s,inv i s->match f i s l[i]with
   |.inl s'=>inv (i+1) s'/\Y L Cs b live n0 (E i s) (M i s)=Y L Cs b live n0 (E (i+1) s') (M (i+1) s')
   |.inr r=>Y L Cs b live n0 (E i s) (M i s)=some (out r))
  (he:∀s,inv l.length s->Y L Cs b live n0 (E l.length s) (M l.length s)=some (e s)) {s0:σ} (h0:inv 0 s0) :
  Y L Cs b live n0 (E 0 s0) (M 0 s0)=some (match zpx f 0 s0 l with |.inl s=>e s |.inr r=>out r):=by
 have key:∀(r:List α) (i:Nat) (s:σ),l.drop i=r->i<=l.length->inv i s->Y L Cs b live n0 (E i s) (M i s)=some (match zpx f i s r with |.inl s=>e s |.inr r=>out r):=by
  intro r;induction r with
  |nil =>
   intro i s hd hi hv;have:i=l.length:=by
    have:=congrArg List.length hd;simp at this;omega
   subst this;exact he s hv
  |cons x r ih =>
   intro i s hd hi hv;have hil:i<l.length:=by
    have:=congrArg List.length hd;simp at this;omega
   have hd':l.drop (i+1)=r:=by
    rw[ki hil]at hd;exact(yY hd).2
   have hx:l[i]=x:=by
    rw[ki hil]at hd;exact(yY hd).1
   have:=hs i hil s hv;rw[hx]at this;simp only[zpx];split at this
   ·rename_i s' hf;rw[this.2,ih (i+1) s' hd' hil this.1]
   ·rename_i r' hf;rw[this]
 exact key l 0 s0 rfl (jD _) h0
theorem zPH{α σ:Type}(l:List α)(E:Nat->σ->Env)(M:Nat->σ->Mem)(inv:Nat->σ->Prop)(f:Nat->σ->α->σ)(e:σ->EX×Env×Mem)
  (hs:∀(i:Nat) (h:i<l.length) s,inv i s->inv (i+1) (f i s l[i])/\Y L Cs b live n0 (E i s) (M i s)=Y L Cs b live n0 (E (i+1) (f i s l[i])) (M (i+1) (f i s l[i])))
  (he:∀s,inv l.length s->Y L Cs b live n0 (E l.length s) (M l.length s)=some (e s)) {s0:σ} (h0:inv 0 s0) :
  Y L Cs b live n0 (E 0 s0) (M 0 s0)=some (e (zM6 f 0 s0 l)):=by
 have h:=zBT (ρ:=Unit) l E M inv (fun i s x=>.inl (f i s x)) (fun _=>(.normal,[],[])) e (fun i h s hv=>hs i h s hv) he h0;have h2:∀(r:List α) (i:Nat) (s:σ),zpx (ρ:=Unit) (fun i s x=>.inl (f i s x)) i s r=.inl (zM6 f i s r):=by
  intro r;induction r with
  |nil=>intro i s;rfl
  |cons x r ih=>intro i s;simp only[zpx,zM6];exact ih _ _
 rw[h,h2]
theorem zxf{α:Type}(l:List α)(E:Nat->Env)(M:Mem)(p:α->Bool)(out:Nat->EX×Env×Mem)(e:EX×Env×Mem)
  (hs:∀(i:Nat) (h:i<l.length),p l[i]=false->Y L Cs b live n0 (E i) M=Y L Cs b live n0 (E (i+1)) M)
  (hh:∀(i:Nat) (h:i<l.length),p l[i]=true->Y L Cs b live n0 (E i) M=some (out i))
  (he:Y L Cs b live n0 (E l.length) M=some e) :
  Y L Cs b live n0 (E 0) M=some (match l.findIdx? p with |some i=>out i |none=>e):=by
 have h:=zBT (σ:=Unit) (ρ:=Nat) l (fun i _=>E i) (fun _ _=>M) (fun _ _=>True) (fun i s x=>if p x then .inr i else .inl s) out (fun _=>e)
  (fun i h s _=>by
   cases hp:p l[i]with
   |true=>simpa using hh i h hp
   |false=>simpa using hs i h hp) (fun s _=>he) (s0:=()) trivial
 have h2:∀(r:List α) (i:Nat),(match zpx (σ:=Unit) (ρ:=Nat) (fun i s x=>if p x then .inr i else .inl s) i () r with |.inl _=>e |.inr r=>out r)=(match r.findIdx? p with |some k=>out (i+k) |none=>e):=by
  intro r;induction r with
  |nil=>intro i;simp[zpx]
  |cons x r ih =>
   intro i;simp only[zpx,kS];cases hp:p x with
   |true=>simp
   |false =>
    simp only[jI,if_false];rw[ih (i+1)];cases r.findIdx? p<;>simp[kU,yq,Nat.add_left_comm]
 rw[h];have h3:=h2 l 0;simp only[jH]at h3
 congr 1
 cases hf:zpx (σ:=Unit) (ρ:=Nat) (fun i s x=>if p x then .inr i else .inl s) 0 () l with
 |inl s=>rw[hf]at h3;exact h3
 |inr r=>rw[hf]at h3;exact h3
theorem zpE{α:Type}(l:List α)(E:Nat->Env)(M:Mem)(p:α->Bool)(out e:EX×Env×Mem)
  (hs:∀(i:Nat) (h:i<l.length),p l[i]=false->Y L Cs b live n0 (E i) M=Y L Cs b live n0 (E (i+1)) M)
  (hh:∀(i:Nat) (h:i<l.length),p l[i]=true->Y L Cs b live n0 (E i) M=some out)
  (he:Y L Cs b live n0 (E l.length) M=some e) :
  Y L Cs b live n0 (E 0) M=some (if l.any p then out else e):=by
 rw[zxf l E M p (fun _=>out) e hs hh he];cases h:l.findIdx? p with
 |none =>
  have:l.any p=false:=by
   rw[kK];intro x hx;have:=kE.1 h x hx;simp[this]
  simp[this]
 |some k =>
  have:l.any p=true:=by
   obtain⟨hk,h1,_⟩:=jM.1 h;exact jQ.2 ⟨_,ja hk,h1⟩
  simp[this]
end
end Go.Eng
