/- This text proves parts of an evaluator's soundness: what the evaluator answers, the model's run does; no condition. -/
import Derived.Test.YtiakbjhnpchbhaaGreatEg1
import Derived.OrdersIn
import Derived.RangeFuncRecord
set_option linter.unusedVariables false
set_option linter.unusedSimpArgs false
set_option linter.unusedSectionVars false
namespace Go.Eng
open Go
variable[zb0]
def zi8(ρ:Nat->Option Nat)(j j':Inj):Prop:=∀id id' g pl,ρ id=some id'->j id g=some pl->j' id' g=some pl
section
variable{own:Nat->Prop}{σ:zP}{j j':Inj}{M:Mem}{w:World}{P:Program}{ρ:Nat->Option Nat}
theorem zbC(hr:zi8 ρ j j'){c c':Cl}{v:Value}(h:uv ρ c=some c')(hv:VC σ j c v):VC σ j' c' v:=by
 cases hv with
 |ptr _ id g i k L hL =>
  simp only[uv,jb]at h;obtain⟨id',hid,rfl⟩:=h;exact .ptr _ _ _ _ _ L (hr _ _ _ _ hid hL)
 |slice _ id g es off len cap pl a c hj hl hc ha =>
  simp only[uv,jb]at h;obtain⟨id',hid,rfl⟩:=h;exact .slice _ _ _ _ _ _ _ pl _ _ (hr _ _ _ _ hid hj) hl hc ha
 |fn _ f fi ca fi' ca' l1 l2 h1 h2 =>
  unfold uv at h;split at h<;>first
   |(rename_i heq;cases heq;done)
   |skip
  ·rename_i heq;cases heq;cases h;exact .fn _ _ _ _ _ _ l1 l2 (fun n c v hc _=>by simp at hc) (fun n c v hc _=>by simp at hc)
  ·cases h
  ·rename_i hx _ _ _ ;simp at *
 |ye=>simp[uv]at h
 |yd=>simp[uv]at h
 |yld _ id f sh l r h0 =>
  simp only[uv,jb]at h;obtain⟨id',hid,rfl⟩:=h;exact .yld _ _ _ _ l r (hr _ _ _ _ hid h0)
 |bool=>simp only[uv,ji]at h;subst h;exact .bool _ _
 |int=>simp only[uv,ji]at h;subst h;exact .int _ _ _
 |str=>simp only[uv,ji]at h;subst h;exact .str _ _
 |uR _ row k b o val h1 h2=>simp only[uv,ji]at h;subst h;exact .uR _ row k b o val h1 h2
 |qS=>simp only[uv,ji]at h;subst h;exact .qS _
 |jc _ esz rows a c b o val q1 q3 q4 q5 q6=>simp only[uv,ji]at h;subst h;exact .jc _ esz rows a c b o val q1 q3 q4 q5 q6
 |jd=>simp only[uv,ji]at h;subst h;exact .jd _
 |vl=>simp only[uv,ji]at h;subst h;exact .vl _
 |qy=>simp only[uv,ji]at h;subst h;exact .qy _
theorem zhk(hr:zi8 ρ j j'):∀{cs cs':List Cl} {vs:List Value},y7 ρ cs=some cs'->VCs σ j cs vs->VCs σ j' cs' vs
 |[],cs',vs,h,hv=>by simp only[y7,ji]at h;subst h;have:=hv.yl;subst this;exact VCs.nil
 |c::cs,cs',vs,h,hv=>by
  simp only[y7]at h;split at h
  ·rename_i y ys hy hys;cases h;obtain⟨v,vs',rfl,h1,h2⟩:=hv.qM;exact VCs.cons (zbC hr hy h1) (zhk hr hys h2)
  ·cases h
theorem zko(hr:zi8 ρ j j'){c c':Cl}{v:Value}(h:zeS ρ c=some c')(hv:VC σ j c v):VC σ j' c' v:=by
 cases hv with
 |yld _ id f sh l r h0=>exact zbC (c:=.yld id f sh) hr h (.yld _ id f sh l r h0)
 |fn _ f fi ca fi' ca' l1 l2 h1 h2 =>
  simp only[zeS]at h;split at h
  ·rename_i x y hx hy;cases h;have q1:=zhk (σ:=σ) hr hx ⟨l1,h1⟩;have q2:=zhk (σ:=σ) hr hy ⟨l2,h2⟩;exact .fn _ f x y fi' ca' q1.1 q2.1 q1.2 q2.2
  ·cases h
 |ye _ t c v hv =>
  simp only[zeS,jb]at h;obtain⟨cs,hcs,rfl⟩:=h;have q:=zhk (σ:=σ) hr hcs (VCs.cons hv VCs.nil)
  match cs,q with
  |[c'],q =>
   obtain⟨u,us,hu,q1,q2⟩:=q.qM;cases hu;exact .ye _ t c' v q1
  |[],q=>have:=q.1;simp at this
  |_::_::_,q=>have:=q.1;simp at this
 |yd _ t cs vs l hv =>
  simp only[zeS,jb]at h;obtain⟨cs',hcs,rfl⟩:=h;have q:=zhk (σ:=σ) hr hcs ⟨l,hv⟩;exact .yd _ t cs' vs q.1 q.2
 |ptr _ id g i k L hL=>exact zbC (c:=.ptr id g i k) hr h (.ptr _ id g i k L hL)
 |slice _ id g es off len cap pl a c hj hl hc ha=>exact zbC (c:=.slice id g es off len cap) hr h (.slice _ id g es off len cap pl a c hj hl hc ha)
 |bool=>exact zbC (c:=.bool _) hr h (.bool _ _)
 |int=>exact zbC (c:=.int _ _) hr h (.int _ _ _)
 |str=>exact zbC (c:=.str _) hr h (.str _ _)
 |uR _ row k b o val h1 h2=>exact zbC (c:=.uR row k) hr h (.uR _ row k b o val h1 h2)
 |qS=>exact zbC (c:=.qS) hr h (.qS _)
 |jc _ esz rows a c b o val q1 q3 q4 q5 q6=>exact zbC (c:=.jc rows) hr h (.jc _ esz rows a c b o val q1 q3 q4 q5 q6)
 |jd=>exact zbC (c:=.jd) hr h (.jd _)
 |vl=>exact zbC (c:=.vl) hr h (.vl _)
 |qy=>exact zbC (c:=.qy) hr h (.qy _)
theorem ziW(hr:zi8 ρ j j'):∀{cs cs':List Cl} {vs:List Value},zfe ρ cs=some cs'->VCs σ j cs vs->VCs σ j' cs' vs
 |[],cs',vs,h,hv=>by simp only[zfe,ji]at h;subst h;have:=hv.yl;subst this;exact VCs.nil
 |c::cs,cs',vs,h,hv=>by
  simp only[zfe]at h;split at h
  ·rename_i y ys hy hys;cases h;obtain⟨v,vs',rfl,h1,h2⟩:=hv.qM;exact VCs.cons (zko hr hy h1) (ziW hr hys h2)
  ·cases h
theorem zoE:∀{cs cs':List Cl},zfe ρ cs=some cs'->cs'.length=cs.length/\∀(n:Nat) (c':Cl),cs'[n]?=some c'->∃c,cs[n]?=some c/\zeS ρ c=some c'
 |[],cs',h=>by simp only[zfe,ji]at h;subst h;exact⟨rfl,by simp⟩
 |c::cs,cs',h=>by
  simp only[zfe]at h;split at h
  ·rename_i y ys hy hys;cases h;obtain⟨h1,h2⟩:=zoE hys;refine⟨by simp[h1],fun n c' hc=>?_⟩;cases n with
   |zero=>simp at hc;subst hc;exact⟨c,rfl,hy⟩
   |succ n=>simp at hc;obtain⟨c0,h3,h4⟩:=h2 n c' hc;exact⟨c0,by simpa using h3,h4⟩
  ·cases h
theorem ziV:∀{rs rs':List (List Cl)},zez ρ rs=some rs'->rs'.length=rs.length/\(∀(n:Nat) (r':List Cl),rs'[n]?=some r'->∃r,rs[n]?=some r/\zfe ρ r=some r')
 |[],rs',h=>by simp only[zez,ji]at h;subst h;exact⟨rfl,by simp⟩
 |r::rs,rs',h=>by
  simp only[zez]at h;split at h
  ·rename_i y ys hy hys;cases h;obtain⟨h1,h2⟩:=ziV hys;refine⟨by simp[h1],fun n c' hc=>?_⟩;cases n with
   |zero=>simp at hc;subst hc;exact⟨r,rfl,hy⟩
   |succ n=>simp at hc;obtain⟨c0,h3,h4⟩:=h2 n c' hc;exact⟨c0,by simpa using h3,h4⟩
  ·cases h
theorem zqB(hr:zi8 ρ j j'){x y:WV}{v:Value}(h:zpM ρ x=some y)(hv:WVR σ j x v):WVR σ j' y v:=by
 cases x with
 |c x =>
  simp only[zpM,jb]at h;obtain⟨c,hc,rfl⟩:=h;exact zko hr hc hv
 |a cs =>
  simp only[zpM,jb]at h;obtain⟨c,hc,rfl⟩:=h;obtain⟨arr,rfl,hv⟩:=hv;exact⟨arr,rfl,ziW hr hc hv⟩
theorem zlS(hr:zi8 ρ j j'):∀{cs cs':List WV} {vs:List Value},ziU ρ cs=some cs'->zac σ j cs vs->zac σ j' cs' vs
 |[],cs',vs,h,hv=>by simp only[ziU,ji]at h;subst h;have:=hv.yl;subst this;exact zac.nil
 |c::cs,cs',vs,h,hv=>by
  simp only[ziU]at h;split at h
  ·rename_i y ys hy hys;cases h;obtain⟨v,vs',rfl,h1,h2⟩:=hv.qM;exact zac.cons (zqB hr hy h1) (zlS hr hys h2)
  ·cases h
theorem znm(hr:zi8 ρ j j'){x y:AV}{v:Value}(h:znn ρ x=some y)(hv:AVR σ j x v):AVR σ j' y v:=by
 cases x with
 |w x =>
  simp only[znn,jb]at h;obtain⟨c,hc,rfl⟩:=h;exact zqB hr hc hv
 |t cs =>
  simp only[znn,jb]at h;obtain⟨c,hc,rfl⟩:=h;obtain⟨arr,rfl,hv⟩:=hv;exact⟨arr,rfl,zlS hr hc hv⟩
 |u=>simp only[znn,ji]at h;subst h;exact hv
theorem zcE{b b':Blk}(h:zhj ρ b=some b'):b'.box=b.box/\b'.esz=b.esz/\b'.gen=b.gen/\b'.fz=b.fz/\b'.ver=b.ver/\b'.rows.length=b.rows.length:=by
 unfold zhj at h;split at h
 ·simp only[jb]at h;obtain⟨r,hr,rfl⟩:=h;exact⟨rfl,rfl,rfl,rfl,rfl,(ziV hr).1⟩
 ·cases h;exact⟨rfl,rfl,rfl,rfl,rfl,rfl⟩
theorem zkp(hr:zi8 ρ j j'){b b':Blk}{pl:Pl}(h:zhj ρ b=some b')(hb:BR σ j b pl w):BR σ j' b' pl w:=by
 obtain⟨e1,e2,e3,e4,e5,e6⟩:=zcE h;cases pl with
 |empty =>
  obtain⟨h1,h2⟩:=hb;refine⟨?_,by rw[e1];exact h2⟩;rw[h1]at e6;exact kA e6
 |rnd l r f sh =>
  have hb:RB σ j b l r f sh w:=hb;obtain⟨s,cells,pd,vs,h1,h2,h3,h4,h5⟩:=hb.st;unfold zhj at h;rw[if_pos hb.box]at h;simp only[jb]at h;obtain⟨rs,hrs,rfl⟩:=h;rw[h1]at hrs;simp only[zez]at hrs;split at hrs
  ·rename_i y ys hy hys;cases hys;cases hrs;simp only[zfe,zeS,uv]at hy;split at hy
   ·rename_i y' ys' e' hys';cases e';cases hy;exact(⟨hb.box,hb.ok,s,ys',pd,vs,rfl,h2,h3,ziW hr hys' h4,h5⟩:RB σ j' { b with rows:=[.int .i64 s::ys'] } l r f sh w)
   ·cases hy
  ·cases hrs
 |loc L =>
  have hb:BL σ j b L w:=hb;obtain⟨C,T,hC,hsz,qB⟩:=hb.heap;have key:(∀row∈b'.rows,row.length=b.esz)/\zDq σ (if b.box then j' else zb1) b' L C:=by
   unfold zhj at h;split at h
   ·rename_i u9;simp only[jb]at h;obtain⟨rs,hrs,rfl⟩:=h;obtain⟨h1,h2⟩:=ziV hrs;refine⟨fun row hrow'=>?_,fun i row n cl hi hn=>?_⟩
    ·obtain⟨n,hn⟩:=kd hrow';obtain⟨r0,h3,h4⟩:=h2 n row hn;rw[(zoE h4).1];exact hb.len r0 (zat h3)
    ·obtain⟨r0,h3,h4⟩:=h2 i row hi;obtain⟨c0,h5,h6⟩:=(zoE h4).2 n cl hn;obtain⟨v,hv,hvc⟩:=qB i r0 n c0 h3 h5;rw[if_pos u9]at hvc ⊢;exact⟨v,hv,zko hr h6 hvc⟩
   ·rename_i u9;cases h;refine⟨hb.len,fun i row n cl hi hn=>?_⟩;obtain⟨v,hv,hvc⟩:=qB i row n cl hi hn;rw[if_neg u9]at hvc ⊢;exact⟨v,hv,hvc⟩
  exact(⟨by rw[e2];exact hb.esz,by rw[e2];exact hb.pos,by rw[e2];exact key.1,by rw[e6,e2];exact hb.fit,⟨C,T,hC,hsz,by rw[e1];exact key.2⟩,
   fun o h1 h2=>hb.A8 o h1 (fun h=>by rw[<-e2,<-e6];exact h2 (by rw[e4];exact h))⟩:BL σ j' b' L w)
theorem zkA:∀{ids:List Nat} {id k:Nat},zd3 ids id=some k->ids[k]?=some id
 |[],id,k,h=>by simp[zd3]at h
 |x::xs,id,k,h=>by
  simp only[zd3]at h;split at h
  ·rename_i hx;cases h;simp[hx]
  ·simp only[jb]at h;obtain⟨q,hq,rfl⟩:=h;simpa using zkA hq
theorem zgy:∀{ids:List Nat},zku ids=true->ids.Nodup
 |[],_=>List.nodup_nil
 |x::xs,h=>by
  simp only[zku,jh,kR,List.contains_eq_mem,decide_eq_false_iff_not]at h;exact qH.2 ⟨h.1,zgy h.2⟩
theorem zg4:∀{ids:List Nat} {id k:Nat},ids.Nodup->ids[k]?=some id->zd3 ids id=some k
 |[],id,k,_,h=>by simp at h
 |x::xs,id,k,hn,h=>by
  obtain⟨h1,h2⟩:=qH.1 hn;cases k with
  |zero=>simp at h;simp[zd3,h]
  |succ k =>
   simp at h;have:x≠id:=by rintro rfl;exact h1 (kF h)
   simp[zd3,this,zg4 h2 h]
theorem zwU{ids:List Nat}{id:Nat}(h:zd3 ids id=none):id∉ids:=by
 induction ids with
 |nil=>simp
 |cons x xs ih =>
  simp only[zd3]at h;split at h
  ·cases h
  ·rename_i hx;simp only[Option.map_eq_none_iff]at h;simp only[jB,not_or];exact⟨fun e=>hx e.symm,ih h⟩
theorem zjj{ids:List Nat}{id:Nat}(h:id∉ids):zd3 ids id=none:=by
 cases hh:zd3 ids id with
 |none=>rfl
 |some k=>exact absurd (kF (zkA hh)) h
theorem zfp:∀{ids:List Nat} {Ms:Mem},zck M ρ ids=some Ms->Ms.length=ids.length/\(∀(k id:Nat),ids[k]?=some id->∃b b',M[id]?=some (some b)/\zhj ρ b=some b'/\Ms[k]?=some (some b')) /\
  ∀(k:Nat) (b':Blk),Ms[k]?=some (some b')->∃id b,ids[k]?=some id/\M[id]?=some (some b)/\zhj ρ b=some b'
 |[],Ms,h=>by simp only[zck,ji]at h;subst h;exact⟨rfl,by simp,by simp⟩
 |id::ids,Ms,h=>by
  simp only[zck]at h;split at h
  ·rename_i b bs hb hbs;simp only[jb]at h;obtain⟨b',hb',rfl⟩:=h;obtain⟨h1,h2,h3⟩:=zfp hbs;refine⟨by simp[h1],fun k id' hk=>?_,fun k c hk=>?_⟩
   ·cases k with
    |zero=>simp at hk;subst hk;exact⟨b,b',hb,hb',rfl⟩
    |succ k=>simp at hk;obtain⟨x,y,q1,q2,q3⟩:=h2 k id' hk;exact⟨x,y,q1,q2,by simpa using q3⟩
   ·cases k with
    |zero=>simp at hk;subst hk;exact⟨id,b,rfl,hb,hb'⟩
    |succ k=>simp at hk;obtain⟨x,y,q1,q2,q3⟩:=h3 k c hk;exact⟨x,y,by simpa using q1,q2,q3⟩
  ·cases h
def zdx(ids:List Nat)(j:Inj):Inj:=fun k g=>match ids[k]? with
 |some id=>j id g
 |none=>none
theorem zkg(ids:List Nat)(j:Inj):zi8 (zd3 ids) j (zdx ids j):=by
 intro id k g pl hk hj;simp[zdx,zkA hk,hj]
def zig(ids:List Nat)(j:Inj)(M:Mem)(w:World):Nat->Prop:=fun k=>(∃id∈ids,∃b,M[id]?=some (some b)/\j.atk id b.gen=some k)\/w.heap.size<=k
theorem MR.sub{ids:List Nat}{Ms:Mem}(hm:MR own σ j M w)(hn:ids.Nodup)(h:zck M (zd3 ids) ids=some Ms):MR (zig ids j M w) σ (zdx ids j) Ms w:=by
 obtain⟨h1,h2,h3⟩:=zfp h;refine⟨fun k b' hb'=>?_,fun k k' b b' q hb hb' hL hL'=>?_,fun k g pl hj=>?_,fun k g pl hj=>?_⟩
 ·obtain⟨id,b,q1,q2,q3⟩:=h3 k b' hb';obtain⟨pl,hpl,hbr,_⟩:=hm.yh id b q2;obtain⟨_,_,e3,_⟩:=zcE q3;refine⟨pl,by simp[zdx,q1,e3,hpl],zkp (zkg ids j) q3 hbr,fun L e=>?_⟩;exact .inl ⟨id,kF q1,b,q2,Inj.yC hpl e⟩
 ·obtain⟨id,b0,q1,q2,q3⟩:=h3 k b hb;obtain⟨id',b0',q1',q2',q3'⟩:=h3 k' b' hb';obtain⟨_,_,e3,_⟩:=zcE q3;obtain⟨_,_,e3',_⟩:=zcE q3';have hL:j.atk id b0.gen=some q:=by simpa [Inj.atk,zdx,q1,e3]using hL
  have hL':j.atk id' b0'.gen=some q:=by simpa [Inj.atk,zdx,q1',e3']using hL'
  have:=hm.vR id id' b0 b0' q q2 q2' hL hL';subst this;have:=zg4 hn q1;rw[zg4 hn q1']at this;cases this;rfl
 ·simp only[zdx]at hj;split at hj
  ·rename_i id hid;obtain⟨b,hb,hg⟩:=hm.dom id g pl hj;obtain⟨b0,b',q1,q2,q3⟩:=h2 k id hid;rw[hb]at q1;cases q1;obtain⟨_,_,e3,_⟩:=zcE q2;exact⟨b',q3,by rw[e3];exact hg⟩
  ·cases hj
 ·simp only[zdx]at hj;split at hj
  ·exact hm.okP _ _ _ hj
  ·cases hj
end
end Go.Eng
namespace Go.Eng
open Go
variable[zb0]
section
variable{own:Nat->Prop}{σ:zP}{j j':Inj}{M:Mem}{w:World}{P:Program}{ρ:Nat->Option Nat}
theorem zrK:∀{ids:List Nat} {Ms M M':Mem} {ch:List Nat},ids.Nodup->back ρ ids Ms M=some (M',ch)->M'.length=M.length/\ids.length<=Ms.length/\(∀id,id∉ids->M'[id]?=M[id]?)/\(∀id∈ch,id∈ids) /\
  ∀(k id:Nat),ids[k]?=some id->∃b b0,Ms[k]?=some (some b)/\M[id]?=some (some b0)/\((b.ver=b0.ver/\M'[id]?=some (some b0))\/(b.ver≠b0.ver/\id∈ch/\∃b',zhj ρ b=some b'/\M'[id]?=some (some b')))
 |[],Ms,M,M',ch,_,h=>by
  simp only[back,ji,jG]at h;obtain⟨rfl,rfl⟩:=h;exact⟨rfl,by simp,fun _ _=>rfl,by simp,by simp⟩
 |id::ids,[],M,M',ch,_,h=>by simp[back]at h
 |id::ids,none::Ms,M,M',ch,_,h=>by simp[back]at h
 |id::ids,some b::Ms,M,M',ch,hn,h=>by
  obtain⟨hni,hn'⟩:=qH.1 hn;simp only[back]at h;split at h
  ·rename_i b0 hb0;split at h
   ·rename_i hv;obtain⟨h1,h1',h2,h2',h3⟩:=zrK hn' h;refine⟨h1,by simp;omega,fun x hx=>h2 x (fun h=>hx (jy _ h)),fun x hx=>jy _ (h2' x hx),fun k x hk=>?_⟩;cases k with
    |zero=>simp at hk;subst hk;exact⟨b,b0,rfl,hb0,.inl ⟨hv,by rw[h2 _ hni];exact hb0⟩⟩
    |succ k=>simp at hk;obtain⟨c,c0,q1,q2,q3⟩:=h3 k x hk;exact⟨c,c0,by simpa using q1,q2,q3⟩
   ·rename_i hv;split at h
    ·rename_i b' M1 ch1 hb' Cm;simp only[ji,jG]at h;obtain⟨rfl,rfl⟩:=h;obtain⟨h1,h1',h2,h2',h3⟩:=zrK hn' Cm;refine⟨by simp[h1],by simp;omega,fun x hx=>?_,fun x hx=>?_,fun k x hk=>?_⟩
     ·simp only[jB,not_or]at hx;rw[jJ (fun e=>hx.1 e.symm)];exact h2 x hx.2
     ·rcases jB.1 hx with rfl|hx
      ·simp
      ·exact jy _ (h2' x hx)
     ·cases k with
      |zero =>
       simp at hk;subst hk;refine⟨b,b0,rfl,hb0,.inr ⟨hv,by simp,b',hb',?_⟩⟩;have:=zC hb0;simp[h1,this]
      |succ k =>
       simp at hk;obtain⟨c,c0,q1,q2,q3⟩:=h3 k x hk;have hne:id≠x:=by rintro rfl;exact hni (kF hk)
       refine⟨c,c0,by simpa using q1,q2,?_⟩;rw[jJ hne];rcases q3 with q3 |⟨q3,q4,q5⟩
       ·exact .inl q3
       ·exact .inr ⟨q3,jy _ q4,q5⟩
    ·cases h
  ·cases h
theorem zqD:∀{Ms Ms':Mem},zgx ρ Ms=some Ms'->Ms'.length=Ms.length/\(∀(k:Nat) (b':Blk),Ms'[k]?=some (some b')->∃b,Ms[k]?=some (some b)/\zhj ρ b=some b') /\
  ∀(k:Nat) (b:Blk),Ms[k]?=some (some b)->∃b',Ms'[k]?=some (some b')/\zhj ρ b=some b'
 |[],Ms',h=>by simp only[zgx,ji]at h;subst h;exact⟨rfl,by simp,by simp⟩
 |none::Ms,Ms',h=>by simp[zgx]at h
 |some b::Ms,Ms',h=>by
  simp only[zgx]at h;split at h
  ·rename_i b' bs' hb hbs;cases h;obtain⟨h1,h2,h3⟩:=zqD hbs;refine⟨by simp[h1],fun k c hk=>?_,fun k c hk=>?_⟩
   ·cases k with
    |zero=>simp at hk;subst hk;exact⟨b,rfl,hb⟩
    |succ k=>simp at hk;obtain⟨c0,q1,q2⟩:=h2 k c hk;exact⟨c0,by simpa using q1,q2⟩
   ·cases k with
    |zero=>simp at hk;subst hk;exact⟨b',rfl,hb⟩
    |succ k=>simp at hk;obtain⟨c0,q1,q2⟩:=h3 k c hk;exact⟨c0,by simpa using q1,q2⟩
  ·cases h
def zeb(ids:List Nat)(m:Nat):Nat->Option Nat:=fun k=>match ids[k]? with
 |some id=>some id
 |none=>some (m+(k-ids.length))
def zhY(ids:List Nat)(m:Nat)(j j':Inj):Inj:=fun id g=>match zd3 ids id with
 |some k=>j' k g
 |none=>if id<m then j id g else j' (ids.length+(id-m)) g
theorem zwL{ids:List Nat}{m:Nat}{j j':Inj}(hn:ids.Nodup)(hlt:∀id∈ids,id<m):zi8 (zeb ids m) j' (zhY ids m j j'):=by
 intro k id g pl hk hj;simp only[zeb]at hk;split at hk
 ·rename_i id' hid;cases hk;simp[zhY,zg4 hn hid,hj]
 ·rename_i hid;cases hk;have hge:ids.length<=k:=by
   rcases kD k ids.length with h|h
   ·rw[jv h]at hid;cases hid
   ·exact h
  have hni:m+(k-ids.length)∉ids:=fun h=>by have:=hlt _ h;omega
  have e:ids.length+(m+(k-ids.length)-m)=k:=by omega
  simp only[zhY,zjj hni];rw[if_neg (by omega),e];exact hj
theorem zt1{ids:List Nat}{Ms Ms':Mem}{σ':zP}{w':World}{r r3:AV}{M3:Mem}{fp:FP}{v:Value}(hm:MR own σ j M w)(hag:zM σ w)(hn:ids.Nodup)(k8:∀b,w.heap.size<=b->own b)
  (hs:zck M (zd3 ids) ids=some Ms) (yA:zM σ' w') (hm':MR (zig ids j M w) σ' j' Ms' w') (hst:za2 (zig ids j M w) Ms.length σ (zdx ids j) Ms w σ' j' Ms' w') (hr:AVR σ' j' r v)
  (h:vY ids M r Ms'=some (r3,M3,fp)) :
  ∃jn,AVR σ' jn r3 v/\MR own σ' jn M3 w'/\za2 own M.length σ j M w σ' jn M3 w'/\(fp=.no->M3.length=M.length->(∀(id:Nat) (b:Blk),M[id]?=some (some b)->M3[id]?=some (some b))/\∀(id:Nat) (b:Blk) (q:Nat),M[id]?=some (some b)->j.atk id b.gen=some q->w'.heap[q]?=w.heap[q]?):=by
 obtain⟨t1,t2,t3⟩:=zfp hs;have hlt:∀id∈ids,id<M.length:=by
  intro id hid;obtain⟨k,hk⟩:=kd hid;obtain⟨b,_,hb,_⟩:=t2 k id hk;exact zC hb
 have C1:∀b,zig ids j M w b->own b:=by
  rintro b (⟨id,hid,b0,hb0,hL⟩|h)
  ·exact hm.CV hb0 hL
  ·exact k8 b h
 simp only[vY]at h;split at h
 ·rename_i M1 ch new r1 Cm Ba hr1;simp only[ji,jG]at h;obtain⟨rfl,rfl,rfl⟩:=h;have Cm:back (zeb ids M.length) ids Ms' M=some (M1,ch):=Cm;have Ba:zgx (zeb ids M.length) (Ms'.drop ids.length)=some new:=Ba;have hr1:znn (zeb ids M.length) r=some r1:=hr1;obtain⟨b1,b1',b2,b2',b3⟩:=zrK hn Cm;obtain⟨n1,n2,n3⟩:=zqD Ba;have Bm:=zwL (j:=j) (j':=j') (m:=M.length) hn hlt;generalize hjn:zhY ids M.length j j'=jn at Bm;have jin:∀k id g,ids[k]?=some id->jn id g=j' k g:=by
   intro k id g hk;rw[<-hjn];simp[zhY,zg4 hn hk]
  have jout:∀id g,id∉ids->id<M.length->jn id g=j id g:=by
   intro id g h1 h2;rw[<-hjn];simp[zhY,zjj h1,h2]
  have jnew:∀q g,jn (M.length+q) g=j' (ids.length+q) g:=by
   intro q g;rw[<-hjn];have hni:M.length+q∉ids:=fun h=>by have:=hlt _ h;omega
   have e:ids.length+(M.length+q-M.length)=ids.length+q:=by omega
   simp only[zhY,zjj hni];rw[if_neg (by omega),e]
  have jle:j.le jn:=by
   intro id g pl hj;by_cases hid:id∈ids
   ·obtain⟨k,hk⟩:=kd hid;rw[jin k id g hk];refine hst.jle k g pl (by rw[t1];exact zC hk) ?_;simp[zdx,hk,hj]
   ·rw[jout id g hid (hm.lt hj)];exact hj
  have BB:∀id b q,id∉ids->M[id]?=some (some b)->j.atk id b.gen=some q->¬zig ids j M w q:=by
   rintro id b q hid hb hL (⟨id',yW,b',hb',hL'⟩|h)
   ·have:=hm.vR id' id b' b q hb' hb hL' hL;subst this;exact hid yW
   ·exact absurd (hm.u7 hb hL) (by omega)
  have Ao:∀k id b,ids[k]?=some id->M[id]?=some (some b)->∀b2,Ms'[k]?=some (some b2)->b2.ver=b.ver->b2.gen=b.gen/\b2.fz=b.fz/\b2.rows.length=b.rows.length/\b2.esz=b.esz/\j' k b.gen=j id b.gen/\∀q,j.atk id b.gen=some q->w'.heap[q]?=w.heap[q]?:=by
   intro k id b hk hb b2' hb2 hv;obtain⟨c,c',q1,q2,q3⟩:=t2 k id hk;rw[hb]at q1;cases q1;obtain⟨e1,e2,e3,e4,e5,e6⟩:=zcE q2;obtain⟨d,hd,_,hd2⟩:=hst.vw k c' (by rw[t1];exact zC hk) q3;rw[hb2]at hd;cases hd;obtain⟨rfl,vn⟩:=hd2 (by rw[e5];exact hv);refine⟨e3,e4,e6,e2,?_,fun q hL=>vn q (by simpa [Inj.atk,zdx,hk,e3]using hL)⟩;obtain⟨pl,hpl,_⟩:=hm.yh id b hb;rw[hpl];exact hst.jle k b.gen pl (by rw[t1];exact zC hk) (by simp[zdx,hk,hpl])
  have hlen1:(M1++new).length=M.length+new.length:=by simp[b1]
  have hblk:∀(id:Nat) (b:Blk),(M1++new)[id]?=some (some b) ->
    (∃(k:Nat) (b0:Blk),ids[k]?=some id/\M[id]?=some (some b0)/\(∃b2,Ms'[k]?=some (some b2)/\((b2.ver=b0.ver/\b=b0)\/(b2.ver≠b0.ver/\id∈ch/\zhj (zeb ids M.length) b2=some b)))) \/
    (id∉ids/\M[id]?=some (some b))\/(∃q b2,id=M.length+q/\Ms'[ids.length+q]?=some (some b2)/\zhj (zeb ids M.length) b2=some b):=by
   intro id b hb;rw[qE]at hb;split at hb
   ·rename_i hidl;by_cases hid:id∈ids
    ·obtain⟨k,hk⟩:=kd hid;obtain⟨c,c0,q1,q2,q3⟩:=b3 k id hk;refine .inl ⟨k,c0,hk,q2,c,q1,?_⟩;rcases q3 with⟨q3,q4⟩ |⟨q3,q5,b',q6,q7⟩
     ·rw[hb]at q4;cases q4;exact .inl ⟨q3,rfl⟩
     ·rw[hb]at q7;cases q7;exact .inr ⟨q3,q5,q6⟩
    ·rw[b2 id hid]at hb;exact .inr (.inl ⟨hid,hb⟩)
   ·rename_i hidl;rw[b1]at hidl hb;obtain⟨c,q1,q2⟩:=n2 _ _ hb;rw[qn]at q1;exact .inr (.inr ⟨id-M.length,c,by omega,q1,q2⟩)
  have Dp:∀(id:Nat) (b:Blk) (L:Nat),(M1++new)[id]?=some (some b)->jn.atk id b.gen=some L ->
    (∃k b2,Ms'[k]?=some (some b2)/\j'.atk k b2.gen=some L/\zeb ids M.length k=some id)\/(id∉ids/\M[id]?=some (some b)/\j.atk id b.gen=some L):=by
   intro id b L hb hL;simp only[Inj.atk]at hL ⊢;rcases hblk id b hb with⟨k,b0,hk,hb0,b2,hb2,hc⟩ |⟨hid,hb0⟩ |⟨q,b2,rfl,hb2,AD⟩
   ·refine .inl ⟨k,b2,hb2,?_,by simp[zeb,hk]⟩;rw[jin k id _ hk]at hL;rcases hc with⟨hv,rfl⟩ |⟨_,_,AD⟩
    ·rw[(Ao k id b hk hb0 b2 hb2 hv).1];exact hL
    ·obtain⟨_,_,e3,_⟩:=zcE AD;rw[<-e3];exact hL
   ·exact .inr ⟨hid,hb0,by rw[<-jout id _ hid (zC hb0)];exact hL⟩
   ·obtain⟨_,_,e3,_⟩:=zcE AD;refine .inl ⟨ids.length+q,b2,hb2,by rw[<-jnew,<-e3];exact hL,?_⟩;simp only[zeb];rw[jK (by omega)];simp
  refine⟨jn,znm Bm hr1 hr,⟨fun id b hb=>?_,fun id id' b b' L hb hb' hL hL'=>?_,fun id g pl hj=>?_,fun id g pl hj=>by
   rw[<-hjn]at hj;simp only[zhY]at hj;split at hj
   ·exact hm'.okP _ _ _ hj
   ·split at hj
    ·exact hm.okP _ _ _ hj
    ·exact hm'.okP _ _ _ hj⟩,?_,?_⟩
  ·rcases hblk id b hb with⟨k,b0,hk,hb0,b2,hb2,hc⟩ |⟨hid,hb0⟩ |⟨q,b2,rfl,hb2,AD⟩
   ·rcases hc with⟨hv,rfl⟩ |⟨_,_,AD⟩
    ·obtain⟨s1,s2,s3,s3',s4,s5⟩:=Ao k id b hk hb0 b2 hb2 hv;obtain⟨pl,hpl,hbr,ho⟩:=hm.yh id b hb0;refine⟨pl,by rw[jin k id _ hk,s4];exact hpl,hbr.mono hst.sle jle (fun L e=>s5 L (Inj.yC hpl e)) (fun L e o _ h1 h2=>?_),ho⟩;subst e;obtain⟨pl2,hpl2,hbr2,_⟩:=hm'.yh k b2 hb2;rw[s1,s4,hpl]at hpl2;cases hpl2;have hbr2:BL σ' j' b2 L w':=hbr2;refine hbr2.A8 o h1 (fun hf=>?_);rw[s3,s3'];exact h2 (by rw[<-s2];exact hf)
    ·obtain⟨pl,hpl,hbr,ho⟩:=hm'.yh k b2 hb2;obtain⟨_,_,e3,_⟩:=zcE AD;exact⟨pl,by rw[jin k id _ hk,e3];exact hpl,zkp Bm AD hbr,fun L e=>C1 _ (ho L e)⟩
   ·obtain⟨pl,hpl,hbr,ho⟩:=hm.yh id b hb0;refine⟨pl,jle _ _ _ hpl,hbr.mono hst.sle jle (fun L e=>?_) (fun L e o hold h1 h2=>?_),ho⟩
    ·exact hst.frame _ (hm.u7 hb0 (Inj.yC hpl e)) (BB id b L hid hb0 (Inj.yC hpl e))
    ·subst e;cases hh:σ' L.blk o with
     |none=>rfl
     |some v =>
      rcases hst.BS _ _ _ hh with h|h
      ·rw[hold]at h;cases h
      ·exact absurd h (BB id b L.blk hid hb0 (Inj.v8 hpl))
   ·obtain⟨pl,hpl,hbr,ho⟩:=hm'.yh _ b2 hb2;obtain⟨_,_,e3,_⟩:=zcE AD;exact⟨pl,by rw[jnew,e3];exact hpl,zkp Bm AD hbr,fun L e=>C1 _ (ho L e)⟩
  ·rcases Dp id b L hb hL with⟨k,c,hc,hcL,hk⟩ |⟨hid,hb0,hL0⟩<;>rcases Dp id' b' L hb' hL' with⟨k',c',hc',hcL',hk'⟩ |⟨yW,hb0',hL0'⟩
   ·have:=hm'.vR k k' c c' L hc hc' hcL hcL';subst this;rw[hk]at hk';cases hk';rfl
   ·exact absurd (hm'.CV hc hcL) (BB id' b' L yW hb0' hL0')
   ·exact absurd (hm'.CV hc' hcL') (BB id b L hid hb0 hL0)
   ·exact hm.vR id id' b b' L hb0 hb0' hL0 hL0'
  ·rw[<-hjn]at hj;simp only[zhY]at hj;split at hj
   ·rename_i k hk;have hk:=zkA hk;obtain⟨b2',hb2,hg⟩:=hm'.dom k g pl hj;obtain⟨c,c0,q1,q2,q3⟩:=b3 k id hk;rw[hb2]at q1;cases q1;have hl:=zC q2;rcases q3 with⟨q3,q4⟩ |⟨q3,_,b',q6,q7⟩
    ·exact⟨c0,by rw[jw (by omega)];exact q4,by rw[<-(Ao k id c0 hk q2 _ hb2 q3).1];exact hg⟩
    ·obtain⟨_,_,e3,_⟩:=zcE q6;exact⟨b',by rw[jw (by omega)];exact q7,by rw[e3];exact hg⟩
   ·rename_i hk;have hni:=zwU hk;split at hj
    ·rename_i hl;obtain⟨b,hb,hg⟩:=hm.dom id g pl hj;exact⟨b,by rw[jw (by omega),b2 id hni];exact hb,hg⟩
    ·rename_i hl;obtain⟨b2',hb2,hg⟩:=hm'.dom _ g pl hj;obtain⟨b',hb',hrr⟩:=n3 (id-M.length) b2' (by rw[qn];exact hb2);obtain⟨_,_,e3,_⟩:=zcE hrr;exact⟨b',by rw[jX (by omega),b1];exact hb',by rw[e3];exact hg⟩
  ·refine⟨hst.sle,fun id g pl _ h=>jle id g pl h,hst.size,fun b hb ho=>hst.frame b hb (fun h=>ho (C1 b h)),fun b o v hv=>(hst.BS b o v hv).imp id (C1 b),fun id b hid hb=>?_,hst.side⟩;by_cases hin:id∈ids
   ·obtain⟨k,hk⟩:=kd hin;obtain⟨c,c0,q1,q2,q3⟩:=b3 k id hk;rw[hb]at q2;cases q2;rcases q3 with⟨q3,q4⟩ |⟨q3,_,b',q6,q7⟩
    ·exact⟨b,by rw[jw (by omega)];exact q4,jq _,fun _=>⟨rfl,(Ao k id b hk hb c q1 q3).2.2.2.2.2⟩⟩
    ·obtain⟨_,_,_,_,e5,_⟩:=zcE q6;obtain⟨d,d',r1,r2,r3⟩:=t2 k id hk;rw[hb]at r1;cases r1;obtain⟨_,_,_,_,e5',_⟩:=zcE r2;obtain⟨x,hx,hx1,_⟩:=hst.vw k d' (by rw[t1];exact zC hk) r3;rw[q1]at hx;cases hx;exact⟨b',by rw[jw (by omega)];exact q7,by rw[e5,<-e5'];exact hx1,fun h=>absurd (e5 ▸ h) q3⟩
   ·exact⟨b,by rw[jw (by omega),b2 id hin];exact hb,jq _,fun _=>⟨rfl,fun L hL=>hst.frame _ (hm.u7 hb hL) (BB id b L hin hb hL)⟩⟩
  ·intro hfp hlen;have hch:ch=[]:=by
    cases ch with
    |nil=>rfl
    |cons x xs=>simp at hfp
   subst hch;have hno:∀(k id:Nat),ids[k]?=some id->∃(b b0:Blk),Ms'[k]?=some (some b)/\M[id]?=some (some b0)/\b.ver=b0.ver/\M1[id]?=some (some b0):=by
    intro k id hk;obtain⟨c,c0,q1,q2,q3⟩:=b3 k id hk;rcases q3 with⟨q3,q4⟩ |⟨_,q4,_⟩
    ·exact⟨c,c0,q1,q2,q3,q4⟩
    ·cases q4
   refine⟨fun id b hb=>?_,fun id b L hb hL=>?_⟩
   ·rw[jw (by rw[b1];exact zC hb)];by_cases hin:id∈ids
    ·obtain⟨k,hk⟩:=kd hin;obtain⟨c,c0,q1,q2,q3,q4⟩:=hno k id hk;rw[hb]at q2;cases q2;exact q4
    ·rw[b2 id hin];exact hb
   ·by_cases hin:id∈ids
    ·obtain⟨k,hk⟩:=kd hin;obtain⟨c,c0,q1,q2,q3,q4⟩:=hno k id hk;rw[hb]at q2;cases q2;exact(Ao k id b hk hb c q1 q3).2.2.2.2.2 L hL
    ·exact hst.frame _ (hm.u7 hb hL) (BB id b L hin hb hL)
 ·cases h
end
end Go.Eng
namespace Go.Eng
open Go
variable[zb0]
section
variable{own:Nat->Prop}{σ:zP}{j j':Inj}{M:Mem}{w:World}{P:Program}{ρ:Nat->Option Nat}
theorem MR.BG{Az:Nat->Prop}(h:MR own σ j M w)(ho:∀b,b<w.heap.size->own b->Az b):MR Az σ j M w :=
 ⟨fun id b hb=>by
  obtain⟨pl,h1,h2,h3⟩:=h.yh id b hb;exact⟨pl,h1,h2,fun L e=>ho _ (h.u7 hb (Inj.yC h1 e)) (h3 L e)⟩,h.vR,h.dom,h.okP⟩
def zbs(ρ:Nat->Option Nat)(k:Nat):Prop:=∀id,id<k->ρ id=some id
theorem zwv{k:Nat}(hk:zbs ρ k){c:Cl}(h1:zr c=true)(h2:uX c<=k):uv ρ c=some c:=by
 cases c with
 |ptr id g i o=>simp only[uX]at h2;simp[uv,hk id (by omega)]
 |slice id g es off len cap=>simp only[uX]at h2;simp[uv,hk id (by omega)]
 |yld id f sh=>simp only[uX]at h2;simp[uv,hk id (by omega)]
 |fn f fi ca =>
  cases fi with
  |nil=>cases ca with
   |nil=>rfl
   |cons=>simp[zr]at h1
  |cons=>simp[zr]at h1
 |iface=>simp[zr]at h1
 |_=>rfl
theorem ziX{k:Nat}(hk:zbs ρ k):∀{cs:List Cl},cs.all (fun x=>zr x&&uX x<=k)=true->y7 ρ cs=some cs
 |[],_=>rfl
 |c::cs,h=>by
  simp only[uQ,jh,decide_eq_true_eq]at h;simp[y7,zwv hk h.1.1 h.1.2,ziX hk (by simpa using h.2)]
theorem zqF{k:Nat}(hk:zbs ρ k){c:Cl}(h:below k c=true):zeS ρ c=some c:=by
 cases c with
 |fn f fi ca =>
  simp only[below,jh]at h;simp[zeS,ziX hk h.1,ziX hk h.2]
 |iface t a cs=>simp only[below]at h;simp[zeS,ziX hk h]
 |ptr id g i o=>have h:=of_decide_eq_true (show decide (id+1<=k)=true from h);simp[zeS,uv,hk id (by omega)]
 |slice id g es off len cap=>have h:=of_decide_eq_true (show decide (id+1<=k)=true from h);simp[zeS,uv,hk id (by omega)]
 |yld id f sh=>have h:=of_decide_eq_true (show decide (id+1<=k)=true from h);simp[zeS,uv,hk id (by omega)]
 |_=>rfl
theorem zlT{k:Nat}(hk:zbs ρ k):∀{cs:List Cl},cs.all (below k)=true->zfe ρ cs=some cs
 |[],_=>rfl
 |c::cs,h=>by
  simp only[uQ,jh]at h;simp[zfe,zqF hk h.1,zlT hk h.2]
theorem zm7{k:Nat}(hk:zbs ρ k):∀{rs:List (List Cl)},rs.all (fun r=>r.all (below k))=true->zez ρ rs=some rs
 |[],_=>rfl
 |c::cs,h=>by
  simp only[uQ,jh]at h;simp[zez,zlT hk h.1,zm7 hk h.2]
theorem zqC{k:Nat}(hk:zbs ρ k){x:WV}(h:x.below k=true):zpM ρ x=some x:=by
 cases x with
 |c x=>simp[WV.below,WV.cells]at h;simp[zpM,zqF hk h]
 |a cs=>simp only[WV.below,WV.cells]at h;simp[zpM,zlT hk h]
theorem zpm{k:Nat}(hk:zbs ρ k):∀{xs:List WV},xs.all (WV.below k)=true->ziU ρ xs=some xs
 |[],_=>rfl
 |c::cs,h=>by
  simp only[uQ,jh]at h;simp[ziU,zqC hk h.1,zpm hk h.2]
theorem zqH{k:Nat}(hk:zbs ρ k){x:AV}(h:x.below k=true):znn ρ x=some x:=by
 cases x with
 |w x=>simp[znn,zqC hk (show x.below k=true from h)]
 |t xs=>simp[znn,zpm hk (show xs.all (WV.below k)=true from h)]
 |u=>rfl
theorem zqG{k:Nat}(hk:zbs ρ k){b:Blk}(h:b.below k=true):zhj ρ b=some b:=by
 unfold Blk.below at h;unfold zhj;cases hb:b.box with
 |false=>simp
 |true =>
  rw[hb]at h;simp[zm7 hk (show b.rows.all (fun r=>r.all (below k))=true from by simpa using h)];cases b;simp at hb;subst hb;rfl
def Inj.lt(j:Inj)(k:Nat):Prop:=∀id g pl,j id g=some pl->id<k
theorem zsV{k:Nat}(hk:zbs ρ k)(hj:j.lt k){c c':Cl}{v:Value}(h:uv ρ c=some c')(hv:VC σ j c v):c'=c:=by
 cases hv with
 |ptr _ id g i o L hL=>simp[uv,hk id (hj _ _ _ hL)]at h;exact h.symm
 |slice _ id g es off len cap pl a c hL=>simp[uv,hk id (hj _ _ _ hL)]at h;exact h.symm
 |yld _ id f sh l r hL=>simp[uv,hk id (hj _ _ _ hL)]at h;exact h.symm
 |fn _ f fi ca =>
  cases fi with
  |nil=>cases ca with
   |nil=>simp[uv]at h;exact h.symm
   |cons=>simp[uv]at h
  |cons=>simp[uv]at h
 |ye=>simp[uv]at h
 |yd=>simp[uv]at h
 |_=>simp[uv]at h;exact h.symm
theorem zii{k:Nat}(hk:zbs ρ k)(hj:j.lt k):∀{cs cs':List Cl} {vs:List Value},y7 ρ cs=some cs'->VCs σ j cs vs->cs'=cs
 |[],cs',vs,h,hv=>by simp[y7]at h;exact h
 |c::cs,cs',vs,h,hv=>by
  obtain⟨v,vs',rfl,hv,hs⟩:=hv.qM;simp only[y7]at h;split at h
  ·rename_i y ys h1 h2;cases h;rw[zsV hk hj h1 hv,zii hk hj h2 hs]
  ·cases h
theorem zyc{k:Nat}(hk:zbs ρ k)(hj:j.lt k){c c':Cl}{v:Value}(h:zeS ρ c=some c')(hv:VC σ j c v):c'=c:=by
 cases c with
 |fn f fi ca =>
  cases hv with
  |fn _ _ _ _ fi' ca' l1 l2 h1 h2 =>
   simp only[zeS]at h;split at h
   ·rename_i y ys q1 q2;cases h;rw[zii hk hj q1 (⟨l1,h1⟩:VCs σ j fi fi'.toList),zii hk hj q2 (⟨l2,h2⟩:VCs σ j ca ca'.toList)]
   ·cases h
 |iface t a cs =>
  simp only[zeS,jb]at h;obtain⟨ys,q1,rfl⟩:=h;cases hv with
  |ye _ _ c v hv=>rw[zii hk hj q1 (VCs.cons hv VCs.nil)]
  |yd _ _ _ vs l hv=>rw[zii hk hj q1 (⟨l,hv⟩:VCs σ j cs vs.toList)]
 |_=>exact zsV hk hj (by simpa [zeS]using h) hv
theorem zqE{k:Nat}(hk:zbs ρ k)(hj:j.lt k):∀{cs cs':List Cl} {vs:List Value},zfe ρ cs=some cs'->VCs σ j cs vs->cs'=cs
 |[],cs',vs,h,hv=>by simp[zfe]at h;exact h
 |c::cs,cs',vs,h,hv=>by
  obtain⟨v,vs',rfl,hv,hs⟩:=hv.qM;simp only[zfe]at h;split at h
  ·rename_i y ys h1 h2;cases h;rw[zyc hk hj h1 hv,zqE hk hj h2 hs]
  ·cases h
theorem BL.rowVCs{b:Blk}{L:Loc}(h:BL σ j b L w)(hb:b.box=true){i:Nat}{row:List Cl}(hi:b.rows[i]?=some row):∃vs,VCs σ j row vs:=by
 obtain⟨C,T,hC,hsz,qB⟩:=h.heap;refine⟨(List.range row.length).map (fun n=>C[L.off+i*b.esz+n]?.getD undef),by simp,fun n c v hc hv=>?_⟩;obtain⟨v',hv',hvc⟩:=qB i row n c hi hc;have hn:=zC hc;simp[hn]at hv;rw[hv']at hv;simp at hv;subst hv;simpa [hb]using hvc
theorem zgw{k:Nat}(hk:zbs ρ k)(hj:j.lt k):∀{rs rs':List (List Cl)},zez ρ rs=some rs'->(∀r∈rs,∃vs,VCs σ j r vs)->rs'=rs
 |[],rs',h,hv=>by simp[zez]at h;exact h
 |c::cs,cs',h,hv=>by
  simp only[zez]at h;split at h
  ·rename_i y ys h1 h2;cases h;obtain⟨vs,hvs⟩:=hv c (ju ..);rw[zqE hk hj h1 hvs,zgw hk hj h2 (fun r hr=>hv r (jy _ hr))]
  ·cases h
theorem zBo{k:Nat}(hk:zbs ρ k)(hj:j.lt k){b b':Blk}{pl:Pl}(h:zhj ρ b=some b')(hb:BR σ j b pl w):b'=b:=by
 unfold zhj at h;split at h
 ·rename_i u9;simp only[jb]at h;obtain⟨r,hr,rfl⟩:=h;cases pl with
  |empty=>have hb:b.rows=[]/\b.box=false:=hb;rw[hb.2]at u9;cases u9
  |rnd l r' f sh =>
   have hb:RB σ j b l r' f sh w:=hb;obtain⟨s,cells,pd,vs,h1,h2,h3,h4,h5⟩:=hb.st;rw[zgw (σ:=σ) hk hj hr fun r hr=>by
    rw[h1]at hr;rw[jz.1 hr];exact⟨.int .i64 s::vs,VCs.cons (.int _ _ _) h4⟩]
  |loc L =>
   have hb:BL σ j b L w:=hb;rw[zgw (σ:=σ) hk hj hr fun r hr=>by
    obtain⟨i,hi⟩:=kd hr;exact hb.rowVCs u9 hi]
 ·cases h;rfl
theorem zlR{k:Nat}{σ0:zP}{j0:Inj}{M0:Mem}{w0:World}{new:List Nat}{M':Mem}{r r':AV}{v:Value}(hm0:MR own σ0 j0 M0 w0)(hk:M0.length=k)(hm:MR own σ j M w)(hst:za2 own k σ0 j0 M0 w0 σ j M w)
  (hn:new.Nodup) (htk:new.take k=List.range k) (hr:znn (zd3 new) r=some r') (hM:zck M (zd3 new) new=some M') (hv:AVR σ j r v) :
  AVR σ (zdx new j) r' v/\MR own σ (zdx new j) M' w/\za2 own k σ0 j0 M0 w0 σ (zdx new j) M' w:=by
 have hlen:k<=new.length:=by
  have:=congrArg List.length htk;simp at this;omega
 have u0:∀id,id<k->new[id]?=some id:=by
  intro id hid;have:=congrArg (·[id]?) htk;simpa [kM,hid]using this
 have hkb:zbs (zd3 new) k:=fun id hid=>zg4 hn (u0 id hid)
 refine⟨znm (zkg new j) hr hv,(hm.sub hn hM).BG fun b hb ho=>?_,?_⟩
 ·rcases ho with⟨id,_,b0,hb0,hL⟩|ho
  ·exact hm.CV hb0 hL
  ·omega
 ·have hj0:j0.lt k:=fun id g pl h=>hk ▸ hm0.lt h
  refine⟨hst.sle,fun id g pl hid hj=>?_,hst.size,hst.frame,hst.BS,fun id b hid hb=>?_,hst.side⟩
  ·simp[zdx,u0 id hid,hst.jle _ _ _ hid hj]
  ·obtain⟨b1,hb1,hv1,he1⟩:=hst.vw id b hid hb;obtain⟨_,t2,_⟩:=zfp hM;obtain⟨c,c',q1,q2,q3⟩:=t2 id id (u0 id hid);rw[hb1]at q1;cases q1;obtain⟨_,_,_,_,e5,_⟩:=zcE q2;refine⟨c',q3,by rw[e5];exact hv1,fun h=>?_⟩;obtain⟨rfl,hh⟩:=he1 (by rw[<-e5];exact h);obtain⟨pl,hpl,hbr,_⟩:=hm0.yh id b1 hb;exact⟨zBo hkb hj0 q2 hbr,hh⟩
theorem nodup_range(n:Nat):(List.range n).Nodup:=List.nodup_range
theorem zve{k id:Nat}(h:id<k):zd3 (List.range k) id=some id:=zg4 (nodup_range k) (by simp[h])
theorem znL{M:Mem}{ρ:Nat->Option Nat}:∀{ids:List Nat} {Ms:Mem},(∀(n id:Nat),ids[n]?=some id->∃b,M[id]?=some (some b)/\zhj ρ b=some b/\Ms[n]?=some (some b))->Ms.length=ids.length->zck M ρ ids=some Ms
 |[],Ms,_,hl=>by cases Ms with
  |nil=>rfl
  |cons=>simp at hl
 |id::ids,Ms,h,hl=>by
  cases Ms with
  |nil=>simp at hl
  |cons x Ms =>
   obtain⟨b,q1,q2,q3⟩:=h 0 id rfl;simp at q3;subst q3;have:=znL (ids:=ids) (Ms:=Ms) (fun n i hn=>by simpa using h (n+1) i (by simpa using hn)) (by simpa using hl);simp[zck,q1,this,q2]
theorem zkC{k:Nat}{σ0:zP}{j0:Inj}{M0:Mem}{w0:World}{M':Mem}{r r':AV}{v:Value}(hm0:MR own σ0 j0 M0 w0)(hk:M0.length=k)(hm:MR own σ j M w)(hst:za2 own k σ0 j0 M0 w0 σ j M w)
  (ve:∀id,id<k->∃b,M0[id]?=some (some b))
  (hv:AVR σ j r v) (h:finish k r M=some (r',M')) :
  ∃j',AVR σ j' r' v/\MR own σ j' M' w/\za2 own k σ0 j0 M0 w0 σ j' M' w:=by
 unfold finish at h;split at h
 ·cases h;exact⟨j,hv,hm,hst⟩
 ·split at h
  ·rename_i hb;cases h;simp only[jh]at hb;have hkb:zbs (zd3 (List.range k)) k:=fun id hid=>zve hid
   refine⟨_,zlR hm0 hk hm hst (nodup_range k) (by simp) (zqH hkb hb.1) (znL (fun n id hn=>?_) ?_) hv⟩
   ·have hn':=zC hn;simp at hn';simp[hn']at hn;subst hn;obtain⟨b,hb0⟩:=ve n hn';obtain⟨b1,hb1,_⟩:=hst.vw n b hn' hb0;refine⟨b1,hb1,zqG hkb ?_,by simp[kM,hn',hb1]⟩;have:=hb.2;simp only[zH,jA]at this;exact this (some b1) (kF (i:=n) (by simp[kM,hn',hb1]))
   ·have:k<=M.length:=by
     rcases yD k with h0|h0
     ·omega
     ·obtain⟨b,hb0⟩:=ve (k-1) (by omega);obtain⟨b1,hb1,_⟩:=hst.vw (k-1) b (by omega) hb0;have:=zC hb1;omega
    simp;omega
  ·dsimp only at h;split at h
   ·rename_i hc;simp only[jh,beq_iff_eq]at hc;split at h
    ·rename_i r1 M1 h1 h2;cases h;exact⟨_,zlR hm0 hk hm hst (zgy hc.1) hc.2 h1 h2 hv⟩
    ·cases h
   ·cases h
theorem zu7{frz:Bool}{k:Nat}{σ0:zP}{j0:Inj}{M0:Mem}{w0:World}{M':Mem}{r r':AV}{v:Value}(hm0:MR own σ0 j0 M0 w0)(hk:M0.length=k)(hag:zM σ w)(hm:MR own σ j M w)(hst:za2 own k σ0 j0 M0 w0 σ j M w)
  (ve:∀id,id<k->∃b,M0[id]?=some (some b)) (hkM:k<=M.length)
  (hv:AVR σ j r v) (h:leave frz k r M=some (r',M')) :
  ∃σ' j',AVR σ' j' r' v/\zM σ' w/\MR own σ' j' M' w/\za2 own k σ0 j0 M0 w0 σ' j' M' w:=by
 unfold leave at h;split at h
 ·split at h
  ·rename_i r1 hr1;obtain⟨σ2,hle2,B3,hm2,yw,hin2⟩:=zhe r.sls hm hag;have hr2:AVR σ2 j r1 v:=zwX hm hle2 B3 (fun id hid b L i row n cl hb hL hi hn=>hin2 id hid b L i row n cl hb hL hi hn) hr1 hv;obtain⟨j3,q1,q2,q3⟩:=zkC hm0 hk hm2 (hst.trans (yw.le hkM)) ve hr2 h;exact⟨σ2,j3,q1,B3,q2,q3⟩
  ·cases h
 ·obtain⟨j2,q1,q2,q3⟩:=zkC hm0 hk hm hst ve hv h;exact⟨σ,j2,q1,hag,q2,q3⟩
end
end Go.Eng
namespace Go.Eng
open Go
variable[zb0]
def Ret(own:Nat->Prop)(σ:zP)(j:Inj)(M:Mem)(w:World)(res:AV)(M':Mem)(e:Ending)(w':World):Prop :=
 ∃v σ' j',e=.returned v/\AVR σ' j' res v/\zM σ' w'/\MR own σ' j' M' w'/\za2 own M.length σ j M w σ' j' M' w'
def Mem.full(M:Mem):Prop:=∀id,id<M.length->∃b,M[id]?=some (some b)
structure zhz(F:Fence):Prop where
 fn:∀f,F.fn f
 depth:F.depth=none
 alive:F.alive=false
def FnS(P:Program)(cf:za4):Prop :=
 ∀f args M res M',cf f args M=some (res,M')->Mem.full M ->
  (f<zb0.base->∃fn,P.funcs[f]?=some fn/\fn.body.isNone=false/\(fn.name == "runtime.NumGoroutine")=false /\
   ∀own σ j w (vs:Array Value),(∀b,w.heap.size<=b->own b)->zM σ w->MR own σ j M w->zac σ j args vs.toList ->
    Calls P f vs w (Ret own σ j M w res M')) /\
  (zb0.base<=f->∃id sh as,args=.c (.yld id f sh)::as /\
   ∀F n own σ j w l r (vs:Array Value),zhz F->(∀b,w.heap.size<=b->own b)->zM σ w->MR own σ j M w->j id 0=some (.rnd l r f sh)->zac σ j as vs.toList ->
    vs.size=r.params.size/\(∃s p,w.heap[l]?=some (.loop { r with state:=s,pending:=p })) /\
    RoundIn F n P l r.fn ((r.params.zip vs).foldl (fun tmps (t,a)=>tmps.setIfInBounds t a) r.tmps) r.assign r.body w (Ret own σ j M w res M'))
theorem Calls.y9{P:Program}{f:FuncId}{args:Array Value}{w:World}{R R':Ending->World->Prop}(h:Calls P f args w R)(hr:∀e w',R e w'->R' e w'):Calls P f args w R' :=
 fun cs=>let ⟨e,w',fr,r,s,x⟩:=h cs;⟨e,w',fr,hr _ _ r,s,x⟩
section
variable{own:Nat->Prop}{σ:zP}{j:Inj}{M:Mem}{w:World}{P:Program}{cf:za4}
theorem zr1{ρ:Nat->Option Nat}{ids:List Nat}{Ms:Mem}(h:zck M ρ ids=some Ms):Mem.full Ms:=by
 obtain⟨h1,h2,h3⟩:=zfp h;intro k hk;obtain⟨b,b',_,_,q⟩:=h2 k ids[k] (by rw[jv (by omega)]);exact⟨b',q⟩
theorem zpB{f:FuncId}{args:List WV}{r:AV}{M3:Mem}{fp:FP}(h:zcG cf f args M=some (r,M3,fp))(hag:zM σ w)(hm:MR own σ j M w)(k8:∀b,w.heap.size<=b->own b) :
  ∃ids as Ms r0 Ms',cf f as Ms=some (r0,Ms')/\Mem.full Ms/\ziU (zd3 ids) args=some as/\(∀b,w.heap.size<=b->zig ids j M w b)/\MR (zig ids j M w) σ (zdx ids j) Ms w /\
   (∀vs,zac σ j args vs->zac σ (zdx ids j) as vs) /\
   ∀e w',Ret (zig ids j M w) σ (zdx ids j) Ms w r0 Ms' e w'->Ret own σ j M w r M3 e w'/\(fp=.no->M3.length=M.length->∀(id:Nat) (b:Blk) (L:Nat),M[id]?=some (some b)->j.atk id b.gen=some L->w'.heap[L]?=w.heap[L]?):=by
 unfold zcG at h;dsimp only at h;split at h
 ·rename_i hnd;split at h
  ·rename_i as Ms has hMs;generalize hids:collect M zfj (args.flatMap WV.ids) []=ids at *;have hn:=zgy hnd;split at h
   ·cases h
   ·rename_i r0 Ms' hc;refine⟨ids,as,Ms,r0,Ms',hc,zr1 hMs,has,fun b hb=>.inr hb,hm.sub hn hMs,fun vs hvs=>zlS (zkg ids j) has hvs,?_⟩;rintro e w' ⟨v,σ',j',rfl,hr,yA,hm',hst⟩;obtain⟨jn,p1,p2,p3,p4⟩:=zt1 hm hag hn k8 hMs yA hm' hst hr h;exact⟨⟨v,σ',jn,rfl,p1,yA,p2,p3⟩,fun h1 h2=>(p4 h1 h2).2⟩
  ·cases h
 ·cases h
theorem zqA{ρ:Nat->Option Nat}{args as':List WV}{id:Nat}{f:FuncId}{sh:List (Nat×Bool×Nat)}(h:ziU ρ args=some (.c (.yld id f sh)::as')):∃id0 as,args=.c (.yld id0 f sh)::as/\ρ id0=some id/\ziU ρ as=some as':=by
 cases args with
 |nil=>simp[ziU]at h
 |cons x xs =>
  simp only[ziU]at h;split at h
  ·rename_i y ys h1 h2;cases h;cases x with
   |a cs=>simp only[zpM,jb]at h1;obtain⟨_,_,h1⟩:=h1;cases h1
   |c c =>
    simp only[zpM,jb]at h1;obtain⟨c',h1,e⟩:=h1;cases e;cases c with
    |yld id0 g sh0 =>
     simp only[zeS,uv,jb]at h1;obtain⟨i,hi,e⟩:=h1;cases e;exact⟨id0,xs,rfl,hi,h2⟩
    |fn g fi ca =>
     simp only[zeS]at h1;split at h1<;>cases h1
    |iface t a cs=>simp only[zeS,jb]at h1;obtain⟨_,_,h1⟩:=h1;cases h1
    |ptr=>simp only[zeS,uv,jb]at h1;obtain⟨_,_,h1⟩:=h1;cases h1
    |slice=>simp only[zeS,uv,jb]at h1;obtain⟨_,_,h1⟩:=h1;cases h1
    |_=>simp only[zeS,uv,ji]at h1;cases h1
  ·cases h
theorem zvz(hcf:FnS P cf){f:FuncId}{args:List WV}{vs:Array Value}{r:AV}{M3:Mem}{fp:FP}(hhd:zl2 f args=true)(h:zcG cf f args M=some (r,M3,fp))(hag:zM σ w)(hm:MR own σ j M w)
  (k8:∀b,w.heap.size<=b->own b) (hvs:zac σ j args vs.toList) :
  (∃fn,P.funcs[f]?=some fn/\fn.body.isNone=false/\(fn.name == "runtime.NumGoroutine")=false) /\
  Calls P f vs w (fun e w'=>Ret own σ j M w r M3 e w'/\(fp=.no->M3.length=M.length->∀(id:Nat) (b:Blk) (L:Nat),M[id]?=some (some b)->j.atk id b.gen=some L->w'.heap[L]?=w.heap[L]?)):=by
 obtain⟨ids,as,Ms,r0,Ms',hc,ve,Bm,Ba,hms,BO,Ds⟩:=zpB h hag hm k8;obtain⟨h1,h2⟩:=hcf f as Ms r0 Ms' hc ve;rcases kD f zb0.base with hlt|hge
 ·obtain⟨fn,hf,CQ,AR,uI⟩:=h1 hlt;exact⟨⟨fn,hf,CQ,AR⟩,Calls.y9 (uI (zig ids j M w) σ (zdx ids j) w vs Ba hag hms (BO _ hvs)) Ds⟩
 ·obtain⟨id,sh,as',rfl,_⟩:=h2 hge;obtain⟨id0,as0,rfl,_,_⟩:=zqA Bm;simp[zl2]at hhd
theorem RoundIn.y9{F:Fence}{n:Nat}{l:Nat}{f:FuncId}{tmps:Array Value}{assign body:Code}{R R':Ending->World->Prop}(h:RoundIn F n P l f tmps assign body w R)(hr:∀e w',R e w'->R' e w'):RoundIn F n P l f tmps assign body w R':=by
 obtain⟨hF,h⟩:=h;refine⟨hF,fun c cs jZ=>?_⟩;obtain⟨e,w',q,s⟩:=h c cs jZ;exact⟨e,w',hr _ _ q,s⟩
theorem zuj(hcf:FnS P cf){f:FuncId}{id:Nat}{sh:List (Nat×Bool×Nat)}{as:List WV}{AN:Value}{vs:Array Value}{r:AV}{M3:Mem}{fp:FP}(h:zcG cf f (.c (.yld id f sh)::as) M=some (r,M3,fp))(hag:zM σ w)(hm:MR own σ j M w)
  (k8:∀b,w.heap.size<=b->own b) (hf:VC σ j (.yld id f sh) AN) (hvs:zac σ j as vs.toList) :
  ∃l rc,AN=.func (.yield l) #[] #[]/\w.heap[l]?=some (.loop rc)/\vs.size=rc.params.size/\∀F n,zhz F->RoundIn F n P l rc.fn ((rc.params.zip vs).foldl (fun tmps (t,a)=>tmps.setIfInBounds t a) rc.tmps) rc.assign rc.body w
   (fun e w'=>Ret own σ j M w r M3 e w'/\(fp=.no->M3.length=M.length->∀(id:Nat) (b:Blk) (L:Nat),M[id]?=some (some b)->j.atk id b.gen=some L->w'.heap[L]?=w.heap[L]?)):=by
 cases hf with
 |yld _ _ _ _ l rr hj =>
  obtain⟨ids,as',Ms,r0,Ms',hc,ve,Bm,Ba,hms,BO,Ds⟩:=zpB h hag hm k8;obtain⟨_,h2⟩:=hcf f as' Ms r0 Ms' hc ve;obtain⟨id',sh',as2,rfl,Bl⟩:=h2 (zb0.le _ _ _ _ _ (hm.okP _ _ _ hj:zb0.ok f rr));obtain⟨id0,as0,e,hid,AD⟩:=zqA Bm;cases e;have vo:=BO (.func (.yield l) #[] #[]::vs.toList) (zac.cons (show WVR σ j (.c (.yld id f sh)) _ from .yld _ _ _ _ l rr hj) hvs);obtain⟨v0,vs0,e,hv0,hvs0⟩:=vo.qM;cases e;have hj':zdx ids j id' 0=some (.rnd l rr f sh):=zkg ids j _ _ _ _ hid hj;obtain⟨q1,⟨s,p,q2⟩,_⟩:=Bl Fence.wide 0 (zig ids j M w) σ (zdx ids j) w l rr vs ⟨fun _=>trivial,rfl,rfl⟩ Ba hag hms hj' hvs0;refine⟨l,_,rfl,q2,q1,fun F n hF=>?_⟩;exact RoundIn.y9 (Bl F n (zig ids j M w) σ (zdx ids j) w l rr vs hF Ba hag hms hj' hvs0).2.2 Ds
theorem AVR.plain{σ σ':zP}{j j':Inj}{x:AV}{v:Value}(hp:x.plain=true)(h:AVR σ j x v):AVR σ' j' x v:=by
 have hW:∀{y:WV} {u:Value},y.plain=true->WVR σ j y u->WVR σ' j' y u:=by
  intro y u hy hu;cases y with
  |c x=>simp[WV.plain,WV.cells]at hy;exact VC.plain hy hu
  |a cs =>
   obtain⟨arr,rfl,hs⟩:=hu;simp only[WV.plain,WV.cells,jA]at hy;exact⟨arr,rfl,hs.1,fun n c v hc hv=>(hs.2 n c v hc hv).plain (hy c (kF hc))⟩
 cases x with
 |w x=>exact hW hp h
 |t xs =>
  obtain⟨arr,rfl,hs⟩:=h;simp only[AV.plain,jA]at hp;exact⟨arr,rfl,hs.1,fun n c v hc hv=>hW (hp c (kF hc)) (hs.2 n c v hc hv)⟩
 |u=>exact h
theorem MR.Cg{w':World}(hm:MR own σ j M w)(h:∀(id:Nat) (b:Blk) (L:Nat),M[id]?=some (some b)->j.atk id b.gen=some L->w'.heap[L]?=w.heap[L]?):MR own σ j M w':=by
 refine⟨fun id b hb=>?_,hm.vR,hm.dom,hm.okP⟩;obtain⟨pl,h1,h2,h3⟩:=hm.yh id b hb;exact⟨pl,h1,h2.mono (zP.le_refl _) (Inj.le_refl _) (fun L e=>h id b L hb (Inj.yC h1 e)) (fun _ _ _ h _ _=>h),h3⟩
theorem zu3(ids:List Nat):∀{M:Mem} {k:Nat} {b:Blk},M[k]?=some (some b)->∃b',(zbg M ids)[k]?=some (some b')/\b'.gen=b.gen:=by
 induction ids with
 |nil=>intro M k b h;exact⟨b,h,rfl⟩
 |cons id ids ih =>
  intro M k b h;obtain⟨b1,hb1,_,_,_,e,_⟩:=zeu (id:=id) h;obtain⟨b2,hb2,e2⟩:=ih hb1;exact⟨b2,hb2,by rw[e2,e]⟩
def zmw(P:Program)(AN:Value)(vs:Array Value)(w:World)(R:Ending->World->Prop):Prop :=
 (∃f fi ca fn,AN=.func (.func f) fi ca/\P.funcs[f]?=some fn/\fn.body.isNone=false/\(fn.name == "runtime.NumGoroutine")=false/\Calls P f (fi++vs++ca) w R) \/
 (∃l rc,AN=.func (.yield l) #[] #[]/\w.heap[l]?=some (.loop rc)/\vs.size=rc.params.size/\∀F n,zhz F->RoundIn F n P l rc.fn ((rc.params.zip vs).foldl (fun tmps (t,a)=>tmps.setIfInBounds t a) rc.tmps) rc.assign rc.body w R)
theorem zmw.mono{AN:Value}{vs:Array Value}{R R':Ending->World->Prop}(h:zmw P AN vs w R)(hr:∀e w',R e w'->R' e w'):zmw P AN vs w R':=by
 rcases h with⟨f,fi,ca,fn,h1,h2,h3,h4,h5⟩ |⟨l,rc,h1,h2,h3,h4⟩
 ·exact .inl ⟨f,fi,ca,fn,h1,h2,h3,h4,Calls.y9 h5 hr⟩
 ·exact .inr ⟨l,rc,h1,h2,h3,fun F n hF=>RoundIn.y9 (h4 F n hF) hr⟩
theorem ups{cs:List Cl}:∀{us:List Value},VCs σ j cs us->zac σ j (cs.map .c) us:=by
 induction cs with
 |nil=>intro us h;have:=h.yl;subst this;exact zac.nil
 |cons c cs ih=>intro us h;obtain⟨u,us',rfl,hu,hs⟩:=h.qM;exact zac.cons (show WVR σ j (.c c) u from hu) (ih hs)
theorem znz(hcf:FnS P cf){fv:WV}{f:FuncId}{fi ca as:List WV}{y:Bool}{AN:Value}{vs:Array Value}{r:AV}{M3:Mem}{fp:FP}(hce:callee fv=some (f,fi,ca,y))(hhd:(y||zl2 f (fi++as++ca))=true)
  (h:zcG cf f (fi++as++ca) M=some (r,M3,fp)) (hag:zM σ w) (hm:MR own σ j M w)
  (k8:∀b,w.heap.size<=b->own b) (hf:WVR σ j fv AN) (hvs:zac σ j as vs.toList) :
  zmw P AN vs w (fun e w'=>Ret own σ j M w r M3 e w'/\(fp=.no->M3.length=M.length->∀(id:Nat) (b:Blk) (L:Nat),M[id]?=some (some b)->j.atk id b.gen=some L->w'.heap[L]?=w.heap[L]?)):=by
 unfold callee at hce;split at hce
 ·rename_i g gi ga;cases hce;have hf:VC σ j (.fn f gi ga) AN:=hf;cases hf with
  |fn _ _ _ _ fi' ca' l1 l2 h1 h2 =>
   have vo:zac σ j (gi.map .c++as++ga.map .c) (fi'++vs++ca').toList:=by
    simp only[Array.toList_append];exact((ups ⟨l1,h1⟩).append hvs).append (ups ⟨l2,h2⟩)
   obtain⟨⟨fn,q1,q2,q3⟩,uI⟩:=zvz hcf (by simpa using hhd) h hag hm k8 vo;exact .inl ⟨f,fi',ca',fn,rfl,q1,q2,q3,uI⟩
 ·rename_i id g sh;cases hce;rw[kN]at h;obtain⟨l,rc,q1,q2,q3,q4⟩:=zuj hcf h hag hm k8 hf hvs;exact .inr ⟨l,rc,q1,q2,q3,q4⟩
 ·cases hce
theorem zpA(hcf:FnS P cf){m:zbz}{fv:WV}{args:List WV}{r:AV}{M':Mem}{fp:FP}{AN:Value}{vs:Array Value}(h:zx cf m fv args M=some (r,M',fp))(hag:zM σ w)(hm:MR own σ j M w)
  (k8:∀b,w.heap.size<=b->own b) (hf:WVR σ j fv AN) (hvs:zac σ j args vs.toList) :
  zmw P AN vs w (Ret own σ j M w r M'):=by
 unfold zx at h;split at h
 ·rename_i f fi ca y hce;split at h
  ·split at h
   ·cases h
   ·rename_i as has;split at h
    ·rename_i hhd;dsimp only at h;obtain⟨σ1,Ce,CA,hm1,yp,hin1⟩:=zhe (args.flatMap WV.sls) hm hag;have has':zac σ1 j as vs.toList:=zl3 hm Ce CA (fun id hid b L i row n cl hb hL hi hn=>hin1 id hid b L i row n cl hb hL hi hn) has hvs;have hf1:=hf.mono Ce (Inj.le_refl _);split at h
     ·rename_i vG;have AQ:args.flatMap WV.sls=[]:=by simpa using vG
      rw[AQ]at hm1 yp;refine(znz hcf hce hhd h CA hm1 k8 hf1 has').mono ?_;rintro e w' ⟨⟨v,σ',j',rfl,hr,yA,hm',hst⟩,_⟩;exact⟨v,σ',j',rfl,hr,yA,hm',yp.trans hst⟩
     split at h
     ·cases h
     ·rename_i r1 M2 fp2 hc;refine(znz hcf hce hhd hc CA hm1 k8 hf1 has').mono ?_;split at h
      ·rename_i hpl;cases h;simp only[jh,beq_iff_eq]at hpl;obtain⟨⟨hno,hlen⟩,hplain⟩:=hpl;have hno:fp2=.no:=by cases fp2<;>first |rfl |cases hno
       rintro e w' ⟨⟨v,σ',j',rfl,hr,yA,hm',hst⟩,Ao⟩;have hs:=Ao hno (by rw[hlen,zgi]);have vn:∀(id:Nat) (b:Blk) (L:Nat),M[id]?=some (some b)->j.atk id b.gen=some L->w'.heap[L]?=w.heap[L]?:=by
        intro id b L hb hL;obtain⟨b',hb',e⟩:=zu3 (args.flatMap WV.sls) hb;exact hs id b' L hb' (by rw[e];exact hL)
       refine⟨v,σ,j,rfl,hr.plain hplain,⟨fun b o v hv=>yA.cells b o v (hst.sle _ _ _ (Ce _ _ _ hv)),hag.qw⟩,hm.Cg vn,?_⟩;exact⟨zP.le_refl _,fun _ _ _ _ h=>h,hst.size,hst.frame,fun _ _ _ h=>.inl h,fun id b hid hb=>⟨b,hb,jq _,fun _=>⟨rfl,fun L hL=>vn id b L hb hL⟩⟩,yp.side.trans hst.side⟩
      ·cases h;rintro e w' ⟨⟨v,σ',j',rfl,hr,yA,hm',hst⟩,_⟩;exact⟨v,σ',j',rfl,hr,yA,hm',yp.trans (by rw[zgi]at hst;exact hst)⟩
    ·cases h
  ·split at h
   ·rename_i hhd;exact(znz hcf hce hhd h hag hm k8 hf hvs).mono fun e w' h=>h.1
   ·cases h
 ·cases h
end
end Go.Eng
namespace Go.Eng
open Go
variable[zb0]
section
variable{M:Mem}{q:Nat}{b0:Blk}
theorem zhl{id:Nat}(h:id≠q):(M.set q (some b0))[id]?=M[id]?:=jJ (qK h)
theorem zhd(hq:M[q]?=some none){id:Nat}{b:Blk}(h:M[id]?=some (some b)):id≠q:=by
 rintro rfl;rw[hq]at h;cases h
theorem zei(hq:M[q]?=some none){id g:Nat}{b:Blk}(h:look M id g=some b):look (M.set q (some b0)) id g=some b:=by
 have:=zaz h;unfold look;rw[zhl (zhd hq this.1),this.1,this.2];simp
theorem zs7(hq:M[q]?=some none){c c':Cl}(h:zdR M c=some c'):zdR (M.set q (some b0)) c=some c':=by
 cases c with
 |slice id g es off len cap =>
  simp only[zdR]at h ⊢;split at h
  ·rename_i b hb;rw[zei hq hb];exact h
  ·cases h
 |_=>exact h
theorem zvk(hq:M[q]?=some none){c c':Cl}(h:zdR M c=some c'):q∉slC c:=by
 cases c with
 |slice id g es off len cap =>
  simp only[zdR]at h;split at h
  ·rename_i b hb;have:=zhd hq (zaz hb).1;simp[slC,qK this]
  ·cases h
 |_=>simp[slC]
theorem zmJ(hq:M[q]?=some none):∀{cs cs':List Cl},yK M cs=some cs'->yK (M.set q (some b0)) cs=some cs'/\q∉cs.flatMap slC
 |[],cs',h=>by simp only[yK]at h ⊢;exact⟨h,by simp⟩
 |c::cs,cs',h=>by
  simp only[yK]at h ⊢;split at h
  ·rename_i y ys h1 h2;obtain⟨e1,e2⟩:=zmJ hq h2;rw[zs7 hq h1,e1];exact⟨h,by simp only[jY,jt,not_or];exact⟨zvk hq h1,e2⟩⟩
  ·cases h
theorem zyU(hq:M[q]?=some none){x y:WV}(h:zn7 M x=some y):zn7 (M.set q (some b0)) x=some y/\q∉x.sls:=by
 cases x with
 |c x =>
  simp only[zn7,jb]at h ⊢;obtain⟨a,ha,rfl⟩:=h;exact⟨⟨a,zs7 hq ha,rfl⟩,by simpa [WV.sls,WV.cells]using zvk hq ha⟩
 |a cs =>
  simp only[zn7,jb]at h ⊢;obtain⟨a,ha,rfl⟩:=h;exact⟨⟨a,(zmJ hq ha).1,rfl⟩,(zmJ (b0:=b0) hq ha).2⟩
theorem znt(hq:M[q]?=some none):∀{cs cs':List WV},zla M cs=some cs'->zla (M.set q (some b0)) cs=some cs'/\q∉cs.flatMap WV.sls
 |[],cs',h=>by simp only[zla]at h ⊢;exact⟨h,by simp⟩
 |c::cs,cs',h=>by
  simp only[zla]at h ⊢;split at h
  ·rename_i y ys h1 h2;obtain⟨e1,e2⟩:=znt hq h2;obtain⟨e3,e4⟩:=zyU (b0:=b0) hq h1;rw[e3,e1];exact⟨h,by simp only[jY,jt,not_or];exact⟨e4,e2⟩⟩
  ·cases h
theorem ztW{id:Nat}(h:id≠q):zX (M.set q (some b0)) id=(zX M id).set q (some b0):=by
 unfold zX;rw[zhl h];split
 ·split
  ·rfl
  ·rw[uP _ _ h]
 ·rfl
theorem zkx:∀{ids:List Nat} {M:Mem},q∉ids->zbg (M.set q (some b0)) ids=(zbg M ids).set q (some b0)
 |[],M,_=>rfl
 |id::ids,M,h=>by
  simp only[jB,not_or]at h;show zbg (zX _ id) ids=(zbg (zX M id) ids).set q _;rw[ztW (qK h.1),zkx h.2]
theorem ztV{id:Nat}:(zX M id)[q]?=some none<->M[q]?=some none:=by
 unfold zX;split
 ·rename_i b hb;split
  ·exact Iff.rfl
  ·by_cases h:id=q
   ·subst h;have hl:=zC hb;rw[kg hl,hb];simp
   ·rw[jJ h]
 ·exact Iff.rfl
theorem zhW:∀{ids:List Nat} {M:Mem},(zbg M ids)[q]?=some none<->M[q]?=some none
 |[],M=>Iff.rfl
 |id::ids,M=>by
  show(zbg (zX M id) ids)[q]?=_<->_;rw[zhW,ztV]
end
structure Eff(M M':Mem)(fp:FP):Prop where
 len:M.length<=M'.length
 hole:∀q:Nat,M'[q]?=some none<->M[q]?=some none
 none:fp≠.bad->(∀l,fp≠.wr l)->∀id:Nat,id<M.length->M'[id]?=M[id]?
 wr:∀l,fp=.wr l->∀(id:Nat) (b:Blk),M[id]?=some (some b)->(∀k n,l.all (FP.Aa id k n)=true->∃b':Blk,M'[id]?=some (some b')/\b'.gen=b.gen /\
  ∀i:Nat,(b'.rows[i]?).bind (fun r=>cut r k n)=(b.rows[i]?).bind (fun r=>cut r k n))
theorem Eff.refl{M:Mem}{fp:FP}:Eff M M fp:=⟨jq _,fun _=>Iff.rfl,fun _ _ _ _=>rfl,fun _ _ _ b hb _ _ _=>⟨b,hb,rfl,fun _=>rfl⟩⟩
theorem Eff.load{M M':Mem}{fp fl:FP}{agg:Bool}{n:Nat}{p:Cl}{av:AV}(h:Eff M M' fp)(hl:zdZ M agg n p=some (av,M,fl))(ha:fl.apart fp=true):zdZ M' agg n p=some (av,M',fl):=by
 cases p with
 |uR row k =>
  simp only[zdZ]at hl ⊢;split at hl
  ·rename_i cs hc;simp only[jb,jG]at hl;obtain⟨x,hx,rfl,_,rfl⟩:=hl;simp[hx]
  ·cases hl
 |ptr id g i k =>
  simp only[zdZ]at hl;split at hl
  ·rename_i b hlk;obtain⟨hb,rfl⟩:=zaz hlk;split at hl
   ·rename_i row qB;split at hl
    ·rename_i cs hc;simp only[jb,jG]at hl;obtain⟨x,hx,rfl,_,rfl⟩:=hl;have key:∃b',M'[id]?=some (some b')/\b'.gen=b.gen/\(b'.rows[i]?).bind (fun r=>cut r k n)=some cs:=by
      cases fp with
      |no=>exact⟨b,by rw[h.none (by simp) (by simp) id (zC hb)];exact hb,rfl,by simp[qB,hc]⟩
      |bad=>simp[FP.apart]at ha
      |ld a b c=>exact⟨_,by rw[h.none (by simp) (by simp) id (zC hb)];exact hb,rfl,by simp[qB,hc]⟩
      |wr l =>
       obtain⟨b',h1,h2,h3⟩:=h.wr l rfl id b hb k n (by simpa [FP.apart]using ha);exact⟨b',h1,h2,by rw[h3 i];simp[qB,hc]⟩
     obtain⟨b',h1,h2,h3⟩:=key;cases hr:b'.rows[i]? with
     |none=>rw[hr]at h3;cases h3
     |some r =>
      rw[hr]at h3;simp only[ub]at h3;simp[zdZ,look,h1,h2,hr,h3,hx]
    ·cases hl
   ·cases hl
  ·cases hl
 |_=>cases hl
theorem Eff.CY{M M':Mem}{fp fl:FP}{agg:Bool}{n base:Nat}{p:Cl}{av:AV}(h:Eff M M' fp)(hl:zdZ M' agg n p=some (av,M',fl))(ha:fp.apart fl=true)(ho:fl.old base=true)(AF:base<=M.length) :
  zdZ M agg n p=some (av,M,fl):=by
 cases p with
 |uR row k =>
  simp only[zdZ]at hl ⊢;split at hl
  ·rename_i cs hc;simp only[jb,jG]at hl;obtain⟨x,hx,rfl,_,rfl⟩:=hl;simp[hx]
  ·cases hl
 |ptr id g i k =>
  simp only[zdZ]at hl;split at hl
  ·rename_i b' hlk;obtain⟨hb',rfl⟩:=zaz hlk;split at hl
   ·rename_i row qB;split at hl
    ·rename_i cs hc;simp only[jb,jG]at hl;obtain⟨x,hx,rfl,_,rfl⟩:=hl;have hid:id<M.length:=by simp only[FP.old,decide_eq_true_eq]at ho;omega
     obtain⟨b,hb⟩:∃b,M[id]?=some (some b):=by
      cases hM:M[id]? with
      |none=>rw[jv hid]at hM;cases hM
      |some ob =>
       cases ob with
       |some b=>exact⟨b,rfl⟩
       |none=>rw[(h.hole id).2 hM]at hb';cases hb'
     have same:M'[id]?=M[id]?->b'=b:=fun e=>by rw[hb',hb]at e;cases e;rfl
     have key:b.gen=b'.gen/\(b.rows[i]?).bind (fun r=>cut r k n)=some cs:=by
      cases fp with
      |no=>have:=same (h.none (by simp) (by simp) id hid);subst this;exact⟨rfl,by simp[qB,hc]⟩
      |bad=>simp[FP.apart]at ha
      |ld a b c=>have:=same (h.none (by simp) (by simp) id hid);subst this;exact⟨rfl,by simp[qB,hc]⟩
      |wr l =>
       obtain⟨b1,h1,h2,h3⟩:=h.wr l rfl id b hb k n (by simpa [FP.apart]using ha);rw[hb']at h1;cases h1;exact⟨h2.symm,by rw[<-h3 i];simp[qB,hc]⟩
     obtain⟨h2,h3⟩:=key;cases hr:b.rows[i]? with
     |none=>rw[hr]at h3;cases h3
     |some r =>
      rw[hr]at h3;simp only[ub]at h3;simp[zdZ,look,hb,h2,hr,h3,hx]
    ·cases hl
   ·cases hl
  ·cases hl
 |_=>cases hl
end Go.Eng
namespace Go.Eng
open Go
variable[zb0]
section
variable{M M':Mem}{q:Nat}{b0:Blk}
structure Hv(M:Mem)(run:Mem->Option (AV×Mem×FP)):Prop where
 eff:∀av M' fp,run M=some (av,M',fp)->Eff M M' fp
 fill:∀av M' fp (q:Nat) b0,run M=some (av,M',fp)->M[q]?=some none->run (M.set q (some b0))=some (av,M'.set q (some b0),fp)
theorem zl1{id:Nat}{b b':Blk}(hb:M[id]?=some (some b)){q:Nat}:(M.set id (some b'))[q]?=some none<->M[q]?=some none:=by
 by_cases h:id=q
 ·subst h;rw[kg (zC hb),hb];simp
 ·rw[jJ h]
theorem zw4{row Ay cs:List Cl}{k k' n:Nat}(h:AH row k cs=some Ay)(ha:k'+n<=k\/k+cs.length<=k'):cut Ay k' n=cut row k' n:=by
 obtain⟨h1,h2,h3⟩:=zng h;unfold cut;rw[h2];split
 ·rename_i hle
  congr 1
  apply uV;intro m;simp only[kM,qn];split
  ·rename_i hm;rcases kD (k'+m) Ay.length with hl|hl
   ·have e:=jv hl;rcases h3 _ _ e with⟨h4,h5,_⟩ |⟨_,h4⟩
    ·omega
    ·rw[e,h4]
   ·rw[jK hl,jK (by omega)]
  ·rfl
 ·rfl
theorem FP.vJ{l:List (Nat×Nat×Nat)}{id k n:Nat}(h:l.all (FP.Aa id k n)=true){id' k' n':Nat}(hm:(id',k',n')∈l):id≠id'\/(n'<whole/\(k+n<=k'\/k'+n'<=k)):=by
 have:=jA.1 h _ hm;simpa [FP.Aa]using this
theorem zhg{id g i k:Nat}{cs:List Cl}(h:storeAt M id g i k cs=some M'):Eff M M' (.wr [(id,k,cs.length)])/\(∀(q:Nat) b0,M[q]?=some none->storeAt (M.set q (some b0)) id g i k cs=some (M'.set q (some b0))):=by
 unfold storeAt at h;split at h
 ·rename_i b hlk;obtain⟨hb,rfl⟩:=zaz hlk;split at h
  ·cases h
  ·rename_i hfz;split at h
   ·rename_i row qB;split at h
    ·rename_i Ay hsp;cases h;refine⟨⟨by simp,fun q=>zl1 hb,fun _ h=>absurd rfl (h _),fun l hl id' b' hb' k' n' ha=>?_⟩,fun q b0 hq=>?_⟩
     ·cases hl;rcases FP.vJ ha (jz.2 rfl)with hne |⟨_,hne⟩
      ·exact⟨b',by rw[jJ (qK hne)];exact hb',rfl,fun _=>rfl⟩
      ·by_cases hid:id'=id
       ·subst hid;rw[hb]at hb';cases hb';refine⟨_,kg (zC hb),rfl,fun i'=>?_⟩;dsimp only;by_cases hi:i=i'
        ·subst hi;rw[kg (zC qB),qB];exact zw4 hsp (by omega)
        ·rw[jJ hi]
       ·exact⟨b',by rw[jJ (qK hid)];exact hb',rfl,fun _=>rfl⟩
     ·have hne:=zhd hq hb;simp only[storeAt,zei hq hlk,hfz,qB,hsp];simp[uP _ _ hne]
    ·cases h
   ·cases h
 ·cases h
theorem zpr(ids:List Nat):Eff M (zbg M ids) (.wr (ids.map fun id=>(id,0,whole))):=by
 refine⟨by rw[zgi];exact jq _,fun q=>zhW,fun _ h=>absurd rfl (h _),fun l hl id b hb k n ha=>?_⟩;cases hl;have hid:id∉ids:=by
  intro hid;rcases FP.vJ ha (kJ.2 ⟨id,hid,rfl⟩)with h |⟨h,_⟩
  ·exact h rfl
  ·exact absurd h (uo _)
 have:∀(ids:List Nat) (M:Mem),id∉ids->(zbg M ids)[id]?=M[id]?:=by
  intro ids;induction ids with
  |nil=>intro M _;rfl
  |cons x xs ih =>
   intro M h;simp only[jB,not_or]at h;show(zbg (zX M x) xs)[id]?=_;rw[ih _ h.2];unfold zX;split
   ·split
    ·rfl
    ·rw[jJ (qK h.1)]
   ·rfl
 exact⟨b,by rw[this ids M hid];exact hb,rfl,fun _=>rfl⟩
theorem Eff.trans{M1 M2:Mem}{l l':List (Nat×Nat×Nat)}(h:Eff M M1 (.wr l))(h':Eff M1 M2 (.wr l')):Eff M M2 (.wr (l++l')):=by
 refine⟨j7 h.len h'.len,fun q=>(h'.hole q).trans (h.hole q),fun _ h=>absurd rfl (h _),fun x hx id b hb k n ha=>?_⟩;cases hx;rw[List.all_append,jh]at ha;obtain⟨b1,h1,h2,h3⟩:=h.wr l rfl id b hb k n ha.1;obtain⟨b2,h1',h2',h3'⟩:=h'.wr l' rfl id b1 h1 k n ha.2;exact⟨b2,h1',by rw[h2',h2],fun i=>by rw[h3',h3]⟩
theorem Eff.DB{l l':List (Nat×Nat×Nat)}(h:Eff M M' (.wr l))(hs:∀x∈l,x∈l'):Eff M M' (.wr l') :=
 ⟨h.len,h.hole,fun _ h=>absurd rfl (h _),fun x hx id b hb k n ha=>by
   cases hx;exact h.wr l rfl id b hb k n (jA.2 fun y hy=>jA.1 ha y (hs y hy))⟩
theorem Eff.DG(h:Eff M M' .no)(l:List (Nat×Nat×Nat)):Eff M M' (.wr l) :=
 ⟨h.len,h.hole,fun _ h=>absurd rfl (h _),fun x hx id b hb k n ha=>⟨b,by rw[h.none (by simp) (by simp) id (zC hb)];exact hb,rfl,fun _=>rfl⟩⟩
theorem zzp{n:Nat}{p:Cl}{v:WV}:Hv M (fun M=>zhT M n p v):=by
 cases p with
 |ptr id g i k =>
  have Dc:∀{r},zhT M n (.ptr id g i k) v=some r->v.cells.length=n/\((zfJ M id g=true/\((storeAt M id g i k v.cells).map fun M'=>(AV.u,M',FP.wr [(id,k,n)]))=some r) \/
    (zfJ M id g=false/\∃cs,yK M v.cells=some cs/\cs.all zcl=true/\((storeAt (zbg M v.sls) id g i k cs).map fun M'=>(AV.u,M',FP.wr ((id,k,n)::v.sls.map fun x=>(x,0,whole))))=some r)):=by
   intro r h;simp only[zhT]at h;split at h
   ·rename_i hl;refine⟨hl,?_⟩;split at h
    ·rename_i hb;exact .inl ⟨hb,h⟩
    ·rename_i hb;split at h
     ·rename_i cs hcs;split at h
      ·rename_i hn;exact .inr ⟨by simpa using hb,cs,hcs,hn,h⟩
      ·cases h
     ·cases h
   ·cases h
  have DH:∀{q:Nat} {b0:Blk} {M1:Mem},M[q]?=some none->storeAt M id g i k v.cells=some M1->zfJ (M.set q (some b0)) id g=zfJ M id g:=by
   intro q b0 M1 hq h;unfold storeAt at h;split at h
   ·rename_i b hlk;simp[zfJ,zei hq hlk,hlk]
   ·cases h
  refine⟨fun av M' fp h=>?_,fun av M' fp q b0 h hq=>?_⟩
  ·obtain⟨hl,h |⟨_,cs,hcs,hn,h⟩⟩:=Dc h
   ·obtain⟨_,h⟩:=h;simp only[jb,jG]at h;obtain⟨M1,h1,rfl,rfl,rfl⟩:=h;have:=(zhg h1).1
    rwa [hl]at this
   ·simp only[jb,jG]at h;obtain⟨M1,h1,rfl,rfl,rfl⟩:=h;have e1:=(zhg h1).1;have hlen:cs.length=n:=by
     rw[<-hl];have:∀{a b:List Cl},yK M a=some b->b.length=a.length:=by
      intro a;induction a with
      |nil=>intro b h;simp[yK]at h;subst h;rfl
      |cons x xs ih =>
       intro b h;simp only[yK]at h;split at h
       ·rename_i y ys _ h2;cases h;simp[ih h2]
       ·cases h
     exact this hcs
    rw[hlen]at e1;exact((zpr v.sls).trans e1).DB fun x hx=>by
     rcases jt.1 hx with h|h
     ·exact jy _ h
     ·rw[jz.1 h];exact ju ..
  ·obtain⟨hl,h |⟨hbx,cs,hcs,hn,h⟩⟩:=Dc h
   ·obtain⟨hbx,h⟩:=h;simp only[jb,jG]at h;obtain⟨M1,h1,rfl,rfl,rfl⟩:=h;simp only[zhT,hl,if_true,DH hq h1,hbx,(zhg h1).2 q b0 hq];rfl
   ·simp only[jb,jG]at h;obtain⟨M1,h1,rfl,rfl,rfl⟩:=h;obtain⟨f1,f2⟩:=zmJ (b0:=b0) hq hcs;have hq':(zbg M v.sls)[q]?=some none:=zhW.2 hq;have h2:=(zhg h1).2 q b0 hq';rw[<-zkx (show q∉v.sls from f2)]at h2;have hbx':zfJ (M.set q (some b0)) id g=false:=by
     have:∃b,(zbg M v.sls)[id]?=some (some b):=by
      unfold storeAt at h1;split at h1
      ·rename_i b hlk;exact⟨b,(zaz hlk).1⟩
      ·cases h1
     obtain⟨b,hb⟩:=this;have hid:id≠q:=zhd hq' hb;unfold zfJ look at hbx ⊢;rw[zhl hid];exact hbx
    simp only[zhT,hl,if_true,hbx',f1,hn,h2];rfl
 |_=>exact⟨fun av M' fp h=>(by cases h),fun av M' fp q b0 h _=>(by cases h)⟩
theorem zgE(hq:M[q]?=some none){esz:Nat}{c:Cl}{ys:List (List Cl)}(h:zeF M esz c=some ys):zeF (M.set q (some b0)) esz c=some ys:=by
 cases c with
 |slice id g e off len cap =>
  simp only[zeF]at h ⊢;split at h
  ·rename_i b hb;rw[zei hq hb];exact h
  ·cases h
 |_=>exact h
theorem zvI{b:Blk}{q:Nat}:(M++[some b])[q]?=some none<->M[q]?=some none:=by
 rw[qE];split
 ·exact Iff.rfl
 ·rename_i h;rw[jK (by omega:M.length<=q)];cases hk:q-M.length with
  |zero=>simp
  |succ n=>simp
theorem zpI{b:Blk}{q:Nat}(hq:M[q]?=some none):(M.set q (some b0))++[some b]=(M++[some b]).set q (some b0):=by
 rw[k9 _ _ (zC hq)]
theorem zy4{esz bytes:Nat}{s x:Cl}:Hv M (fun M=>zcB M esz bytes s x):=by
 have key:∀{r},zcB M esz bytes s x=some r->∃ys,zeF M esz x=some ys /\
   ((∃v,r=(v,M,.no)/\∀M1:Mem,M1.length=M.length->zeF M1 esz x=some ys->zcB M1 esz bytes s x=some (v,M1,.no)) \/
    (∃v id b,r=(v,M,.wr [(id,0,whole)])/\M[id]?=some (some b)/\∀M1:Mem,M1.length=M.length->zeF M1 esz x=some ys->M1[id]?=some (some b)->zcB M1 esz bytes s x=some (v,M1,.wr [(id,0,whole)])) \/
    (∃v,r=(v,M++[some { box:=false,esz,rows:=ys,gen:=ys.length,fz:=false,ver:=ys.length }],.no)/\∀M1:Mem,M1.length=M.length->zeF M1 esz x=some ys->zcB M1 esz bytes s x=some (v,M1++[some { box:=false,esz,rows:=ys,gen:=ys.length,fz:=false,ver:=ys.length }],.no)) \/
    (∃v id b b',r=(v,M.set id (some b'),.wr [(id,0,whole)])/\M[id]?=some (some b)/\∀M1:Mem,M1.length=M.length->zeF M1 esz x=some ys->M1[id]?=some (some b)->zcB M1 esz bytes s x=some (v,M1.set id (some b'),.wr [(id,0,whole)]))):=by
  intro r h;unfold zcB at h;split at h
  ·cases h
  ·rename_i ys hys;refine⟨ys,hys,?_⟩;dsimp only at h;split at h
   ·split at h
    ·rename_i hc;cases h;refine .inl ⟨_,rfl,fun M1 hl h1=>?_⟩;simp only[zcB,h1];rw[if_pos hc]
    ·rename_i hne;split at h
     ·rename_i hc;cases h;refine .inr (.inr (.inl ⟨_,rfl,fun M1 hl h1=>?_⟩));simp only[zcB,h1];rw[if_neg hne,if_pos hc,hl]
     ·cases h
   ·split at h
    ·rename_i hc;cases h;refine .inl ⟨_,rfl,fun M1 hl h1=>?_⟩;simp only[zcB,h1];rw[if_pos hc]
    ·cases h
   ·rename_i id g esz' off len cap;split at h
    ·rename_i b hlk;obtain⟨hb,rfl⟩:=zaz hlk;have hlk1:∀M1:Mem,M1[id]?=some (some b)->look M1 id b.gen=some b:=fun M1 h2=>by unfold look;rw[h2];simp
     split at h
     ·rename_i hc;split at h
      ·rename_i vG;cases h;refine .inr (.inl ⟨_,_,b,rfl,hb,fun M1 hl h1 h2=>?_⟩);simp only[zcB,h1,hlk1 M1 h2];rw[if_pos hc,if_pos vG]
      ·rename_i vG;cases h;refine .inr (.inr (.inr ⟨_,_,b,_,rfl,hb,fun M1 hl h1 h2=>?_⟩));simp only[zcB,h1,hlk1 M1 h2];rw[if_pos hc,if_neg vG]
     ·cases h
    ·cases h
   ·cases h
 refine⟨fun av M' fp h=>?_,fun av M' fp q b0 h hq=>?_⟩
 ·obtain⟨ys,hys,⟨v,hr,_⟩ |⟨v,id,b,hr,_,_⟩ |⟨v,hr,_⟩ |⟨v,id,b,b',hr,hb,_⟩⟩:=key h
  ·simp only[jG]at hr;obtain⟨rfl,rfl,rfl⟩:=hr;exact Eff.refl
  ·simp only[jG]at hr;obtain⟨rfl,rfl,rfl⟩:=hr;exact Eff.refl
  ·simp only[jG]at hr;obtain⟨rfl,rfl,rfl⟩:=hr;exact⟨by simp,fun q=>zvI,fun _ _ id hid=>by rw[jw hid],fun l hl=>by cases hl⟩
  ·simp only[jG]at hr;obtain⟨rfl,rfl,rfl⟩:=hr;refine⟨by simp,fun q=>zl1 hb,fun _ h=>absurd rfl (h _),fun l hl id' b' hb' k n ha=>?_⟩;cases hl;rcases FP.vJ ha (jz.2 rfl)with hne |⟨hne,_⟩
   ·exact⟨b',by rw[jJ (qK hne)];exact hb',rfl,fun _=>rfl⟩
   ·exact absurd hne (uo _)
 ·obtain⟨ys,hys,⟨v,hr,qY⟩ |⟨v,id,b,hr,hb,qY⟩ |⟨v,hr,qY⟩ |⟨v,id,b,b',hr,hb,qY⟩⟩:=key h
  ·simp only[jG]at hr;obtain⟨rfl,rfl,rfl⟩:=hr;exact qY _ (by simp) (zgE hq hys)
  ·simp only[jG]at hr;obtain⟨rfl,rfl,rfl⟩:=hr;exact qY _ (by simp) (zgE hq hys) (by rw[zhl (zhd hq hb)];exact hb)
  ·simp only[jG]at hr;obtain⟨rfl,rfl,rfl⟩:=hr;have:=qY (M.set q (some b0)) (by simp) (zgE hq hys);rw[zpI hq]at this;exact this
  ·simp only[jG]at hr;obtain⟨rfl,rfl,rfl⟩:=hr;have hne:=zhd hq hb;have:=qY (M.set q (some b0)) (by simp) (zgE hq hys) (by rw[zhl hne];exact hb);rw[uP _ _ hne.symm]at this;exact this
theorem zAz{zero:List Cl}{x:Cl}:Hv M (fun M=>zgI M zero x):=by
 cases x with
 |jd =>
  exact⟨fun av M' fp h=>(by simp only[zgI,ji,jG]at h;obtain⟨_,rfl,rfl⟩:=h;exact Eff.refl),
   fun av M' fp q b0 h hq=>(by simp only[zgI,ji,jG]at h ⊢;obtain⟨rfl,rfl,rfl⟩:=h;simp)⟩
 |slice id g e off len cap =>
  refine⟨fun av M' fp h=>?_,fun av M' fp q b0 h hq=>?_⟩
  ·simp only[zgI]at h;split at h
   ·cases h;exact Eff.refl
   ·split at h
    ·rename_i b hlk;obtain⟨hb,rfl⟩:=zaz hlk;split at h
     ·cases h;refine⟨by simp,fun q=>zl1 hb,fun _ h=>absurd rfl (h _),fun l hl id' b' hb' k n ha=>?_⟩;cases hl;rcases FP.vJ ha (jz.2 rfl)with hne |⟨hne,_⟩
      ·exact⟨b',by rw[jJ (qK hne)];exact hb',rfl,fun _=>rfl⟩
      ·exact absurd hne (uo _)
     ·cases h
    ·cases h
  ·simp only[zgI]at h ⊢;split at h
   ·rename_i h0;cases h;rw[if_pos h0]
   ·rename_i h0;rw[if_neg h0];split at h
    ·rename_i b hlk;obtain⟨hb,rfl⟩:=zaz hlk;split at h
     ·rename_i hc;cases h;rw[zei hq hlk];simp only;rw[if_pos hc,uP _ _ (zhd hq hb).symm]
     ·cases h
    ·cases h
 |_=>exact⟨fun av M' fp h=>(by cases h),fun av M' fp q b0 h _=>(by cases h)⟩
theorem zkK:∀(f:Nat) (todo seen:List Nat),∀x∈seen,x∈collect M f todo seen
 |0,todo,seen,x,h=>h
 |f+1,[],seen,x,h=>h
 |f+1,id::todo,seen,x,h=>by
  simp only[collect];split
  ·exact zkK f _ _ x h
  ·exact zkK f _ _ x (j6 _ h)
theorem zkL:∀(f:Nat) (todo seen:List Nat),q∉collect M f todo seen->collect (M.set q (some b0)) f todo seen=collect M f todo seen
 |0,todo,seen,h=>rfl
 |f+1,[],seen,h=>rfl
 |f+1,id::todo,seen,h=>by
  simp only[collect]at h ⊢;split
  ·rename_i hc;rw[if_pos hc]at h;exact zkL f _ _ h
  ·rename_i hc;rw[if_neg hc]at h;have hid:id≠q:=by
    rintro rfl;exact h (zkK f _ _ _ (kL _ (jz.2 rfl)))
   have e:zpw (M.set q (some b0)) id=zpw M id:=by unfold zpw;rw[zhl hid]
   rw[e];exact zkL f _ _ h
theorem zm5{ρ:Nat->Option Nat}:∀{ids:List Nat},q∉ids->zck (M.set q (some b0)) ρ ids=zck M ρ ids
 |[],_=>rfl
 |id::ids,h=>by
  simp only[jB,not_or]at h;simp only[zck];rw[zhl (qK h.1),zm5 h.2]
theorem zo6{ρ:Nat->Option Nat}:∀{ids:List Nat} {Ms:Mem} {r:Mem×List Nat},q∉ids->back ρ ids Ms M=some r->back ρ ids Ms (M.set q (some b0))=some (r.1.set q (some b0),r.2)
 |[],Ms,r,_,h=>by simp only[back,ji]at h ⊢;subst h;rfl
 |id::ids,[],r,_,h=>by simp[back]at h
 |id::ids,none::Ms,r,_,h=>by simp[back]at h
 |id::ids,some b::Ms,r,hn,h=>by
  simp only[jB,not_or]at hn;simp only[back]at h ⊢;rw[zhl (qK hn.1)];split at h
  ·rename_i b1 hb1;split at h
   ·rename_i hv;simp only[if_pos hv];exact zo6 hn.2 h
   ·rename_i hv;simp only[if_neg hv];split at h
    ·rename_i b' M1 ch h1 h2;cases h;have:=zo6 hn.2 h2;simp only[h1,this];rw[uP _ _ hn.1]
    ·cases h
  ·cases h
theorem zom{ρ:Nat->Option Nat}:∀{ids:List Nat} {Ms:Mem} {r:Mem×List Nat},back ρ ids Ms M=some r->r.1.length=M.length/\(∀id,id∉r.2->r.1[id]?=M[id]?)/\∀q:Nat,r.1[q]?=some none<->M[q]?=some none
 |[],Ms,r,h=>by simp only[back,ji]at h;subst h;exact⟨rfl,fun _ _=>rfl,fun _=>Iff.rfl⟩
 |id::ids,[],r,h=>by simp[back]at h
 |id::ids,none::Ms,r,h=>by simp[back]at h
 |id::ids,some b::Ms,r,h=>by
  simp only[back]at h;split at h
  ·rename_i b1 hb1;split at h
   ·exact zom h
   ·split at h
    ·rename_i b' M1 ch h1 h2;cases h;obtain⟨e1,e2,e3⟩:=zom h2;refine⟨by simpa using e1,fun x hx=>?_,fun q=>?_⟩
     ·simp only[jB,not_or]at hx;rw[jJ (qK hx.1)];exact e2 x hx.2
     ·have:∃c,M1[id]?=some (some c):=by
       cases hc:M1[id]? with
       |none=>rw[yO,e1]at hc;have:=zC hb1;omega
       |some oc =>
        cases oc with
        |some c=>exact⟨c,rfl⟩
        |none=>rw[(e3 id).1 hc]at hb1;cases hb1
      obtain⟨c,hc⟩:=this;exact(zl1 hc).trans (e3 q)
    ·cases h
  ·cases h
theorem zs1{ids:List Nat}{Ms:Mem}{r:AV}:vY ids M r Ms=(match back (zeb ids M.length) ids Ms M,zgx (zeb ids M.length) (Ms.drop ids.length),znn (zeb ids M.length) r with
 |some (M',ch),some new,some r=>some (r,M'++new,if ch.isEmpty then .no else .wr (ch.map fun id=>(id,0,whole)))
 |_,_,_=>none):=rfl
theorem zyL{ids:List Nat}{Ms:Mem}{r av:AV}{fp:FP}(h:vY ids M r Ms=some (av,M',fp)):fp=.no\/∃l,fp=.wr l:=by
 rw[zs1]at h;split at h
 ·cases h;split
  ·exact .inl rfl
  ·exact .inr ⟨_,rfl⟩
 ·cases h
theorem zy1{cf:za4}{f:FuncId}{args:List WV}{av:AV}{fp:FP}(h:zcG cf f args M=some (av,M',fp)):fp=.no\/∃l,fp=.wr l:=by
 unfold zcG at h;dsimp only at h;split at h
 ·split at h
  ·split at h
   ·cases h
   ·exact zyL h
  ·cases h
 ·cases h
theorem zs0{ids:List Nat}{Ms:Mem}{r:AV}:(∀av M' fp,vY ids M r Ms=some (av,M',fp)->Eff M M' fp) /\
  (∀av M' fp (q:Nat) b0,vY ids M r Ms=some (av,M',fp)->M[q]?=some none->q∉ids->vY ids (M.set q (some b0)) r Ms=some (av,M'.set q (some b0),fp)):=by
 have key:∀av M' fp,vY ids M r Ms=some (av,M',fp)->∃M1 ch new,back (zeb ids M.length) ids Ms M=some (M1,ch)/\zgx (zeb ids M.length) (Ms.drop ids.length)=some new/\znn (zeb ids M.length) r=some av /\
   M'=M1++new/\fp=if ch.isEmpty then .no else .wr (ch.map fun id=>(id,0,whole)):=by
  intro av M' fp h;simp only[vY]at h;split at h
  ·rename_i M1 ch new r1 h1 h2 h3;simp only[ji,jG]at h;obtain⟨rfl,rfl,rfl⟩:=h;exact⟨M1,ch,new,h1,h2,h3,rfl,rfl⟩
  ·cases h
 refine⟨fun av M' fp h=>?_,fun av M' fp q b0 h hq hid=>?_⟩
 ·obtain⟨M1,ch,new,h1,h2,h3,rfl,rfl⟩:=key _ _ _ h;obtain⟨e1,e2,e3⟩:=zom h1;dsimp only at e1 e2 e3;have Ba:∀k:Nat,new[k]?≠some none:=by
   have:∀{ρ:Nat->Option Nat} {Ms Ms':Mem},zgx ρ Ms=some Ms'->∀k:Nat,Ms'[k]?≠some none:=by
    intro ρ Ms;induction Ms with
    |nil=>intro Ms' h k;simp only[zgx,ji]at h;subst h;simp
    |cons x xs ih =>
     intro Ms' h k;cases x with
     |none=>simp[zgx]at h
     |some b =>
      simp only[zgx]at h;split at h
      ·rename_i b' bs' _ h2;cases h;cases k with
       |zero=>simp
       |succ k=>simpa using ih h2 k
      ·cases h
   exact this h2
  refine⟨by simp[e1],fun q=>?_,fun hb hw id hid=>?_,fun l hl id b hb k n ha=>?_⟩
  ·rw[qE];split
   ·exact e3 q
   ·rename_i hq;rw[jK (by omega:M.length<=q)];simp[Ba]
  ·rw[jw (by omega)];refine e2 id ?_;cases ch with
   |nil=>simp
   |cons x xs=>exact absurd rfl (hw _)
  ·rw[jw (by have:=zC hb;omega)];have hne:id∉ch:=by
    intro hm;split at hl
    ·cases hl
    ·cases hl;rcases FP.vJ ha (kJ.2 ⟨id,hm,rfl⟩)with h |⟨h,_⟩
     ·exact h rfl
     ·exact absurd h (uo _)
   exact⟨b,by rw[e2 id hne];exact hb,rfl,fun _=>rfl⟩
 ·obtain⟨M1,ch,new,h1,h2,h3,rfl,rfl⟩:=key _ _ _ h;have h1':=zo6 (b0:=b0) hid h1;have e1:=(zom h1).1;have hl:(M.set q (some b0)).length=M.length:=by simp
  rw[zs1,hl,h1',h2,h3];simp only;rw[k9 _ _ (by have:=zC hq;dsimp only at e1;omega)]
theorem zie{cf:za4}{f:FuncId}{args:List WV}:Hv M (fun M=>zcG cf f args M):=by
 have key:∀{r},zcG cf f args M=some r->∃ids Ms r0 Ms0,collect M zfj (args.flatMap WV.ids) []=ids/\zck M (zd3 ids) ids=some Ms/\vY ids M r0 Ms0=some r /\
   ∀M1:Mem,collect M1 zfj (args.flatMap WV.ids) []=ids->zck M1 (zd3 ids) ids=some Ms->zcG cf f args M1=vY ids M1 r0 Ms0:=by
  intro r h;unfold zcG at h;dsimp only at h;split at h
  ·rename_i hnd;split at h
   ·rename_i as Ms has hMs;split at h
    ·cases h
    ·rename_i r1 Ms1 hc;refine⟨_,Ms,r1,Ms1,rfl,hMs,h,fun M1 h1 h2=>?_⟩;simp only[zcG,h1,hnd,has,h2,hc,if_true]
   ·cases h
  ·cases h
 refine⟨fun av M' fp h=>?_,fun av M' fp q b0 h hq=>?_⟩
 ·obtain⟨ids,Ms,r0,Ms0,h1,h2,h3,h4⟩:=key h;exact zs0.1 _ _ _ h3
 ·obtain⟨ids,Ms,r0,Ms0,h1,h2,h3,h4⟩:=key h;have hid:q∉ids:=by
   intro hm;obtain⟨k,hk⟩:=kd hm;obtain⟨b,_,hb,_⟩:=(zfp h2).2.1 k q hk;rw[hq]at hb;cases hb
  have h5:=h4 (M.set q (some b0)) (by rw[zkL _ _ _ (by rw[h1];exact hid)];exact h1) (by rw[zm5 hid];exact h2);show zcG cf f args (M.set q (some b0))=_;rw[h5];exact zs0.2 _ _ _ q b0 h3 hq hid
theorem zy0{cf:za4}{m:zbz}{fv:WV}{args:List WV}:Hv M (fun M=>zx cf m fv args M):=by
 have key:∀{r},zx cf m fv args M=some r->∃f fi ca y,callee fv=some (f,fi,ca,y)/\((m.fa=false/\(y||zl2 f (fi++args++ca))=true/\zcG cf f (fi++args++ca) M=some r) \/
   (m.fa=true/\∃as,zla M args=some as/\(y||zl2 f (fi++as++ca))=true/\(((args.flatMap WV.sls).isEmpty=true/\zcG cf f (fi++as++ca) M=some r) \/
    ((args.flatMap WV.sls).isEmpty=false/\∃r0 M2 fp,zcG cf f (fi++as++ca) (zbg M (args.flatMap WV.sls))=some (r0,M2,fp) /\
     (((fp.isNo&&M2.length==M.length&&r0.plain)=false/\r=(r0,M2,match fp with |.wr l=>.wr ((args.flatMap WV.sls).map (fun id=>(id,0,whole))++l) |_=>.wr ((args.flatMap WV.sls).map fun id=>(id,0,whole)))) \/
      ((fp.isNo&&M2.length==M.length&&r0.plain)=true/\r=(r0,M,.no))))))):=by
  intro r h;unfold zx at h;split at h
  ·rename_i f fi ca y hce;refine⟨f,fi,ca,y,hce,?_⟩;split at h
   ·rename_i hfa;split at h
    ·cases h
    ·rename_i as has;split at h
     ·rename_i hhd;dsimp only at h;refine .inr ⟨hfa,as,has,hhd,?_⟩;split at h
      ·rename_i vG;exact .inl ⟨vG,h⟩
      ·rename_i vG;split at h
       ·cases h
       ·rename_i r0 M2 fp hc;refine .inr ⟨by simpa using vG,r0,M2,fp,hc,?_⟩;split at h
        ·rename_i hp;cases h;exact .inr ⟨hp,rfl⟩
        ·rename_i hp;cases h;exact .inl ⟨by simpa using hp,rfl⟩
     ·cases h
   ·rename_i hfa;split at h
    ·rename_i hhd;exact .inl ⟨by simpa using hfa,hhd,h⟩
    ·cases h
  ·cases h
 refine⟨fun av M' fp h=>?_,fun av M' fp q b0 h hq=>?_⟩
 ·obtain⟨f,fi,ca,y,hce,⟨_,_,h1⟩ |⟨_,as,has,_,⟨_,h1⟩ |⟨_,r0,M2,fp2,hc,⟨_,hr⟩ |⟨_,hr⟩⟩⟩⟩:=key h
  ·exact zie.eff _ _ _ h1
  ·exact zie.eff _ _ _ h1
  ·simp only[jG]at hr;obtain⟨rfl,rfl,rfl⟩:=hr;have e1:=zpr (M:=M) (args.flatMap WV.sls);have e2:=(zie (M:=zbg M (args.flatMap WV.sls))).eff _ _ _ hc;rcases zy1 hc with rfl |⟨l,rfl⟩
   ·have:=e1.trans (e2.DG []);rwa [kN]at this
   ·exact e1.trans e2
  ·simp only[jG]at hr;obtain⟨rfl,rfl,rfl⟩:=hr;exact Eff.refl
 ·obtain⟨f,fi,ca,y,hce,⟨hfa,hhd,h1⟩ |⟨hfa,as,has,hhd,⟨vG,h1⟩ |⟨vG,r0,M2,fp2,hc,Ci⟩⟩⟩:=key h
  ·have:=zie.fill _ _ _ q b0 h1 hq;simp only[zx,hce,hfa,hhd,if_true,jI,if_false];exact this
  ·obtain⟨f1,f2⟩:=znt (b0:=b0) hq has;have:=zie.fill _ _ _ q b0 h1 hq;simp only[zx,hce,hfa,if_true,f1,vG,hhd];exact this
  ·obtain⟨f1,f2⟩:=znt (b0:=b0) hq has;have hq':(zbg M (args.flatMap WV.sls))[q]?=some none:=zhW.2 hq;have hc':zcG cf f (fi++as++ca) ((zbg M (args.flatMap WV.sls)).set q (some b0))=_:=zie.fill _ _ _ q b0 hc hq';rw[<-zkx f2]at hc';rcases Ci with⟨hp,hr⟩ |⟨hp,hr⟩
   ·simp only[jG]at hr;obtain⟨rfl,rfl,rfl⟩:=hr;simp only[zx,hce,hfa,if_true,f1,hc',vG,hhd,uM,hp,jI,if_false];cases fp2<;>rfl
   ·simp only[jG]at hr;obtain⟨rfl,rfl,rfl⟩:=hr;simp only[zx,hce,hfa,if_true,f1,hc',vG,hhd,uM,hp,jI,if_false]
end
end Go.Eng
namespace Go.Eng
open Go
variable[zb0]
abbrev zhy:=Nat->Option AV
def zjC(E:zhy)(dst:Option Nat)(v:AV):zhy:=fun n=>if dst=some n then some v else E n
theorem ztG{E:Env}{dst:Option Nat}{v:AV}:(E.put dst v).get=zjC E.get dst v:=by
 funext n;cases dst with
 |none=>simp[Env.put,zjC]
 |some d=>simp[Env.put,zjC,Env.get]
section
variable{E E':zhy}
theorem zad{o:Opd}(h:∀n∈o.slots,E n=E' n):o.ev E=o.ev E':=by
 cases o with
 |s n=>simp only[Opd.ev,h n (by simp[Opd.slots])]
 |k v=>rfl
theorem zAJ{o:Opd}(h:∀n∈o.slots,E n=E' n):o.av E=o.av E':=by
 cases o with
 |s n=>simp only[Opd.av,h n (by simp[Opd.slots])]
 |k v=>rfl
theorem zgm:∀{os:List Opd},(∀n∈os.flatMap Opd.slots,E n=E' n)->evs E os=evs E' os
 |[],_=>rfl
 |o::os,h=>by
  simp only[jY,jt]at h;simp only[evs,zad (fun n hn=>h n (.inl hn)),zgm (fun n hn=>h n (.inr hn))]
theorem zlb:∀{ps:List (Nat×Nat×Opd)} {cs:List Cl},(∀n∈ps.flatMap (fun p=>p.2.2.slots),E n=E' n)->zdv E cs ps=zdv E' cs ps
 |[],_,_=>rfl
 |(a,b,o)::ps,cs,h=>by
  simp only[jY,jt]at h;simp only[zdv,zad (o:=o) (fun n hn=>h n (.inl hn))];split
  ·split
   ·exact zlb fun n hn=>h n (.inr hn)
   ·rfl
  ·rfl
theorem zl4{M:Mem}{esz:Nat}:∀{ps:List (Nat×Opd)} {rs:List (List Cl)},(∀n∈ps.flatMap (fun p=>p.2.slots),E n=E' n)->zdS E M esz rs ps=zdS E' M esz rs ps
 |[],_,_=>rfl
 |(a,o)::ps,rs,h=>by
  simp only[jY,jt]at h;simp only[zdS,zad (o:=o) (fun n hn=>h n (.inl hn))];split
  ·split
   ·split
    ·exact zl4 fun n hn=>h n (.inr hn)
    ·rfl
   ·rfl
  ·rfl
theorem zlV:∀{ps:List (Nat×Opd)},(∀n∈ps.flatMap (fun p=>p.2.slots),E n=E' n)->zcf E ps=zcf E' ps
 |[],_=>rfl
 |(a,o)::ps,h=>by
  simp only[jY,jt]at h;have:=zlV (ps:=ps) fun n hn=>h n (.inr hn)
  simp only[zcf]at this;simp only[zcf,jY,zad (o:=o) (fun n hn=>h n (.inl hn)),this]
theorem zjv{o:Option Opd}{d t:Nat}(h:∀n∈o.toList.flatMap Opd.slots,E n=E' n):zcy E o d t=zcy E' o d t:=by
 cases o with
 |none=>rfl
 |some o=>simp only[zcy,zad (o:=o) (fun n hn=>h n (by simpa using hn))]
theorem ztx{len:Nat}{cap:Option Nat}{lo hi mx:Option Opd}(h:∀n∈(lo.toList++hi.toList++mx.toList).flatMap Opd.slots,E n=E' n):sliceB E len cap lo hi mx=sliceB E' len cap lo hi mx:=by
 simp only[List.flatMap_append,jt]at h;have h1:∀d t,zcy E lo d t=zcy E' lo d t:=fun d t=>zjv fun n hn=>h n (.inl (.inl hn))
 have h2:∀d t,zcy E hi d t=zcy E' hi d t:=fun d t=>zjv fun n hn=>h n (.inl (.inr hn))
 have h3:∀d t,zcy E mx d t=zcy E' mx d t:=fun d t=>zjv fun n hn=>h n (.inr hn)
 simp only[sliceB,h1,h2,h3]
theorem ztw{es:Nat}{x:Cl}{lo hi mx:Option Opd}(h:∀n∈(lo.toList++hi.toList++mx.toList).flatMap Opd.slots,E n=E' n):znj E es x lo hi mx=znj E' es x lo hi mx:=by
 cases x<;>simp only[znj,ztx h]
theorem zyq{cf:za4}{n0:Nat}{M:Mem}{co:CO}(h:∀n∈co.slots,E n=E' n):opF cf n0 E M co=opF cf n0 E' M co:=by
 cases co<;>simp only[CO.slots,jt]at h
 case mv x=>simp only[opF,zAJ h]
 case ko q e=>rfl
 case pick c a b =>
  simp only[opF,zad (o:=c) (fun n hn=>h n (.inl (.inl hn)))];split
  ·rename_i t _;cases t
   ·simp only[jI,if_false,zad (o:=b) (fun n hn=>h n (.inr hn))]
   ·simp only[if_true,zad (o:=a) (fun n hn=>h n (.inl (.inr hn)))]
  ·rfl
 case box q n x=>simp only[opF,zad h]
 case build z ps=>simp only[opF,zlb h]
 case lit q e z ps=>simp only[opF,zl4 h,zlV h]
 case load a n p=>simp only[opF,zad h]
 case store n p v=>simp only[opF,zad (o:=p) (fun n hn=>h n (.inl hn)),zad (o:=v) (fun n hn=>h n (.inr hn))]
 case kC x=>simp only[opF,zad h]
 case bin op x y=>simp only[opF,zad (o:=x) (fun n hn=>h n (.inl hn)),zad (o:=y) (fun n hn=>h n (.inr hn))]
 case eqb op x y=>simp only[opF,zad (o:=x) (fun n hn=>h n (.inl hn)),zad (o:=y) (fun n hn=>h n (.inr hn))]
 case BI g x=>simp only[opF,zad h]
 case eqa g s x y=>simp only[opF,zad (o:=x) (fun n hn=>h n (.inl hn)),zad (o:=y) (fun n hn=>h n (.inr hn))]
 case un op x=>simp only[opF,zad h]
 case conv k x=>simp only[opF,zad h]
 case yc f a b=>simp only[opF,zgm (os:=a) (fun n hn=>h n (.inl hn)),zgm (os:=b) (fun n hn=>h n (.inr hn))]
 case Ae q e b z l c=>simp only[opF,zad (o:=l) (fun n hn=>h n (.inl hn)),zad (o:=c) (fun n hn=>h n (.inr hn))]
 case slice e x lo hi mx =>
  simp only[opF,zad (o:=x) (fun n hn=>h n (.inl hn))];split
  ·rw[ztw (fun n hn=>h n (.inr hn))]
  ·rfl
 case Bw f p=>simp only[opF,zad h]
 case field a f n x=>simp only[opF,zad h]
 case A4 e x y=>simp only[opF,zad (o:=x) (fun n hn=>h n (.inl hn)),zad (o:=y) (fun n hn=>h n (.inr hn))]
 case Ab l e x y=>simp only[opF,zad (o:=x) (fun n hn=>h n (.inl hn)),zad (o:=y) (fun n hn=>h n (.inr hn))]
 case aidx a l e x y=>simp only[opF,zad (o:=x) (fun n hn=>h n (.inl hn)),zad (o:=y) (fun n hn=>h n (.inr hn))]
 case extract t i=>simp only[opF,h t (by simp)]
 case len x=>simp only[opF,zad h]
 case slen x=>simp only[opF,zad h]
 case j8 m xs=>simp only[opF,zgm h]
 case p1 k x=>simp only[opF,zad h]
 case p2 k x y=>simp only[opF,zad (o:=x) (fun n hn=>h n (.inl hn)),zad (o:=y) (fun n hn=>h n (.inr hn))]
 case append e b x y=>simp only[opF,zad (o:=x) (fun n hn=>h n (.inl hn)),zad (o:=y) (fun n hn=>h n (.inr hn))]
 case clear z x=>simp only[opF,zad h]
 case call m f as=>simp only[opF,zad (o:=f) (fun n hn=>h n (.inl hn)),zgm (os:=as) (fun n hn=>h n (.inr hn))]
 case B7 k q xs=>simp only[opF,zgm h]
 case bad=>rfl
theorem zph{cf:za4}{n0:Nat}{M:Mem}{o:zaG}(h:∀n∈o.slots,E n=E' n):zbm cf n0 o E M=zbm cf n0 o E' M:=by
 simp only[zaG.slots,jt]at h;unfold zbm;have h2:opF cf n0 E M o.op=opF cf n0 E' M o.op:=zyq fun n hn=>h n (.inr hn)
 cases hg:o.guard with
 |none=>simp only[h2]
 |some g =>
  rw[hg]at h;have:zke E g=zke E' g:=by simp only[zke,h g.1 (.inl (by simp))]
  simp only[this,h2]
end
abbrev Run:=Mem->Option (AV×Mem×FP)
def zld(R:Run):Prop:=∃g:Option AV,∀M,R M=g.map fun v=>(v,M,.no)
def zj4(R:Run):Prop:=∃agg n x,∀M,R M=zdZ M agg n x
def zkZ(R:Run):Prop:=∀M,Hv M R
def ziE(R:Run):Prop:=∀M av M' fp,R M=some (av,M',fp)->fp≠.bad->∃(q:Nat) (b:Blk),M[q]?=some none/\M'=M.set q (some b)/\∀M1:Mem,M1[q]?=some none->R M1=some (av,M1.set q (some b),fp)
theorem zgj{M M':Mem}{agg:Bool}{n:Nat}{x:Cl}{av:AV}{fp:FP}(h:zdZ M agg n x=some (av,M',fp)):M'=M:=by
 unfold zdZ at h;split at h
 ·split at h
  ·split at h
   ·split at h
    ·simp only[jb,jG]at h;obtain⟨_,_,_,rfl,_⟩:=h;rfl
    ·cases h
   ·cases h
  ·cases h
 ·split at h
  ·simp only[jb,jG]at h;obtain⟨_,_,_,rfl,_⟩:=h;rfl
  ·cases h
 ·cases h
theorem zDf{RA RB:Run}{M M1 M2:Mem}{va vb:AV}{fa fb:FP}{base:Nat}(hA:RA M=some (va,M1,fa))(hB:RB M1=some (vb,M2,fb))(AF:base<=M.length)
  (h:zld RA\/zld RB\/(zj4 RA/\zj4 RB)\/(fa.apart fb=true/\fb.old base=true/\((zj4 RA/\zkZ RB)\/(zkZ RA/\zj4 RB)\/(zj4 RA/\ziE RB)\/(zkZ RA/\ziE RB)\/(ziE RA/\ziE RB)))) :
  ∃M1',RB M=some (vb,M1',fb)/\RA M1'=some (va,M2,fa):=by
 have ne1:fa.apart fb=true->fb≠.bad:=by rintro h rfl;cases fa<;>simp[FP.apart]at h
 have ne2:fa.apart fb=true->fa≠.bad:=by rintro h rfl;simp[FP.apart]at h
 rcases h with⟨g,hg⟩ |⟨g,hg⟩ |⟨⟨_,_,x,hx⟩,⟨_,_,y,hy⟩⟩ |⟨hap,hold,h⟩
 ·rw[hg]at hA;simp only[jb,jG]at hA;obtain⟨v,hv,rfl,rfl,rfl⟩:=hA;exact⟨M2,hB,by rw[hg,hv];rfl⟩
 ·rw[hg]at hB;simp only[jb,jG]at hB;obtain⟨v,hv,rfl,rfl,rfl⟩:=hB;exact⟨M,by rw[hg,hv];rfl,hA⟩
 ·rw[hx]at hA;rw[hy]at hB;have:=zgj hA;subst this;have:=zgj hB;subst this;exact⟨_,by rw[hy];exact hB,by rw[hx];exact hA⟩
 ·rcases h with⟨⟨_,_,x,hx⟩,hb⟩ |⟨ha,⟨_,_,y,hy⟩⟩ |⟨⟨_,_,x,hx⟩,hb⟩ |⟨ha,hb⟩ |⟨ha,hb⟩
  ·rw[hx]at hA;have:=zgj hA;subst this;exact⟨M2,hB,by rw[hx];exact((hb _).eff _ _ _ hB).load hA hap⟩
  ·rw[hy]at hB;have:=zgj hB;subst this;exact⟨M,by rw[hy];exact((ha _).eff _ _ _ hA).CY hB hap hold AF,hA⟩
  ·rw[hx]at hA;have:=zgj hA;subst this;obtain⟨q,b,h1,rfl,h3⟩:=hb _ _ _ _ hB (ne1 hap);refine⟨_,hB,?_⟩;rw[hx];unfold zdZ at hA ⊢;split at hA
   ·split at hA
    ·rename_i b' hlk;rw[zei h1 hlk];simp only;split at hA
     ·split at hA
      ·simp only[jb,jG]at hA;obtain⟨w,hw,rfl,_,rfl⟩:=hA;simp[hw]
      ·cases hA
     ·cases hA
    ·cases hA
   ·split at hA
    ·simp only[jb,jG]at hA;obtain⟨w,hw,rfl,_,rfl⟩:=hA;simp[hw]
    ·cases hA
   ·cases hA
  ·obtain⟨q,b,h1,rfl,h3⟩:=hb _ _ _ _ hB (ne1 hap);have hq:M[q]?=some none:=(((ha _).eff _ _ _ hA).hole q).1 h1;exact⟨_,h3 M hq,(ha M).fill _ _ _ q b hA hq⟩
  ·obtain⟨qa,ba,a1,rfl,a3⟩:=ha _ _ _ _ hA (ne2 hap);obtain⟨qb,bb,b1,rfl,b3⟩:=hb _ _ _ _ hB (ne1 hap);have hne:qa≠qb:=by
    rintro rfl;rw[kg (zC a1)]at b1;cases b1
   rw[jJ hne]at b1;refine⟨_,b3 M b1,?_⟩;rw[a3 _ (by rw[jJ hne.symm];exact a1),uP _ _ hne]
theorem zjG{M:Mem}{q:Nat}{b:Blk}(h:M[q]?=some none):zg M q b=some (M.set q (some b)):=by simp[zg,h]
theorem ztJ{E:zhy}{a:Nat}{o:Opd}{ps:List (Nat×Opd)}(h:(zcf E ((a,o)::ps)).isEmpty=true):(∀v,o.ev E=some v->v.sls=[])/\(zcf E ps).isEmpty=true:=by
 simp only[zcf,jY,List.isEmpty_iff,uG]at h ⊢;refine⟨fun v hv=>?_,h.2⟩;have:=h.1;rw[hv]at this;exact this
theorem zs6{M M1:Mem}:∀{cs:List Cl},cs.flatMap slC=[]->yK M cs=yK M1 cs
 |[],_=>rfl
 |c::cs,h=>by
  simp only[jY,uG]at h;have:zdR M c=zdR M1 c:=by
   cases c<;>first |rfl |(simp[slC]at h)
  simp only[yK,this,zs6 (M:=M) (M1:=M1) h.2]
theorem zna{E:zhy}{M M1:Mem}{esz:Nat}:∀{ps:List (Nat×Opd)} {rs:List (List Cl)},(zcf E ps).isEmpty=true->zdS E M esz rs ps=zdS E M1 esz rs ps
 |[],_,_=>rfl
 |(a,o)::ps,rs,h=>by
  obtain⟨h1,h2⟩:=ztJ h;simp only[zdS];cases ho:o.ev E with
  |none=>rfl
  |some v =>
   simp only;rw[zs6 (M:=M) (M1:=M1) (h1 v ho)];split
   ·split
    ·exact zna h2
    ·rfl
   ·rfl
theorem zwN{cf:za4}{n0:Nat}{E:zhy}{co:CO}(h:co.cls=.alloc):ziE fun M=>opF cf n0 E M co:=by
 intro M av M' fp hr Ck;cases co<;>first |(cases h;done) |skip
 case box q n x =>
  simp only[opF]at hr ⊢;split at hr
  ·rename_i v hv;split at hr
   ·rename_i hc;simp only[jb,jG]at hr;obtain⟨M1,h1,rfl,rfl,rfl⟩:=hr;obtain⟨q1,q2,rfl⟩:=za1 h1;refine⟨_,_,q1,rfl,fun M1 hM1=>?_⟩;rw[if_pos hc,zjG hM1];rfl
   ·cases hr
  ·cases hr
 case ko q e =>
  simp only[opF,jb,jG]at hr ⊢;obtain⟨M1,h1,rfl,rfl,rfl⟩:=hr;obtain⟨q1,q2,rfl⟩:=za1 h1;refine⟨_,_,q1,rfl,fun M1 hM1=>?_⟩;rw[zjG hM1];exact⟨_,rfl,rfl,rfl,rfl⟩
 case lit q e z ps =>
  simp only[opF]at hr ⊢;split at hr
  ·rename_i rows AP;split at hr
   ·rename_i hc;simp only[jb,jG]at hr;obtain⟨M1,h1,rfl,rfl,rfl⟩:=hr;have vG:(zcf E ps).isEmpty=true:=by
     cases hx:(zcf E ps).isEmpty with
     |true=>rfl
     |false=>rw[hx]at Ck;simp at Ck
    have AQ:zcf E ps=[]:=by simpa using vG
    rw[AQ]at h1;obtain⟨q1,q2,rfl⟩:=za1 h1;refine⟨_,_,q1,rfl,fun M1 hM1=>?_⟩
    ·rw[zna (M:=M1) (M1:=M) vG,AP,AQ];simp only;rw[if_pos hc];show Option.map _ (zg M1 _ _)=_;rw[zjG hM1];rfl
   ·cases hr
  ·cases hr
 case Ae q e b z l c =>
  simp only[opF]at hr ⊢;split at hr
  ·rename_i l1 n1 c1 n2 hl hc;split at hr
   ·rename_i Ai;simp only[jb,jG]at hr;obtain⟨M1,h1,rfl,rfl,rfl⟩:=hr;obtain⟨q1,q2,rfl⟩:=za1 h1;refine⟨_,_,q1,rfl,fun M1 hM1=>?_⟩;rw[if_pos Ai,zjG hM1];rfl
   ·cases hr
  ·cases hr
 case B7 k q xs =>
  simp only[opF]at hr ⊢;split at hr
  ·rename_i vs hvs;cases k with
   |CZ =>
    simp only[zi2]at hr ⊢;split at hr
    ·rename_i hc;simp only[jb,jG]at hr;obtain⟨M1,h1,rfl,rfl,rfl⟩:=hr;obtain⟨q1,q2,rfl⟩:=za1 h1;refine⟨_,_,q1,rfl,fun M1 hM1=>?_⟩;rw[if_pos hc,zjG hM1];rfl
    ·cases hr
  ·cases hr
theorem zyN{cf:za4}{n0:Nat}{E:zhy}{co:CO}(h:co.cls=.load):zld (fun M=>opF cf n0 E M co)\/zj4 (fun M=>opF cf n0 E M co):=by
 cases co<;>first |(cases h;done) |skip
 case load a n p =>
  simp only[opF];split
  ·exact .inr ⟨_,_,_,fun M=>rfl⟩
  ·exact .inl ⟨none,fun M=>rfl⟩
theorem zwM{cf:za4}{n0:Nat}{E:zhy}{co:CO}(h:co.cls=.yR):zld (fun M=>opF cf n0 E M co)\/zkZ (fun M=>opF cf n0 E M co):=by
 cases co<;>first |(cases h;done) |skip
 case store n p v =>
  simp only[opF];split
  ·exact .inr fun M=>zzp
  ·exact .inl ⟨none,fun M=>rfl⟩
 case append e b x y =>
  simp only[opF];split
  ·exact .inr fun M=>zy4
  ·exact .inl ⟨none,fun M=>rfl⟩
 case clear z x =>
  simp only[opF];split
  ·exact .inr fun M=>zAz
  ·exact .inl ⟨none,fun M=>rfl⟩
 case call m f as =>
  simp only[opF];split
  ·exact .inr fun M=>zy0
  ·exact .inl ⟨none,fun M=>rfl⟩
 case bad=>exact .inl ⟨none,fun M=>rfl⟩
theorem zyM{cf:za4}{n0:Nat}{E:zhy}{co:CO}(h:co.cls=.pure):zld fun M=>opF cf n0 E M co:=by
 have hp:∀c:Option Cl,zld fun M=>zhN c M:=fun c=>⟨c.map fun v=>.w (.c v),fun M=>by cases c<;>rfl⟩
 have h0:zld fun _=>(none:Option (AV×Mem×FP)):=⟨none,fun M=>rfl⟩
 have h1:∀v:AV,zld fun M=>some (v,M,FP.no):=fun v=>⟨some v,fun M=>rfl⟩
 cases co<;>first |(cases h;done) |skip
 case mv x=>simp only[opF];split<;>first |exact h0 |exact h1 _
 case pick c a b =>
  simp only[opF];split
  ·split<;>first |exact h0 |exact h1 _
  ·exact h0
 case build z ps=>exact⟨(zdv E z ps).map fun cs=>.w (.a cs),fun M=>by simp only[opF];cases zdv E z ps<;>rfl⟩
 case kC x=>simp only[opF];split<;>first |exact h0 |exact h1 _
 case bin op x y=>simp only[opF];split<;>first |exact h0 |exact hp _
 case eqb op x y=>simp only[opF];split<;>first |exact h0 |exact hp _
 case BI g x=>simp only[opF];split<;>first |exact h0 |exact hp _
 case eqa g s x y =>
  simp only[opF];split
  ·split<;>first |exact h0 |exact hp _
  ·exact h0
 case un op x=>simp only[opF];split<;>first |exact h0 |exact hp _
 case conv k x=>simp only[opF];split<;>first |exact h0 |exact h1 _
 case yc f a b =>
  simp only[opF];split
  ·split<;>first |exact h0 |exact h1 _
  ·exact h0
 case slice e x lo hi mx=>simp only[opF];split<;>first |exact h0 |exact hp _
 case Bw f p=>simp only[opF];split<;>first |exact h0 |exact hp _
 case field a f n x =>
  simp only[opF];split
  ·split
   ·rename_i cs' _;exact⟨(zaI a cs').map .w,fun M=>by cases zaI a cs'<;>rfl⟩
   ·exact h0
  ·exact h0
 case A4 e x y=>simp only[opF];split<;>first |exact h0 |exact hp _
 case Ab l e x y=>simp only[opF];split<;>first |exact h0 |exact hp _
 case aidx a l e x y =>
  simp only[opF];split
  ·split
   ·split
    ·rename_i cs' _;exact⟨(zaI a cs').map .w,fun M=>by cases zaI a cs'<;>rfl⟩
    ·exact h0
   ·exact h0
  ·exact h0
 case extract t i =>
  simp only[opF];split
  ·split<;>first |exact h0 |exact h1 _
  ·exact h0
 case len x=>simp only[opF];split<;>first |exact h0 |exact h1 _
 case slen x=>simp only[opF];split<;>first |exact h0 |exact h1 _
 case j8 m xs=>simp only[opF];split<;>first |exact h0 |exact hp _
 case p1 k x =>
  simp only[opF];split
  ·rename_i v _;exact⟨p1F k v,fun M=>by cases p1F k v<;>rfl⟩
  ·exact h0
 case p2 k x y =>
  simp only[opF];split
  ·rename_i v u _ _;exact⟨p2F k v u,fun M=>by cases p2F k v u<;>rfl⟩
  ·exact h0
theorem zoP{cf:za4}{n0:Nat}{E:zhy}{o:zaG}:zld (fun M=>zbm cf n0 o E M)\/(o.cls=.load/\zj4 (fun M=>zbm cf n0 o E M))\/(o.cls=.yR/\zkZ (fun M=>zbm cf n0 o E M))\/(o.cls=.alloc/\ziE (fun M=>zbm cf n0 o E M)):=by
 have base:zld (fun M=>opF cf n0 E M o.op)\/(o.cls=.load/\zj4 (fun M=>opF cf n0 E M o.op))\/(o.cls=.yR/\zkZ (fun M=>opF cf n0 E M o.op))\/(o.cls=.alloc/\ziE (fun M=>opF cf n0 E M o.op)):=by
  cases hc:o.cls with
  |pure=>exact .inl (zyM hc)
  |load=>exact(zyN hc).imp id fun h=>.inl ⟨rfl,h⟩
  |yR=>exact(zwM hc).imp id fun h=>.inr (.inl ⟨rfl,h⟩)
  |alloc=>exact .inr (.inr (.inr ⟨rfl,zwN hc⟩))
 unfold zbm;split
 ·exact base
 ·rename_i g hg;split
  ·exact base
  ·exact .inl ⟨some .u,fun M=>rfl⟩
  ·exact .inl ⟨none,fun M=>rfl⟩
theorem z4L{cf:za4}{n0:Nat}{E:zhy}{o:zaG}{M M':Mem}{av:AV}{fp:FP}(h:zbm cf n0 o E M=some (av,M',fp)):M.length<=M'.length:=by
 rcases zoP (cf:=cf) (n0:=n0) (E:=E) (o:=o)with⟨g,hg⟩ |⟨_,_,_,x,hx⟩ |⟨_,hh⟩ |⟨hc,_⟩
 ·have:=hg M;dsimp only at this;rw[h]at this;cases g with
  |none=>cases this
  |some v=>simp at this;obtain⟨_,rfl,_⟩:=this;exact jq _
 ·have:=hx M;dsimp only at this;rw[h]at this;rw[zgj this.symm];exact jq _
 ·exact((hh M).eff _ _ _ h).len
 ·
  have:∀{M av M' fp},opF cf n0 E M o.op=some (av,M',fp)->M.length<=M'.length:=by
   intro M av M' fp h;have hc:o.op.cls=.alloc:=hc;cases hop:o.op<;>rw[hop]at hc h<;>first |(cases hc;done) |skip
   ·simp only[opF,jb,jG]at h;obtain⟨M1,h1,_,rfl,_⟩:=h;obtain⟨_,_,rfl⟩:=za1 h1;simp
   ·simp only[opF]at h;split at h
    ·split at h
     ·simp only[jb,jG]at h;obtain⟨M1,h1,_,rfl,_⟩:=h;obtain⟨_,_,rfl⟩:=za1 h1;simp
     ·cases h
    ·cases h
   ·simp only[opF]at h;split at h
    ·split at h
     ·simp only[jb,jG]at h;obtain⟨M1,h1,_,rfl,_⟩:=h;obtain⟨_,_,rfl⟩:=za1 h1;simp[zgi]
     ·cases h
    ·cases h
   ·simp only[opF]at h;split at h
    ·split at h
     ·simp only[jb,jG]at h;obtain⟨M1,h1,_,rfl,_⟩:=h;obtain⟨_,_,rfl⟩:=za1 h1;simp
     ·cases h
    ·cases h
   ·rename_i k q xs;simp only[opF]at h;split at h
    ·cases k;simp only[zi2]at h;split at h
     ·simp only[jb,jG]at h;obtain⟨M1,h1,_,rfl,_⟩:=h;obtain⟨_,_,rfl⟩:=za1 h1;simp
     ·cases h
    ·cases h
  unfold zbm at h;split at h
  ·exact this h
  ·split at h
   ·exact this h
   ·cases h;exact jq _
   ·cases h
end Go.Eng
namespace Go.Eng
open Go
variable[zb0]
theorem zhz.fenced{F:Fence}(h:zhz F)(P:Program)(m:Machine):m.fenced P F:=by
 intro g _;refine⟨fun ha=>?_,.inl (h.fn _),fun f _=>h.fn f,fun d hd=>?_⟩
 ·rw[h.alive]at ha;cases ha
 ·rw[h.depth]at hd;cases hd
theorem zhz.calls{F:Fence}(h:zhz F){n:Nat}{P:Program}{f:FuncId}{args:Array Value}{w:World}{R:Ending->World->Prop}(hc:Calls P f args w R):CallsIn F n P f args w R:=by
 refine⟨h.fn f,fun cs _=>?_⟩;obtain⟨e,w',fr,r,s,x⟩:=hc cs;refine⟨e,w',fr,r,?_,x⟩;cases e with
 |returned v=>exact(StepsIn.of_steps s).mono fun m _=>h.fenced P m
 |panicked c=>exact(StepsIn.of_steps s).mono fun m _=>h.fenced P m
 |outgrown=>exact s
def zkw(r:Nat):Deferred:={ target:=.collected r,args:=#[] }
def zj3(own:Nat->Prop)(ds:List Deferred)(w:World):Prop:=∃rs:List Nat,ds=rs.map zkw/\rs.Nodup/\∀r∈rs,w.heap[r]?=some (.deferred (some []))/\¬own r
theorem zj3.nil{own:Nat->Prop}{w:World}:zj3 own [] w:=⟨[],rfl,List.nodup_nil,fun r h=>by cases h⟩
theorem zj3.frame{own:Nat->Prop}{ds:List Deferred}{w w':World}(h:zj3 own ds w)(hf:∀b,b<w.heap.size->¬own b->w'.heap[b]?=w.heap[b]?):zj3 own ds w':=by
 obtain⟨rs,h1,h2,h3⟩:=h;exact⟨rs,h1,h2,fun r hr=>⟨by rw[hf r (jR.1 (h3 r hr).1).1 (h3 r hr).2];exact(h3 r hr).1,(h3 r hr).2⟩⟩
theorem zj3.heap{own:Nat->Prop}{ds:List Deferred}{w w':World}(h:zj3 own ds w)(hf:w'.heap=w.heap):zj3 own ds w':=h.frame fun b _ _=>by rw[hf]
structure At(own:Nat->Prop)(σ:zP)(j:Inj)(E:zhy)(M:Mem)(ntmps:Nat)(a:Act)(w:World):Prop where
 env:zcs σ j E a.tmps
 size:a.tmps.size=ntmps
 marks:zj3 own a.defers w
 ya:zM σ w
 mem:MR own σ j M w
 own:∀b,w.heap.size<=b->own b
section
variable{own:Nat->Prop}{σ:zP}{j:Inj}{M:Mem}{w:World}{E:zhy}{a:Act}{P:Program}{cf:za4}{ntmps:Nat}{F:Fence}{n:Nat}{Q:Exit->Act->World->Prop}
theorem At.put{σ':zP}{j':Inj}{M':Mem}{w':World}{d:Option Nat}{av:AV}{v:Value}(h:At own σ j E M ntmps a w)(hd:∀x,d=some x->x<ntmps)(hv:AVR σ' j' av v)(hag:zM σ' w')(hm:MR own σ' j' M' w')
  (hst:za2 own M.length σ j M w σ' j' M' w'):At own σ' j' (zjC E d av) M' ntmps (a.put d v) w':=by
 have hj:=hst.jle' h.mem (jq _);have henv:=h.env.mono hst.sle hj;refine⟨?_,?_,by cases d<;>exact h.marks.frame hst.frame,hag,hm,fun b hb=>h.own b (j7 hst.size hb)⟩
 ·intro m x hx;cases d with
  |none=>exact henv m x (by simpa [zjC]using hx)
  |some d =>
   simp only[Act.put];by_cases hdm:d=m
   ·subst hdm;simp only[zjC,if_true,ji]at hx;subst hx;exact⟨v,by rw[qP (by rw[h.size];exact hd d rfl)],hv⟩
   ·have:E m=some x:=by simpa [zjC,hdm]using hx
    obtain⟨u,hu,hr⟩:=henv m x this;exact⟨u,by rw[qJ hdm];exact hu,hr⟩
 ·cases d<;>simp[Act.put,h.size]
theorem zfX{d:Option Nat}{v:Value}:(a.put d v).defers=a.defers:=by cases d<;>rfl
theorem zjR{ops:Array Oper}{m:Oper->zbz}{i:Nat}{co:zaG}(h:zdT P ops.toList m ntmps i=some co) :
  ∃o,ops[i]?=some o/\co.ix=i/\co.op=(zA P (zgO ops.toList i) (m o) o).getD .bad/\zqf ops.toList o.guard=some co.guard/\co.dst=o.dst/\∀x,o.dst=some x->x<ntmps:=by
 unfold zdT at h;split at h
 ·rename_i o ho;split at h
  ·rename_i c g hc hg;have ho':ops[i]?=some o:=by simpa using ho
   simp only[ji]at hc;split at h
   ·rename_i d hd;split at h
    ·rename_i hlt;cases h;exact⟨o,ho',rfl,hc.symm,hg,hd.symm,fun x hx=>by rw[hd]at hx;cases hx;exact hlt⟩
    ·cases h
   ·rename_i hd;cases h;exact⟨o,ho',rfl,hc.symm,hg,hd.symm,fun x hx=>by rw[hd]at hx;cases hx⟩
  ·cases h
 ·cases h
theorem zsS{f:FuncId}{fn:Func}{args:Array Value}(hf:P.funcs[f]?=some fn)(hb:fn.body.isNone=false)(hn:(fn.name == "runtime.NumGoroutine")=false):(callFunc f args).run P w=.ok (.enter f args) w:=by
 unfold callFunc;rw[Sem.run_bind,run_program];simp only[Result.andThen_ok,hf,hn,hb,jI,if_false,Sem.run_pure]
theorem zrp{q:Nat}{m cm:zbz}{o:Oper}{fv:Opd}{as:List Opd}(h:zA P q m o=some (.call cm fv as)) :
  ∃c f,o.op=.call c/\c.callee=.value f/\za5 f=some fv/\zdB c.args.toList=some as:=by
 cases ho:o.op<;>simp only[zA,ho]at h
 case call c =>
  refine⟨c,?_⟩;obtain⟨callee,args,argTypes⟩:=c;cases callee with
  |value f =>
   simp only at h;split at h
   ·rename_i fv' as' h1 h2;cases h;exact⟨f,rfl,rfl,h1,h2⟩
   ·cases h
  |invoke r mm=>cases h
  |builtin b =>
   exfalso;cases b<;>simp only at h<;>(repeat' split at h)<;>first |(cases h;done) |(obtain⟨_,_,h⟩:=jb.1 h;cases h)
 case makeFunc fn fi ca =>
  exfalso;cases fn<;>simp only at h<;>(repeat' split at h)<;>cases h
 all_goals(exfalso;(repeat' split at h)<;>first |(cases h;done) |(obtain⟨_,_,h⟩:=jb.1 h;cases h))
theorem zoz(hF:zhz F)(hcf:FnS P cf){ops:Array Oper}{m:Oper->zbz}{i n0:Nat}{co:zaG}{av:AV}{M':Mem}{fp:FP}(hc:zdT P ops.toList m ntmps i=some co)
  (hs:zbm cf n0 co E M=some (av,M',fp)) (hat:At own σ j E M ntmps a w) {K:Act->World->Prop}
  (hK:∀a' w' σ' j',At own σ' j' (zjC E co.dst av) M' ntmps a' w'->za2 own M.length σ j M w σ' j' M' w'->a'.defers=a.defers->K a' w') :
  wpOpIn F n P ops Q i K a w:=by
 obtain⟨o,ho,_,hop,hg,hdst,hd⟩:=zjR hc;unfold wpOpIn;simp only[ho];have Dx:∀f,o.about P w a.eval=some f->F.fn f:=fun f _=>hF.fn f
 have skip:av=.u->M'=M->K (a.put o.dst undef) w:=by
  rintro rfl rfl;exact hK _ _ σ j (by rw[hdst];exact hat.put hd rfl hat.ya hat.mem za2.refl) za2.refl zfX
 have go:opF cf n0 E M co.op=some (av,M',fp)->o.wpIn F n P a w K Q:=by
  intro qY;rw[hop]at qY;cases C8:zA P (zgO ops.toList i) (m o) o with
  |none=>rw[C8]at qY;cases qY
  |some c =>
   rw[C8]at qY;simp only[qC]at qY;refine⟨Dx,?_⟩;have hnd:∀c,o.op≠.defer c:=by
    intro c' hdef;simp only[zA,hdef]at C8;cases C8
   rw[Oper.semAt_eq _ _ _ hnd];cases hic:c.Cr with
   |false =>
    rcases zBy (own:=own) hic C8 qY hat.env hat.ya hat.mem hat.own with⟨v,w',σ',j',hr,hv,hag,hm,hst⟩ |⟨rfl,w',σ',hr,hag,hm,hst⟩
    ·rw[hr];exact hK _ _ σ' j' (by rw[hdst];exact hat.put hd hv hag hm hst) hst zfX
    ·rw[hr];exact hK _ _ σ' j (by rw[hdst];exact hat.put hd rfl hag hm hst) hst zfX
   |true =>
    cases c<;>first |(cases hic;done) |skip
    rename_i cm cfv cargs;obtain⟨c,f,ho1,CP,hfo,haso⟩:=zrp C8;obtain⟨callee,args,argTypes⟩:=c;dsimp only at CP haso;subst CP;simp only[opF]at qY;split at qY
    ·rename_i fv as hfv has;have hfw:=zWl hat.ya.qw hat.env hfo hfv;have hvs:zac σ j as (args.map a.eval).toList:=by
      have:=zbr hat.ya.qw hat.env haso has;simpa using this
     rcases zpA hcf qY hat.ya hat.mem hat.own hfw hvs with⟨g,fi,ca,fn,Bs,q1,q2,q3,uI⟩ |⟨l,rc,Bs,hl,hsz,Bl⟩
     ·have Cf:(execOp a.eval o).run P w=.ok (.enter g (fi++args.map a.eval++ca)) w:=by
       simp[execOp,ho1,resolve,Deferred.ofValue,Bs,invoke,zsS q1 q2 q3]
      rw[Cf];refine⟨fun h=>(by rw[hF.depth]at h;cases h),hF.calls ?_⟩;refine Calls.y9 uI ?_;rintro e w' ⟨v,σ',j',rfl,hv,hag,hm,hst⟩;exact hK _ _ σ' j' (by rw[hdst];exact hat.put hd hv hag hm hst) hst zfX
     ·have Cf:(execOp a.eval o).run P w=.ok (.round l rc.fn ((rc.params.zip (args.map a.eval)).foldl (fun tmps (t,a)=>tmps.setIfInBounds t a) rc.tmps) rc.assign rc.body) w:=by
       have:=run_yield (P:=P) hl hsz;simp[execOp,ho1,resolve,Deferred.ofValue,Bs,invoke,this]
      rw[Cf];refine⟨fun h=>(by rw[hF.depth]at h;cases h),RoundIn.y9 (Bl F (n-1) hF) ?_⟩;rintro e w' ⟨v,σ',j',rfl,hv,hag,hm,hst⟩;exact hK _ _ σ' j' (by rw[hdst];exact hat.put hd hv hag hm hst) hst zfX
    ·cases qY
 cases hgd:o.guard with
 |none =>
  rw[hgd]at hg;simp only[zqf,ji]at hg;have hw:Region.wanted o (yielded ops a.tmps)=true:=by simp[Region.wanted,hgd]
  rw[if_pos hw];simp only[zbm,<-hg]at hs;exact go hs
 |some g =>
  obtain⟨jj,want⟩:=g;rw[hgd]at hg;simp only[zqf]at hg;split at hg
  ·rename_i oj hoj;simp only[jb]at hg;obtain⟨d,hdj,hg⟩:=hg;have hoj:ops[jj]?=some oj:=by simpa using hoj
   simp only[zbm,<-hg]at hs;split at hs
   ·rename_i AC;unfold zke at AC;split at AC
    ·rename_i b hb;obtain⟨v,hv,hr⟩:=hat.env _ _ hb;have hr:VC σ j (.bool b) v:=hr;cases hr;have hw:Region.wanted o (yielded ops a.tmps)=true:=by
      simp only[Region.wanted,hgd,yielded,hoj,ub,hdj];rw[hv];simpa using AC
     rw[if_pos hw];exact go hs
    ·cases AC
    ·cases AC
   ·rename_i AC;cases hs;have hw:Region.wanted o (yielded ops a.tmps)=false:=by
     unfold zke at AC;split at AC
     ·rename_i b hb;obtain⟨v,hv,hr⟩:=hat.env _ _ hb;have hr:VC σ j (.bool b) v:=hr;cases hr;simp only[Region.wanted,hgd,yielded,hoj,ub,hdj];rw[hv];simpa using AC
     ·rename_i hb;obtain⟨v,hv,hr⟩:=hat.env _ _ hb;have hr:v=undef:=hr;subst hr;simp only[Region.wanted,hgd,yielded,hoj,ub,hdj];rw[hv];simp[undef]
     ·cases AC
    rw[hw];exact⟨Dx,skip rfl rfl⟩
   ·cases hs
  ·cases hg
end
end Go.Eng
namespace Go.Eng
open Go
variable[zb0]
def zlh(cf:za4)(n0:Nat):List zaG->zhy->Mem->Option (zhy×Mem×List FP)
 |[],E,M=>some (E,M,[])
 |o::os,E,M=>match zbm cf n0 o E M with
  |some (v,M',fp)=>match zlh cf n0 os (zjC E o.dst v) M' with
   |some (E2,M2,fs)=>some (E2,M2,fp::fs)
   |none=>none
  |none=>none
theorem zxv{cf:za4}{n0:Nat}:∀{os:List zaG} {E:Env} {M:Mem} {E2:Env} {M2:Mem} {fs:List FP},zks cf n0 os E M=some (E2,M2,fs)->zlh cf n0 os E.get M=some (E2.get,M2,fs)
 |[],E,M,E2,M2,fs,h=>by simp only[zks,ji,jG]at h;obtain⟨rfl,rfl,rfl⟩:=h;rfl
 |o::os,E,M,E2,M2,fs,h=>by
  simp only[zks]at h;split at h
  ·rename_i v M' fp h1;split at h
   ·rename_i E3 M3 fs3 h2;cases h;have:=zxv h2;rw[ztG]at this;simp only[zlh,h1,this]
   ·cases h
  ·cases h
theorem zgh{cf:za4}{n0:Nat}{o:zaG}{os:List zaG}{E:zhy}{M:Mem}{E2:zhy}{M2:Mem}{fp:FP}{fs:List FP} :
  zlh cf n0 (o::os) E M=some (E2,M2,fp::fs)<->∃v M',zbm cf n0 o E M=some (v,M',fp)/\zlh cf n0 os (zjC E o.dst v) M'=some (E2,M2,fs):=by
 simp only[zlh];constructor
 ·intro h;split at h
  ·rename_i v M' fp' h1;split at h
   ·rename_i E3 M3 fs3 h2;cases h;exact⟨v,M',h1,h2⟩
   ·cases h
  ·cases h
 ·rintro⟨v,M',h1,h2⟩;rw[h1];simp only;rw[h2]
def zA7(base:Nat)(a:zaG)(fa:FP)(b:zaG)(fb:FP):Prop :=
 znW a b=true/\(a.cls=.pure\/b.cls=.pure\/(a.cls=.load/\b.cls=.load)\/(fa.apart fb=true/\fb.old base=true))
theorem zr9{a b:zaG}(h:znW a b=true):(∀d,a.dst=some d->d∉b.slots/\b.dst≠some d)/\(∀d,b.dst=some d->d∉a.slots) /\
  (a.cls=.pure\/b.cls=.pure\/(a.cls=.load/\b.cls=.load)\/(a.cls=.load/\b.cls=.alloc)\/(a.cls=.yR/\b.cls=.alloc)\/(a.cls=.alloc/\b.cls=.alloc)\/(a.cls=.load/\b.cls=.yR)\/(a.cls=.yR/\b.cls=.load)):=by
 simp only[znW,jh]at h;obtain⟨⟨h1,h2⟩,h3⟩:=h;refine⟨fun d hd=>?_,fun d hd=>?_,?_⟩
 ·rw[hd]at h1;simpa using h1
 ·rw[hd]at h2;simpa using h2
 ·cases ha:a.cls<;>cases hb:b.cls<;>rw[ha,hb]at h3<;>simp at h3 ⊢
theorem zyh{E:zhy}{d e:Option Nat}{x v:AV}(h:∀x,d=some x->e≠some x):zjC (zjC E d x) e v=zjC (zjC E e v) d x:=by
 funext n;simp only[zjC];by_cases h1:d=some n
 ·have:=h n h1;simp[h1,this]
 ·simp[h1]
theorem swap{cf:za4}{n0 base:Nat}{a b:zaG}{r:List zaG}{E E2:zhy}{M M2:Mem}{fa fb:FP}{fr:List FP}(hf:zA7 base a fa b fb)(AF:base<=M.length)
  (h:zlh cf n0 (a::b::r) E M=some (E2,M2,fa::fb::fr)):zlh cf n0 (b::a::r) E M=some (E2,M2,fb::fa::fr):=by
 obtain⟨va,M1,h1,h⟩:=zgh.1 h;obtain⟨vb,M3,h2,h3⟩:=zgh.1 h;obtain⟨hcross,vg⟩:=hf;obtain⟨s1,s2,s3⟩:=zr9 hcross;have eb:∀M,zbm cf n0 b (zjC E a.dst va) M=zbm cf n0 b E M:=fun M=>zph fun n hn=>by
  simp only[zjC];rw[if_neg];intro hd;exact(s1 n hd).1 hn
 have ea:∀M,zbm cf n0 a (zjC E b.dst vb) M=zbm cf n0 a E M:=fun M=>zph fun n hn=>by
  simp only[zjC];rw[if_neg];intro hd;exact s2 n hd hn
 rw[eb]at h2;have hK:zld (fun M=>zbm cf n0 a E M)\/zld (fun M=>zbm cf n0 b E M)\/(zj4 (fun M=>zbm cf n0 a E M)/\zj4 (fun M=>zbm cf n0 b E M)) \/
   (fa.apart fb=true/\fb.old base=true/\((zj4 (fun M=>zbm cf n0 a E M)/\zkZ (fun M=>zbm cf n0 b E M))\/(zkZ (fun M=>zbm cf n0 a E M)/\zj4 (fun M=>zbm cf n0 b E M))\/(zj4 (fun M=>zbm cf n0 a E M)/\ziE (fun M=>zbm cf n0 b E M))\/(zkZ (fun M=>zbm cf n0 a E M)/\ziE (fun M=>zbm cf n0 b E M))\/(ziE (fun M=>zbm cf n0 a E M)/\ziE (fun M=>zbm cf n0 b E M)))):=by
  have ka:=zoP (cf:=cf) (n0:=n0) (E:=E) (o:=a);have kb:=zoP (cf:=cf) (n0:=n0) (E:=E) (o:=b);rcases ka with ka |⟨ca,ka⟩ |⟨ca,ka⟩ |⟨ca,ka⟩
  ·exact .inl ka
  all_goals
   rcases kb with kb |⟨cb,kb⟩ |⟨cb,kb⟩ |⟨cb,kb⟩
   ·exact .inr (.inl kb)
   all_goals
    simp only[ca,cb,reduceCtorEq,false_and,and_false,or_false,false_or,and_self,or_true,true_or]at s3 vg<;>first
     |(cases s3;done)
     |exact .inr (.inr (.inl ⟨ka,kb⟩))
     |exact .inr (.inr (.inr ⟨vg.1,vg.2,.inl ⟨ka,kb⟩⟩))
     |exact .inr (.inr (.inr ⟨vg.1,vg.2,.inr (.inl ⟨ka,kb⟩)⟩))
     |exact .inr (.inr (.inr ⟨vg.1,vg.2,.inr (.inr (.inl ⟨ka,kb⟩))⟩))
     |exact .inr (.inr (.inr ⟨vg.1,vg.2,.inr (.inr (.inr (.inl ⟨ka,kb⟩)))⟩))
     |exact .inr (.inr (.inr ⟨vg.1,vg.2,.inr (.inr (.inr (.inr ⟨ka,kb⟩)))⟩))
 obtain⟨M1',q1,q2⟩:=zDf (base:=base) h1 h2 AF hK;refine zgh.2 ⟨vb,M1',q1,zgh.2 ⟨va,M3,by rw[ea];exact q2,?_⟩⟩;rw[<-zyh (fun x hx=>(s1 x hx).2)];exact h3
theorem zxo{cf:za4}{n0 base:Nat}{y:zaG×FP}{post:List (zaG×FP)}:∀{pre:List (zaG×FP)} {E E2:zhy} {M M2:Mem},(∀x∈pre,zA7 base x.1 x.2 y.1 y.2)->base<=M.length ->
  zlh cf n0 ((pre++y::post).map (·.1)) E M=some (E2,M2,(pre++y::post).map (·.2))->zlh cf n0 ((y::(pre++post)).map (·.1)) E M=some (E2,M2,(y::(pre++post)).map (·.2))
 |[],E,E2,M,M2,_,_,h=>h
 |x::pre,E,E2,M,M2,hf,hb,h=>by
  simp only[jp,kV]at h;obtain⟨v,M',h1,h2⟩:=zgh.1 h;have:=zxo (pre:=pre) (fun z hz=>hf z (jy _ hz)) (j7 hb (z4L h1)) h2;simp only[jp,kV]at this ⊢;exact swap (hf x (ju ..)) hb (zgh.2 ⟨v,M',h1,this⟩)
def zjn(ops:Array Oper)(i:Nat):List Nat:=match ops[i]? with
 |some o=>zkJ o
 |none=>[]
theorem Zf2{f:Nat->Nat}{a:Nat}:∀{l:List Nat} {s:Nat},(l.foldl (fun s j=>s ||| 2 ^ j ||| f j) s).testBit a=true->s.testBit a=true\/∃d∈l,d=a\/(f d).testBit a=true
 |[],s,h=>.inl h
 |d::l,s,h=>by
  simp only[jT]at h;rcases Zf2 h with h |⟨e,he,h⟩
  ·simp only[Nat.testBit_or,qd,Nat.testBit_two_pow,decide_eq_true_eq]at h;rcases h with(h|h)|h
   ·exact .inl h
   ·exact .inr ⟨d,ju ..,.inl h⟩
   ·exact .inr ⟨d,ju ..,.inr h⟩
  ·exact .inr ⟨e,jy _ he,h⟩
theorem zkX:∀{os:List Oper} {acc:List Nat} {i:Nat},i<acc.length->(vI os acc).getD i 0=acc.getD i 0
 |[],acc,i,h=>rfl
 |o::os,acc,i,h=>by
  simp only[vI];rw[zkX (by simp;omega)];simp[List.getD,jw h]
theorem zol:∀{os:List Oper} {acc:List Nat} {k:Nat} {o:Oper} {a:Nat},os[k]?=some o->((vI os acc).getD (acc.length+k) 0).testBit a=true ->
  ∃d∈zkJ o,d=a\/(d<acc.length+k/\((vI os acc).getD d 0).testBit a=true)
 |[],acc,k,o,a,ho,h=>by simp at ho
 |x::os,acc,0,o,a,ho,h=>by
  simp only[uA,ji]at ho;subst ho;simp only[vI]at h;rw[zkX (by simp)]at h;simp only[kH,List.getD,jX (jq _),Ag,uA,qC]at h;rcases Zf2 h with h |⟨d,hd,h⟩
  ·simp at h
  ·refine⟨d,hd,h.imp id fun h=>?_⟩;have hlt:d<acc.length:=by
    rcases kD d acc.length with hl|hl
    ·exact hl
    ·simp[jK hl]at h
   refine⟨by omega,?_⟩;simp only[vI];rw[zkX (by simp;omega)];simpa [List.getD,jw hlt]using h
 |x::os,acc,k+1,o,a,ho,h=>by
  simp only[List.getElem?_cons_succ]at ho;simp only[vI]at h ⊢;have e:acc.length+(k+1)=(acc++[(zkJ x).foldl (fun s j=>s ||| 2 ^ j ||| acc.getD j 0) 0]).length+k:=by simp;omega
  rw[e]at h;obtain⟨d,hd,h'⟩:=zol ho h;exact⟨d,hd,h'.imp id fun⟨q1,q2⟩=>⟨by rw[e];exact q1,q2⟩⟩
theorem Db{ops:Array Oper}{L:Nat->Prop}(hcl:∀i,i<ops.size->L i->∀d∈zjn ops i,L d):∀(i:Nat) {a:Nat},i<ops.size->(∀d∈zjn ops i,L d)->((vI ops.toList []).getD i 0).testBit a=true->L a:=by
 intro i;induction i using Nat.strongRecOn with
 |_ i ih =>
  intro a hi hd h;have ho:ops.toList[i]?=some ops[i]:=by simp[hi]
  have hde:zjn ops i=zkJ ops[i]:=by simp[zjn,hi]
  have:=zol (acc:=[]) ho (by simpa using h);obtain⟨d,hdm,hh⟩:=this;rw[hde]at hd;have hLd:=hd d hdm;rcases hh with rfl |⟨hlt,hb⟩
  ·exact hLd
  ·simp only[js,jH]at hlt;exact ih d hlt (by omega) (hcl d (by omega) hLd) hb
def zpZ(ops:Array Oper):(Nat->Prop)->List Nat->Prop
 |_,[]=>True
 |L,i::is=>(∀d∈zjn ops i,L d)/\zpZ ops (fun d=>L d\/d=i) is
theorem zpZ.mono{ops:Array Oper}:∀{is:List Nat} {L L':Nat->Prop},(∀d,L d->L' d)->zpZ ops L is->zpZ ops L' is
 |[],_,_,_,_=>trivial
 |i::is,L,L',h,ht=>⟨fun d hd=>h d (ht.1 d hd),zpZ.mono (fun d hd=>hd.imp (h d) id) ht.2⟩
theorem zpZ.remove{ops:Array Oper}{y:Nat}{B:List Nat}:∀{A:List Nat} {L:Nat->Prop},zpZ ops L (A++y::B)->zpZ ops (fun d=>L d\/d=y) (A++B)
 |[],L,h=>h.2
 |i::A,L,h=>⟨fun d hd=>.inl (h.1 d hd),(zpZ.remove (A:=A) h.2).mono fun d hd=>by
   rcases hd with(hd|hd)|hd
   ·exact .inl (.inl hd)
   ·exact .inr hd
   ·exact .inl (.inr hd)⟩
theorem zpe{ops:Array Oper}:∀{is done:List Nat},ztq ops.toList is done=true->zpZ ops (fun d=>d∈done) is
 |[],_,_=>trivial
 |i::is,done,h=>by
  simp only[ztq,jh]at h;refine⟨fun d hd=>?_,(zpe h.2).mono fun d hd=>?_⟩
  ·have h1:=h.1;simp only[zjn]at hd;cases ho:ops[i]? with
   |none=>rw[ho]at hd;cases hd
   |some o =>
    rw[ho]at hd;have ho':ops.toList[i]?=some o:=by simpa using ho
    rw[ho']at h1;have:=jA.1 h1 d hd;simpa using this
  ·rcases jB.1 hd with rfl|hd
   ·exact .inr rfl
   ·exact .inl hd
theorem zoF{ops:Array Oper}{listed:Array Bool}{i:Nat}:i∈Region.ready .any ops listed<->listed.getD i true=false/\i<ops.size/\∀d∈zjn ops i,listed.getD d false=true:=by
 rw[mem_ready];constructor
 ·rintro⟨h1,o,ho,h2⟩;refine⟨h1,(jR.1 ho).1,fun d hd=>?_⟩;simp only[zjn,ho,zkJ,kJ,ui]at hd;obtain⟨e,⟨he,hb⟩,rfl⟩:=hd;exact h2 e (by simpa using he) hb
 ·rintro⟨h1,hi,h2⟩;refine⟨h1,ops[i],by simp[hi],fun e he hb=>?_⟩;refine h2 e.on ?_;simp only[zjn,hi,uh,zkJ,kJ,ui];exact⟨e,⟨by simpa using he,hb⟩,rfl⟩
section
variable{own:Nat->Prop}{P:Program}{cf:za4}{ntmps:Nat}{F:Fence}{n:Nat}{Q:Exit->Act->World->Prop}
theorem zAL(hF:zhz F)(hcf:FnS P cf){ops:Array Oper}{n0 base k:Nat}{σ0:zP}{j0:Inj}{M0:Mem}{w0:World}{E2:zhy}{M2:Mem}{ds:List Deferred}(hk:k<=base)
  (hQ:∀a' w' σ' j',At own σ' j' E2 M2 ntmps a' w'->za2 own k σ0 j0 M0 w0 σ' j' M2 w'->a'.defers=ds->Q .normal a' w') :
  ∀(fuel:Nat) (listed:Array Bool) (xs:List (zaG×FP)) (E:zhy) (M:Mem) (a:Act) (w:World) (σ:zP) (j:Inj),
   xs.length=fuel->listed.size=ops.size->(∀i,i<ops.size->(listed.getD i true=false<->i∈xs.map (·.1.ix)))->(xs.map (·.1.ix)).Nodup->(∀x∈xs,x.1.ix<ops.size/\∃m,zdT P ops.toList m ntmps x.1.ix=some x.1) ->
   xs.Pairwise (fun x y=>((vI ops.toList []).getD y.1.ix 0).testBit x.1.ix=true\/zA7 base x.1 x.2 y.1 y.2) ->
   (∀i,i<ops.size->listed.getD i true=true->∀d∈zjn ops i,listed.getD d false=true)->zpZ ops (fun d=>listed.getD d false=true) (xs.map (·.1.ix)) ->
   zlh cf n0 (xs.map (·.1)) E M=some (E2,M2,xs.map (·.2))->base<=M.length ->
   At own σ j E M ntmps a w->za2 own k σ0 j0 M0 w0 σ j M w->a.defers=ds->wpAnyIn F n P .any ops Q fuel listed a w:=by
 intro fuel;induction fuel with
 |zero =>
  intro listed xs E M a w σ j hlen hsz hx hnd BN hpw hcl Dh qY AF hat hst hds;have hxs:xs=[]:=kA hlen;subst hxs;simp only[qi,zlh,ji,jG]at qY;obtain⟨rfl,rfl,_⟩:=qY;refine⟨?_,hQ a w σ j hat hst hds⟩;apply List.eq_nil_iff_forall_not_mem.2;intro i hi;obtain⟨h1,h2,_⟩:=zoF.1 hi;have:=(hx i h2).1 h1;simp at this
 |succ fuel ih =>
  intro listed xs E M a w σ j hlen hsz hx hnd BN hpw hcl Dh qY AF hat hst hds;refine⟨fun AQ=>?_,fun i hi=>?_⟩
  ·exfalso;cases xs with
   |nil=>simp at hlen
   |cons x xs =>
    have hix:=(BN x (ju ..)).1;have:x.1.ix∈Region.ready .any ops listed:=zoF.2 ⟨(hx _ hix).2 (by simp),hix,Dh.1⟩;rw[AQ]at this;cases this
  ·obtain⟨h1,h2,h3⟩:=zoF.1 hi;obtain⟨y,hy,hyi⟩:=kJ.1 ((hx i h2).1 h1);obtain⟨A,B,rfl⟩:=List.append_of_mem hy;have vg:∀x∈A,zA7 base x.1 x.2 y.1 y.2:=by
    intro x hxA;have:=(jW.1 hpw).2.2 x hxA y (ju ..);refine this.resolve_left fun hb=>?_
    rw[hyi]at hb;have hL:=Db (L:=fun d=>listed.getD d false=true) (fun i hi hl=>by
     refine hcl i hi ?_;rw[show listed.getD i true=listed.getD i false from by simp[Array.getD,hsz,hi]];exact hl) i h2 h3 hb
    have hxl:=(hx x.1.ix (BN x (j6 _ hxA)).1).2 (kJ.2 ⟨x,j6 _ hxA,rfl⟩);have hxs:=(BN x (j6 _ hxA)).1;rw[show listed.getD x.1.ix true=listed.getD x.1.ix false from by simp[Array.getD,hsz,hxs]]at hxl;rw[hL]at hxl;cases hxl
   have hrun':=zxo vg AF qY;simp only[kV]at hrun';obtain⟨v,M',q1,q2⟩:=zgh.1 hrun';obtain⟨_,m,hcm⟩:=BN y (kL _ (ju ..));rw[hyi]at hcm;refine zoz hF hcf hcm q1 hat fun a' w' σ' j' Cz Ct hds'=>?_
   have hMl:=z4L q1;have hperm:∀z,z∈A++B->z∈A++y::B:=fun z hz=>by
    rcases jt.1 hz with h|h
    ·exact j6 _ h
    ·exact kL _ (jy _ h)
   have u0:∀d b,d≠i->(listed.setIfInBounds i true).getD d b=listed.getD d b:=fun d b hd=>by
    simp only[kX];rw[qJ (qK hd)]
   have hgi:∀b,(listed.setIfInBounds i true).getD i b=true:=fun b=>by
    simp only[kX];rw[qP (by rw[hsz];exact h2)];rfl
   have hnd':((A++B).map (·.1.ix)).Nodup/\i∉(A++B).map (·.1.ix):=by
    simp only[uL,kV]at hnd ⊢;rw[hyi]at hnd;have hp:=(v6 (a:=i) (l₁:=A.map (·.1.ix)) (l₂:=B.map (·.1.ix))).nodup_iff.1 hnd;rw[qH]at hp;exact⟨hp.2,hp.1⟩
   refine ih (listed.setIfInBounds i true) (A++B) _ M' a' w' σ' j' (by simp at hlen ⊢;omega) (by simp[hsz]) (fun d hd=>?_) hnd'.1 (fun z hz=>BN z (hperm z hz)) ?_ (fun d hd hl e he=>?_) ?_ q2 (j7 AF hMl) Cz ?_ (hds'.trans hds)
   ·by_cases hdi:d=i
    ·subst hdi;rw[hgi];exact⟨fun h=>(by cases h),fun h=>absurd h hnd'.2⟩
    ·rw[u0 d true hdi,hx d hd];simp only[uL,kV,jt,jB,hyi,hdi,false_or]
   ·exact hpw.sublist (List.Sublist.append (List.Sublist.refl _) (List.sublist_cons_self _ _))
   ·have hed:listed.getD e false=true:=by
     by_cases hdi:d=i
     ·subst hdi;exact h3 e he
     ·rw[u0 d true hdi]at hl;exact hcl d hd hl e he
    by_cases hei:e=i
    ·subst hei;exact hgi false
    ·rw[u0 e false hei];exact hed
   ·have:=zpZ.remove (A:=A.map (·.1.ix)) (y:=i) (B:=B.map (·.1.ix)) (by simpa [hyi]using Dh);simp only[uL];refine this.mono fun d hd=>?_
    rcases hd with hd|rfl
    ·by_cases hdi:d=i
     ·subst hdi;exact hgi false
     ·rw[u0 d false hdi];simpa using hd
    ·exact hgi false
   ·exact hst.trans (Ct.le (j7 hk AF))
end
end Go.Eng
namespace Go.Eng
open Go
variable[zb0]
theorem zqP:∀{N:Nat} {l:List Nat},l.Nodup->(∀x∈l,x<N)->l.length<=N
 |0,l,_,h=>by
  cases l with
  |nil=>exact jq _
  |cons x xs=>exact absurd (h x (ju ..)) (Nat.not_lt_zero _)
 |N+1,l,hn,h=>by
  by_cases hm:N∈l
  ·have h1:=zqP (N:=N) (hn.erase N) (fun x hx=>by
    have h2:=(hn.mem_erase_iff).1 hx;have:=h x h2.2;omega)
   rw[List.length_erase_of_mem hm]at h1;omega
  ·have:=zqP (N:=N) hn (fun x hx=>by
    have h1:=h x hx;have:x≠N:=by rintro rfl;exact hm hx
    omega)
   omega
theorem zCI{N:Nat}{l:List Nat}(hn:l.Nodup)(h:∀x∈l,x<N)(hl:l.length=N){i:Nat}(hi:i<N):i∈l:=by
 by_cases hm:i∈l
 ·exact hm
 ·have:=zqP (N:=N) (qH.2 ⟨hm,hn⟩) (fun x hx=>by
   rcases jB.1 hx with rfl|hx
   ·exact hi
   ·exact h x hx)
  simp only[jm]at this;omega
section
variable{own:Nat->Prop}{P:Program}{cf:za4}{ntmps:Nat}{F:Fence}{n:Nat}{Q:Exit->Act->World->Prop}
theorem zgF{ops:List Oper}{m:Oper->zbz}:∀{is:List Nat} {cs:List zaG},zcL P ops m ntmps is=some cs->cs.length=is.length/\∀(p:Nat) (c:zaG),cs[p]?=some c->∃i,is[p]?=some i/\zdT P ops m ntmps i=some c
 |[],cs,h=>by simp only[zcL,ji]at h;subst h;exact⟨rfl,by simp⟩
 |i::is,cs,h=>by
  simp only[zcL]at h;split at h
  ·rename_i c cs' h1 h2;cases h;obtain⟨e1,e2⟩:=zgF h2;refine⟨by simp[e1],fun p c' hc=>?_⟩;cases p with
   |zero=>simp at hc;subst hc;exact⟨i,rfl,h1⟩
   |succ p=>simpa using e2 p c' (by simpa using hc)
  ·cases h
theorem zgG{ops:Array Oper}{m:Oper->zbz}{i:Nat}{c:zaG}(h:zdT P ops.toList m ntmps i=some c):c.ix=i/\i<ops.size:=by
 obtain⟨o,ho,hi,_⟩:=zjR h;exact⟨hi,(jR.1 ho).1⟩
theorem zpV{ops:Array Oper}{m:Oper->zbz}{is:List Nat}{cs:List zaG}(h:zcL P ops.toList m ntmps is=some cs):cs.map (·.ix)=is:=by
 obtain⟨e1,e2⟩:=zgF h;apply uV;intro p;rw[qG];cases hc:cs[p]? with
 |none =>
  have:is[p]?=none:=by rw[yO]at hc ⊢;omega
  rw[this];rfl
 |some c =>
  obtain⟨i,hi,hci⟩:=e2 p c hc;rw[hi];simp[(zgG hci).1]
theorem zsD(hF:zhz F)(hcf:FnS P cf){ops:Array Oper}{m:Oper->zbz}{n0 k:Nat}{σ0:zP}{j0:Inj}{M0:Mem}{w0:World}{E2:zhy}{M2:Mem}{ds:List Deferred}
  (hQ:∀a' w' σ' j',At own σ' j' E2 M2 ntmps a' w'->za2 own k σ0 j0 M0 w0 σ' j' M2 w'->a'.defers=ds->Q .normal a' w') :
  ∀{is:List Nat} {cs:List zaG} {fs:List FP} {E:zhy} {M:Mem} {a:Act} {w:World} {σ:zP} {j:Inj},zcL P ops.toList m ntmps is=some cs->zlh cf n0 cs E M=some (E2,M2,fs)->k<=M.length ->
   At own σ j E M ntmps a w->za2 own k σ0 j0 M0 w0 σ j M w->a.defers=ds->wpOpsIn F n P ops Q is a w
 |[],cs,fs,E,M,a,w,σ,j,hc,hr,hk,hat,hst,hds=>by
  simp only[zcL,ji]at hc;subst hc;simp only[zlh,ji,jG]at hr;obtain⟨rfl,rfl,_⟩:=hr;exact hQ a w σ j hat hst hds
 |i::is,cs,fs,E,M,a,w,σ,j,hc,hr,hk,hat,hst,hds=>by
  simp only[zcL]at hc;split at hc
  ·rename_i c cs' h1 h2;cases hc;rw[wpOpsIn_cons];cases fs with
   |nil =>
    simp only[zlh]at hr;split at hr
    ·split at hr
     ·cases hr
     ·cases hr
    ·cases hr
   |cons fp fs =>
    obtain⟨v,M',q1,q2⟩:=zgh.1 hr;refine zoz hF hcf h1 q1 hat fun a' w' σ' j' Cz Ct hds'=>?_
    exact zsD hF hcf hQ h2 q2 (j7 hk (z4L q1)) Cz (hst.trans (Ct.le hk)) (hds'.trans hds)
  ·cases hc
theorem zpo{bef:List Nat}{a:zaG}{i:Nat}:∀{r:List zaG} {j p:Nat} {b:zaG},r[p]?=some b->(bef.getD b.ix 0).testBit a.ix=false->¬(a.cls=.pure\/b.cls=.pure\/(a.cls=.load/\b.cls=.load))->(i,j+p)∈znU bef a i j r
 |[],j,p,b,h,_,_=>by simp at h
 |x::r,j,0,b,h,hb,hk=>by
  simp only[uA,ji]at h;subst h;simp only[znU,hb,jI,if_false];simp only[not_or,not_and]at hk;obtain⟨k1,k2,k3⟩:=hk;cases ha:a.cls<;>cases hx:x.cls<;>simp_all
 |x::r,j,p+1,b,h,hb,hk=>by
  have:=zpo (i:=i) (r:=r) (j:=j+1) (p:=p) (by simpa using h) hb hk;have e:j+(p+1)=j+1+p:=by omega
  rw[e];simp only[znU];split
  ·exact this
  ·split<;>first |exact this |exact jy _ this
theorem zuW{bef:List Nat}{base:Nat}{CS:List FP}:∀{cs:List zaG} {fs:List FP} {i:Nat},zqg bef cs=true->(zxr bef i cs).all (zyi base CS)=true->(∀p:Nat,fs[p]?=CS[i+p]?) ->
  (cs.zip fs).Pairwise (fun x y=>(bef.getD y.1.ix 0).testBit x.1.ix=true\/zA7 base x.1 x.2 y.1 y.2)
 |[],fs,i,_,_,_=>by simp
 |a::r,[],i,_,_,_=>by simp
 |a::r,f::fr,i,hc,hp,hfs=>by
  simp only[zqg,jh]at hc;simp only[zxr,List.all_append,jh]at hp;have hfr:∀p:Nat,fr[p]?=CS[(i+1)+p]?:=fun p=>by
   have:=hfs (p+1);rw[show i+(p+1)=i+1+p from by omega]at this;simpa using this
  refine kl.2 ⟨fun y hy=>?_,zuW hc.2 hp.2 hfr⟩;obtain⟨p,hp2⟩:=kd hy;have hp2:(r.zip fr)[p]?=some y:=hp2;rw[List.getElem?_zip_eq_some]at hp2;obtain⟨hb,hfb⟩:=hp2;cases ht:(bef.getD y.1.ix 0).testBit a.ix with
  |true=>exact .inl rfl
  |false =>
   right;have h1:=jA.1 hc.1 y.1 (kF hb);simp only[ht,k7]at h1;refine⟨h1,?_⟩;by_cases hk:(a.cls=.pure\/y.1.cls=.pure\/(a.cls=.load/\y.1.cls=.load))
   ·rcases hk with h|h|h
    ·exact .inl h
    ·exact .inr (.inl h)
    ·exact .inr (.inr (.inl h))
   ·have hm:=zpo (i:=i) (j:=i+1) hb ht hk;have:=jA.1 hp.1 _ hm;simp only[zyi]at this;rw[<-hfr p,hfb]at this;have h0:CS[i]?=some f:=by have:=hfs 0;simpa using this.symm
    rw[h0]at this;simp only[jh]at this;exact .inr (.inr (.inr this))
theorem zuY{n0:Nat}:∀{os:List zaG} {E E2:zhy} {M M2:Mem} {fs:List FP},zlh cf n0 os E M=some (E2,M2,fs)->fs.length=os.length/\M.length<=M2.length
 |[],E,E2,M,M2,fs,h=>by simp only[zlh,ji,jG]at h;obtain⟨_,rfl,rfl⟩:=h;exact⟨rfl,jq _⟩
 |o::os,E,E2,M,M2,fs,h=>by
  simp only[zlh]at h;split at h
  ·rename_i v M' fp h1;split at h
   ·rename_i E3 M3 fs3 h2;cases h;obtain⟨e1,e2⟩:=zuY h2;exact⟨by simp[e1],j7 (z4L h1) e2⟩
   ·cases h
  ·cases h
theorem za2.of_same{k:Nat}{σ:zP}{j:Inj}{M M':Mem}{w w':World}(hM:∀(id:Nat) (b:Blk),M[id]?=some (some b)->M'[id]?=some (some b))(hw:w'.heap=w.heap)(hs:zd9 w w'):za2 own k σ j M w σ j M' w' :=
 ⟨zP.le_refl _,fun _ _ _ _ h=>h,by rw[hw];exact jq _,fun _ _ _=>by rw[hw],fun _ _ _ h=>.inl h,fun id b _ hb=>⟨b,hM id b hb,jq _,fun _=>⟨rfl,fun _ _=>by rw[hw]⟩⟩,hs⟩
theorem ziY(hF:zhz F)(hcf:FnS P cf)(u6:P.follows .mixedOrders=true){an:Ann}{id:Nat}{ops:Array Oper}{draw:Bool}{nA:Nat}{cs:List zaG}{prs:List (Nat×Nat)}
  (hc:zeP P an ntmps id ops.toList draw=some (nA,cs,prs)) {E E':Env} {M M':Mem} {fs:List FP} (hr:zks cf M.length cs E (M++qF nA)=some (E',M',fs)) (hp:prs.all (zyi (M.length+nA) fs)=true)
  {σ:zP} {j:Inj} {a:Act} {w:World} (hat:At own σ j E.get M ntmps a w)
  (hQ:∀a' w' σ' j',At own σ' j' E'.get M' ntmps a' w'->za2 own M.length σ j M w σ' j' M' w'->M.length<=M'.length->a'.defers=a.defers->Q .normal a' w'):(Code.region id ops draw).wpIn F n P Q a w:=by
 have hG:=zxv hr;obtain⟨hfl,hlen⟩:=zuY hG;simp only[jr]at hlen;have hholes:(qF nA).length=nA:=by simp[qF]
 have Aq:∀w1:World,w1.heap=w.heap->At own σ j E.get (M++qF nA) ntmps a w1:=fun w1 hw =>
  ⟨hat.env,hat.size,hat.marks.heap hw,hat.ya.same hw,(hat.mem.qF nA).same hw,fun b hb=>hat.own b (by rw[<-hw];exact hb)⟩
 have yp:∀w1:World,w1.heap=w.heap->zd9 w w1->za2 own M.length σ j M w σ j (M++qF nA) w1:=fun w1 hw=>za2.of_same (fun id b hb=>by rw[jw (zC hb)];exact hb) hw
 have hQ':∀a' w' σ' j',At own σ' j' E'.get M' ntmps a' w'->za2 own M.length σ j M w σ' j' M' w'->a'.defers=a.defers->Q .normal a' w':=fun a' w' σ' j' h1 h2 h3=>hQ a' w' σ' j' h1 h2 (by omega) h3
 unfold zeP at hc;dsimp only at hc;cases draw with
 |false =>
  simp only[jI,if_false]at hc;split at hc
  ·rename_i cs' hcs;cases hc;refine wpIn_region ?_;have hrange:List.range ops.toList.length=List.range ops.size:=by simp
   rw[hrange]at hcs;exact zsD hF hcf hQ' hcs hG (by simp) (Aq w rfl) (yp w rfl (zd9.refl _)) rfl
  ·cases hc
 |true =>
  simp only[if_true]at hc;split at hc
  ·rename_i cs' hcs;split at hc
   ·rename_i hok;cases hc;simp only[jh,decide_eq_true_eq]at hok;obtain⟨⟨⟨o1,o2⟩,o3⟩,o4⟩:=hok;refine wpIn_region_any u6 ?_;obtain⟨l1,l2⟩:=zgF hcs;have hix:=zpV hcs;have hzl:(cs.zip fs).map (·.1)=cs:=by rw[List.map_fst_zip];omega
    have hzr:(cs.zip fs).map (·.2)=fs:=by rw[List.map_snd_zip];omega
    have hzi:(cs.zip fs).map (·.1.ix)=schedule ops.toList ops.toList.length []:=by
     have:(cs.zip fs).map (·.1.ix)=((cs.zip fs).map (·.1)).map (·.ix):=by rw[List.map_map];rfl
     rw[this,hzl,hix]
    have hnd:=zgy o2;have AL:∀c∈cs,∃i,i∈schedule ops.toList ops.toList.length []/\zdT P ops.toList an.mode ntmps i=some c:=fun c hcm=>by
     obtain⟨p,hp⟩:=kd hcm;obtain⟨i,hi,hci⟩:=l2 p c hp;exact⟨i,kF hi,hci⟩
    have vo:∀i,i<ops.size->i∈schedule ops.toList ops.toList.length []:=by
     have C1:∀i∈schedule ops.toList ops.toList.length [],i<ops.size:=by
      intro i hi;rw[<-hix]at hi;obtain⟨c,hcm,rfl⟩:=kJ.1 hi;obtain⟨i',_,hci⟩:=AL c hcm;rw[(zgG hci).1];exact(zgG hci).2
     intro i hi;exact zCI hnd C1 (by rw[o1];simp) hi
    refine zAL hF hcf (base:=M.length+zgO ops.toList ops.toList.length) (by omega) hQ' ops.size (Array.replicate ops.size false) (cs.zip fs) E.get _ a _ σ j ?_ (by simp) (fun i hi=>?_) (by rw[hzi];exact hnd) (fun x hx=>?_) (zuW o4 hp (fun p=>by simp)) (fun i hi h=>?_) ?_ (by rw[hzl,hzr];exact hG) (by simp[qF]) (Aq _ rfl) (yp _ rfl ⟨rfl,rfl,rfl,by first |exact jq _ |exact uj _⟩) rfl
    ·simp only[List.length_zip,hfl,Nat.min_self];rw[l1,o1];simp
    ·rw[hzi];have:=vo i hi;simp only[Array.length_toList]at this ⊢;simp[Array.getD,hi,this]
    ·have hxm:x.1∈cs:=by rw[<-hzl];exact kJ.2 ⟨x,hx,rfl⟩
     obtain⟨i,_,hci⟩:=AL _ hxm;have:=zgG hci;exact⟨by rw[this.1];exact this.2,_,by rw[this.1];exact hci⟩
    ·simp[Array.getD,hi]at h
    ·rw[hzi];exact(zpe o3).mono fun d hd=>by cases hd
   ·cases hc
  ·cases hc
end
end Go.Eng
namespace Go.Eng
open Go
variable[zb0]
section
variable{own:Nat->Prop}{P:Program}{σ:zP}{j:Inj}{M:Mem}{a:Act}{w:World}{ntmps:Nat}
theorem zjB{id l:Nat}{r:Loop}{f:FuncId}{sh:List (Nat×Bool×Nat)}{b:Blk}(hm:MR own σ j M w)(hj:j id 0=some (.rnd l r f sh))(hl:look M id 0=some b):M[id]?=some (some b)/\b.gen=0/\RB σ j b l r f sh w:=by
 obtain⟨h1,h2⟩:=zaz hl;obtain⟨pl,h3,h4,_⟩:=hm.yh id b h1;rw[<-h2,hj]at h3;cases h3;exact⟨h1,h2.symm,h4⟩
theorem zsJ{id:Nat}{s:Int}(h:jU M id=some s):∃b cells,look M id 0=some b/\b.rows=[.int .i64 s::cells]/\zxb M id=some cells:=by
 unfold jU at h;split at h
 ·rename_i b hb;split at h
  ·rename_i t cells hr;cases h;exact⟨b,cells,hb,hr,by simp[zxb,hb,hr]⟩
  ·cases h
 ·cases h
theorem zg0{id:Nat}{s s':Int}{M':Mem}(h:zsR M id s s'=some M'):∃b cells,look M id 0=some b/\b.rows=[.int .i64 s::cells]/\M'=M.set id (some { b with rows:=[.int .i64 s'::cells],ver:=b.ver+1 }):=by
 unfold zsR at h;split at h
 ·rename_i b hb;split at h
  ·rename_i t cells hr;split at h
   ·rename_i ht;cases h;subst ht;exact⟨b,cells,hb,hr,rfl⟩
   ·cases h
  ·cases h
 ·cases h
theorem znk{id l:Nat}{r:Loop}{f:FuncId}{sh:List (Nat×Bool×Nat)}{s s':Int}{M':Mem}{pd:Option Code}(hag:zM σ w)(hm:MR own σ j M w)(hj:j id 0=some (.rnd l r f sh))(h:zsR M id s s'=some M')(hpd:s'≠-1->pd=zqM s') :
  zM σ (w.putObj l (.loop { r with state:=zfS s',pending:=pd }))/\MR own σ j M' (w.putObj l (.loop { r with state:=zfS s',pending:=pd })) /\
  za2 own M.length σ j M w σ j M' (w.putObj l (.loop { r with state:=zfS s',pending:=pd })):=by
 obtain⟨b,cells,hlk,AP,rfl⟩:=zg0 h;obtain⟨hb,hg,hrb⟩:=zjB hm hj hlk;obtain⟨s0,DA,pd0,vs,h1,h2,h3,h4,h5⟩:=hrb.st;rw[AP]at h1;cases h1;have hlt:=zC hb;have hll:l<w.heap.size:=(jR.1 h2).1;have Af:∀k,k≠l->(w.putObj l (.loop { r with state:=zfS s',pending:=pd })).heap[k]?=w.heap[k]?:=fun k hk=>World.putObj_heap_other hk
 have hjb:j id b.gen=some (.rnd l r f sh):=by rw[hg];exact hj
 have hne:∀k x q,k≠id->M[k]?=some (some x)->j.atk k x.gen=some q->q≠l:=fun k x q hk hx hq e=>hk (hm.vR k id x b q hx hb hq (by rw[e];exact Inj.CT hjb))
 have get:∀k x,(M.set id (some { b with rows:=[.int .i64 s'::cells],ver:=b.ver+1 }))[k]?=some (some x)->(k=id/\x={ b with rows:=[.int .i64 s'::cells],ver:=b.ver+1 })\/(k≠id/\M[k]?=some (some x)):=by
  intro k x hx;rw[uU]at hx;by_cases hk:id=k
  ·subst hk;simp[hlt]at hx;exact .inl ⟨rfl,hx.symm⟩
  ·rw[if_neg hk]at hx;exact .inr ⟨fun e=>hk e.symm,hx⟩
 refine⟨?_,⟨fun k x hx=>?_,fun k k' x x' q hx hx' hq hq'=>?_,fun k g pl hk=>?_,hm.okP⟩,?_⟩
 ·refine⟨?_,hag.qw⟩;intro k o v hv;have hold:=hag.cells k o v hv;have hk:k≠l:=by
   rintro rfl;simp[World.cell?,h2]at hold
  simpa [World.cell?,Af k hk]using hold
 ·rcases get k x hx with⟨rfl,rfl⟩ |⟨hk,hx⟩
  ·obtain⟨pl,hpl,_,ho⟩:=hm.yh k b hb;rw[hjb]at hpl;cases hpl;exact⟨_,hjb,(⟨hrb.box,hrb.ok,s',cells,pd,vs,rfl,World.putObj_heap_same hll,hpd,h4,h5⟩:RB σ j { b with rows:=[.int .i64 s'::cells],ver:=b.ver+1 } l r f sh _),ho⟩
  ·obtain⟨pl,hpl,hbr,ho⟩:=hm.yh k x hx;exact⟨pl,hpl,hbr.mono (zP.le_refl _) (Inj.le_refl _) (fun q e=>Af q (hne k x q hk hx (Inj.yC hpl e))) (fun _ _ _ h _ _=>h),ho⟩
 ·rcases get k x hx with⟨rfl,rfl⟩ |⟨hk,hx1⟩<;>rcases get k' x' hx' with⟨rfl,rfl⟩ |⟨hk',B9⟩
  ·rfl
  ·exact hm.vR k k' b x' q hb B9 hq hq'
  ·exact hm.vR k k' x b q hx1 hb hq hq'
  ·exact hm.vR k k' x x' q hx1 B9 hq hq'
 ·obtain⟨x,hx,hgx⟩:=hm.dom k g pl hk;by_cases hki:id=k
  ·subst hki;rw[hb]at hx;cases hx;exact⟨{ b with rows:=[.int .i64 s'::cells],ver:=b.ver+1 },by simp[hlt],hgx⟩
  ·exact⟨x,by rw[jJ hki];exact hx,hgx⟩
 ·have k8:own l:=hm.CV hb (Inj.CT hjb);refine⟨zP.le_refl _,fun _ _ _ _ h=>h,by simp,fun k _ ho=>Af k (fun e=>ho (e ▸ k8)),fun _ _ _ h=>.inl h,fun k x hk hx=>?_,⟨rfl,rfl,rfl,jq _⟩⟩
  ·by_cases hki:id=k
   ·subst hki;rw[hb]at hx;cases hx;exact⟨{ b with rows:=[.int .i64 s'::cells],ver:=b.ver+1 },by simp[hlt],by simp,fun h=>by simp at h⟩
   ·exact⟨x,by rw[jJ hki];exact hx,jq _,fun _=>⟨rfl,fun q hq=>Af q (hne k x q (qK hki) hx hq)⟩⟩
theorem zvy{tmps:Array Value}:∀{sh:List (Nat×Bool×Nat)} {cells:List Cl} {vs:List Value} {E0:Env},Av sh cells=some E0->VCs σ j cells vs->zCb tmps sh vs->zcs σ j E0.get tmps
 |[],cells,vs,E0,h,hv,hc=>by
  simp only[Av,ji]at h;subst h;intro n x hx;simp[Env.get]at hx
 |(n,g,k)::sh,cells,vs,E0,h,hv,hc=>by
  simp only[Av]at h;split at h
  ·rename_i v E h1 h2;cases h;obtain⟨hc1,hc2⟩:=hc;have ih:=zvy h2 (hv.drop k) hc2;intro m x hx;simp only[Env.get]at hx;split at hx
   ·rename_i hm;cases hx;subst hm;cases g with
    |true =>
     simp only[zaI,if_true,ji]at h1;subst h1;simp only[if_true]at hc1;exact⟨_,hc1,_,rfl,by simpa using hv.take k⟩
    |false =>
     simp only[jI,if_false]at hc1;obtain⟨rfl,hc1⟩:=hc1;simp only[zaI,jI,if_false]at h1;cases cells with
     |nil=>simp at h1
     |cons y ys =>
      simp only[List.take_succ_cons,List.take_zero]at h1;cases h1;obtain⟨u,us,rfl,hu,_⟩:=hv.qM;exact⟨u,by simpa using hc1,hu⟩
   ·exact ih m x hx
  ·cases h
theorem zrw{tmps:Array Value}{E:Env}(hE:zcs σ j E.get tmps):∀caps:List Nat,∃vs,VCs σ j (zeN E caps).2 vs/\zCb tmps (zeN E caps).1 vs
 |[]=>⟨[],VCs.nil,trivial⟩
 |n::ns=>by
  obtain⟨vs,h1,h2⟩:=zrw hE ns;simp only[zeN];split
  ·rename_i x hx;obtain⟨u,hu,hr⟩:=hE n _ hx;have hr:VC σ j x u:=hr;exact⟨u::vs,VCs.cons hr h1,⟨rfl,by simpa using hu⟩,by simpa using h2⟩
  ·rename_i cs hx;obtain⟨u,hu,arr,rfl,hr⟩:=hE n _ hx;have hl:cs.length=arr.toList.length:=hr.1;refine⟨arr.toList++vs,hr.append h1,?_,?_⟩
   ·simp only[if_true];rw[hu,hl,List.take_left]
   ·rw[hl,List.drop_left];exact h2
  ·exact⟨vs,h1,h2⟩
theorem zqN{E0:Env}:∀{ps:List Nat} {as:List WV} {vs:List Value} {tmps:Array Value},ps.Nodup->(∀p∈ps,p<tmps.size)->as.length=ps.length->zac σ j as vs->zcs σ j E0.get tmps ->
  zcs σ j (zv3 ps as++E0).get ((ps.zip vs).foldl (fun t (x:Nat×Value)=>t.setIfInBounds x.1 x.2) tmps)/\((ps.zip vs).foldl (fun t (x:Nat×Value)=>t.setIfInBounds x.1 x.2) tmps).size=tmps.size /\
   ∀k,k∉ps->((ps.zip vs).foldl (fun t (x:Nat×Value)=>t.setIfInBounds x.1 x.2) tmps)[k]?=tmps[k]?
 |[],as,vs,tmps,hn,hp,hl,hv,hE=>by
  cases as with
  |cons=>simp at hl
  |nil=>exact⟨by simpa [zv3]using hE,by simp,fun k _=>by simp⟩
 |p::ps,as,vs,tmps,hn,hp,hl,hv,hE=>by
  cases as with
  |nil=>simp at hl
  |cons x as =>
   obtain⟨v,vs',rfl,h1,h2⟩:=hv.qM;obtain⟨hnp,hn'⟩:=qH.1 hn;have key:∀(E1:Env),zcs σ j E1.get (tmps.setIfInBounds p v)->zcs σ j (zv3 ps as++E1).get ((ps.zip vs').foldl (fun t (x:Nat×Value)=>t.setIfInBounds x.1 x.2) (tmps.setIfInBounds p v)) /\
     ((ps.zip vs').foldl (fun t (x:Nat×Value)=>t.setIfInBounds x.1 x.2) (tmps.setIfInBounds p v)).size=(tmps.setIfInBounds p v).size/\∀k,k∉ps->((ps.zip vs').foldl (fun t (x:Nat×Value)=>t.setIfInBounds x.1 x.2) (tmps.setIfInBounds p v))[k]?=(tmps.setIfInBounds p v)[k]? :=
    fun E1 hE1=>zqN hn' (fun q hq=>by simpa using hp q (jy _ hq)) (by simpa using hl) h2 hE1
   have hpt:p<tmps.size:=hp p (ju ..);have hE1:zcs σ j (Env.get (E0.filter (fun(x:Nat×AV)=>x.1 !=p))) (tmps.setIfInBounds p v):=by
    intro m y hy;have:m≠p/\E0.get m=some y:=by
     clear key hE;induction E0 with
     |nil=>simp[Env.get]at hy
     |cons e E0 ih =>
      simp only[vd]at hy;split at hy
      ·rename_i hep;simp only[Env.get]at hy ⊢;split at hy
       ·rename_i hem;cases hy;subst hem;exact⟨by simpa using hep,by simp⟩
       ·rename_i hem;rw[if_neg hem];exact ih hy
      ·rename_i hep;obtain⟨q1,q2⟩:=ih hy;refine⟨q1,?_⟩;simp only[Env.get];rw[if_neg]
       ·exact q2
       ·intro e';exact q1 (by rw[<-e'];simpa using hep)
    obtain⟨u,hu,hr⟩:=hE m y this.2;exact⟨u,by rw[qJ (qK this.1)];exact hu,hr⟩
   obtain⟨q1,q2,q3⟩:=key _ hE1;refine⟨?_,by simpa using q2,fun k hk=>?_⟩
   ·intro m y hy;simp only[zv3,jp,Env.get]at hy;simp only[List.zip_cons_cons,jT];split at hy
    ·rename_i hm;cases hy;subst hm;exact⟨v,by rw[q3 p hnp,qP hpt],h1⟩
    ·rename_i hm;refine q1 m y ?_;have gen:∀(Z:Env),Env.get (Z++E0) m=some y->Env.get (Z++E0.filter (fun(x:Nat×AV)=>x.1 !=p)) m=some y:=by
      intro Z;induction Z with
      |nil =>
       simp only[jk];clear key q1 q2 q3 hE hE1 hy;induction E0 with
       |nil=>exact fun h=>h
       |cons e E0 ih =>
        intro h;simp only[Env.get]at h;simp only[vd];split at h
        ·rename_i hem;cases h;have:(e.1 !=p)=true:=by rw[hem];simpa using qK hm
         rw[if_pos this];simp[Env.get,hem]
        ·rename_i hem;split
         ·simp only[Env.get];rw[if_neg hem];exact ih h
         ·exact ih h
      |cons z Z ih =>
       intro h;simp only[jp,Env.get]at h ⊢;split at h
       ·rename_i hz;rw[if_pos hz];exact h
       ·rename_i hz;rw[if_neg hz];exact ih h
     exact gen _ hy
   ·simp only[jB,not_or]at hk;simp only[List.zip_cons_cons,jT];rw[q3 k hk.2,qJ (qK hk.1)]
theorem zxR(ps:Array Nat)(vs:Array Value)(tmps:Array Value):(ps.zip vs).foldl (fun(tmps:Array Value) (x:Nat×Value)=>tmps.setIfInBounds x.1 x.2) tmps=(ps.toList.zip vs.toList).foldl (fun t (x:Nat×Value)=>t.setIfInBounds x.1 x.2) tmps:=by
 rw[<-Array.foldl_toList];simp
theorem zd9.B6{w w':World}{o:Obj}(h:w'.heap=w.heap.push o)(ho:w'.os=w.os)(hp:w'.output=w.output)(hno:∀C T f,o≠.cells C T f)(ht:w'.tape=w.tape:=by rfl)(hd:w.drawn<=w'.drawn:=by first |exact jq _ |exact uj _):zd9 w w':=by
 exact⟨ho,hp,ht,hd⟩
theorem zBE{r:Loop}{f:FuncId}{caps:List Nat}{E:Env}(hst:r.state=.ready)(hpd:r.pending=none)(hok:zb0.ok f r)(hE:zcs σ j E.get r.tmps)(hag:zM σ w)(hm:MR own σ j M w)(k8:∀b,w.heap.size<=b->own b) :
  ∃j',j' M.length 0=some (.rnd (w.heap.size+1) r f (zeN E caps).1)/\zM σ ((w.alloc (.deferred (some []))).alloc (.loop r))/\MR (fun k=>own k/\k≠w.heap.size) σ j' (M++[some (ghost (zeN E caps).2)]) ((w.alloc (.deferred (some []))).alloc (.loop r)) /\
   za2 own M.length σ j M w σ j' (M++[some (ghost (zeN E caps).2)]) ((w.alloc (.deferred (some []))).alloc (.loop r)):=by
 generalize hw1:(w.alloc (.deferred (some []))).alloc (.loop r)=w1;have vn:w1.heap=(w.heap.push (.deferred (some []))).push (.loop r):=by rw[<-hw1];rfl
 have hold:∀k,k<w.heap.size->w1.heap[k]?=w.heap[k]?:=fun k hk=>by
  rw[vn,qX,if_neg (by simp;omega),qX,if_neg (by omega)]
 have hl:w1.heap[w.heap.size+1]?=some (.loop r):=by
  rw[vn,qX,if_pos (by simp)]
 have Dj:zd9 w w1:=by
  rw[<-hw1];exact(zd9.B6 (w':=w.alloc (.deferred (some []))) rfl rfl rfl (by intro C T f h;cases h)).trans (zd9.B6 (w':=(w.alloc (.deferred (some []))).alloc (.loop r)) rfl rfl rfl (by intro C T f h;cases h))
 have yy:(M++qF 1)[M.length]?=some none:=by simp[qF]
 have hlt:M.length<(M++qF 1).length:=by simp[qF]
 have v9:(M++qF 1).set M.length (some (ghost (zeN E caps).2))=M++[some (ghost (zeN E caps).2)]:=by simp[qF]
 obtain⟨vs,hvs,hcv⟩:=zrw hE caps;have hm0:MR (fun k=>own k/\k≠w.heap.size) σ j (M++qF 1) w:=(hm.BG (fun b hb ho=>⟨ho,by omega⟩)).qF 1;have vm:j M.length 0=none:=by
  cases h:j M.length 0 with
  |none=>rfl
  |some pl=>exact absurd (hm.lt h) (uo _)
 have hle:=Inj.AY (pl:=.rnd (w.heap.size+1) r f (zeN E caps).1) vm;obtain⟨_,hm1⟩:=hm0.renew (w':=w1) (id:=M.length) (b':=ghost (zeN E caps).2) (pl':=.rnd (w.heap.size+1) r f (zeN E caps).1) hlt (fun b hb=>by rw[yy]at hb;cases hb)
  (fun k b q _ hb hq=>by
   have:=hm0.u7 hb hq;exact⟨hold q this,fun e=>by cases e;omega⟩)
  (⟨rfl,hok,0,(zeN E caps).2,none,vs,rfl,by rw[hl];obtain⟨st,pd,_⟩:=r;cases hst;cases hpd;rfl,fun _=>rfl,hvs.mono (zP.le_refl _) hle,hcv⟩:RB σ _ (ghost (zeN E caps).2) _ r f _ w1)
  (fun k e=>by cases e;exact⟨k8 _ (by omega),by omega⟩)
 rw[v9]at hm1;refine⟨_,Inj.vW _ _ _ _,hag.BH (fun b o v hv=>hold b (hag.lt hv)),hm1,zP.le_refl _,fun id g pl _ h=>hle id g pl h,by rw[vn];simp;omega,fun k hk _=>hold k hk,fun _ _ _ h=>.inl h,fun id b hid hb=>⟨b,?_,jq _,fun _=>⟨rfl,fun q hq=>hold q (hm.u7 hb hq)⟩⟩,Dj⟩;rw[jw hid];exact hb
end
end Go.Eng
namespace Go.Eng
open Go
section
variable[GlobP]
def zae(K:FuncId->Array Tmp->Code->Code->Nat->Prop)(P:Program)(an:Ann)(ntmps:Nat):Code->CC->Prop
 |.skip,.skip=>True
 |.region id ops draw,.region nA cs prs _=>zeP P an ntmps id ops.toList draw=some (nA,cs,prs)
 |.seq a b,.seq a' b'=>zae K P an ntmps a a'/\zae K P an ntmps b b'
 |.cond c a b,.cond c' a' b'=>za5 c=some c'/\zae K P an ntmps a a'/\zae K P an ntmps b b'
 |.block id b,.block id' b'=>id=id'/\zae K P an ntmps b b'
 |.loop b,.loop _ b'=>zae K P an ntmps b b'
 |.exit id,.exit id'=>id=id'
 |.ret,.ret=>True
 |.label _,.skip=>True
 |.scope b,.seq b' c'=>c'=.skip/\zae K P an ntmps b b'
 |.rangeFunc g ps a b,.rng f v _=>za5 g=some f/\K v ps a b ntmps
 |_,_=>False
def noK:FuncId->Array Tmp->Code->Code->Nat->Prop:=fun _ _ _ _ _=>False
def zAN(P:Program)(T:FuncId->Option CFn)(v:FuncId)(ps:Array Tmp)(a b:Code)(n:Nat):Prop :=
 ∃c pre an,T v=some c/\c.rnd=some (ps.toList,pre)/\zae noK P an n a pre/\zae noK P an n b c.code/\ps.toList.Nodup/\∀p∈ps.toList,p<n
end
variable[zb0]
theorem zae.mono{K K':FuncId->Array Tmp->Code->Code->Nat->Prop}{P:Program}{an:Ann}{ntmps:Nat}(hK:∀v ps a b,K v ps a b ntmps->K' v ps a b ntmps):∀{c:Code} {cc:CC},zae K P an ntmps c cc->zae K' P an ntmps c cc
 |.skip,cc,h=>by cases cc<;>simp only[zae]at h ⊢
 |.region ..,cc,h=>by cases cc<;>simp only[zae]at h ⊢;exact h
 |.seq a b,cc,h=>by cases cc<;>simp only[zae]at h ⊢;exact⟨zae.mono hK h.1,zae.mono hK h.2⟩
 |.cond c a b,cc,h=>by cases cc<;>simp only[zae]at h ⊢;exact⟨h.1,zae.mono hK h.2.1,zae.mono hK h.2.2⟩
 |.block id b,cc,h=>by cases cc<;>simp only[zae]at h ⊢;exact⟨h.1,zae.mono hK h.2⟩
 |.loop b,cc,h=>by cases cc<;>simp only[zae]at h ⊢;exact zae.mono hK h
 |.exit id,cc,h=>by cases cc<;>simp only[zae]at h ⊢;exact h
 |.ret,cc,h=>by cases cc<;>simp only[zae]at h ⊢
 |.label l,cc,h=>by cases cc<;>simp only[zae]at h ⊢
 |.rangeFunc g ps a b,cc,h=>by cases cc<;>simp only[zae]at h ⊢;exact⟨h.1,hK _ _ _ _ h.2⟩
 |.goto l,cc,h=>by cases cc<;>simp only[zae]at h
 |.scope b,cc,h=>by cases cc<;>simp only[zae]at h ⊢;exact⟨h.1,zae.mono hK h.2⟩
theorem zfr:∀c:Code,(rfs c).length=zeV c
 |.seq a b=>by simp[rfs,zeV,zfr a,zfr b]
 |.cond c a b=>by simp[rfs,zeV,zfr a,zfr b]
 |.block id b=>by simp[rfs,zeV,zfr b]
 |.loop b=>by simp[rfs,zeV,zfr b]
 |.scope b=>by simp[rfs,zeV,zfr b]
 |.rangeFunc g ps a b=>by simp[rfs,zeV]
 |.skip=>rfl
 |.region ..=>rfl
 |.exit _=>rfl
 |.ret=>rfl
 |.label _=>rfl
 |.goto _=>rfl
 |.refuse _=>rfl
theorem zdt{K:FuncId->Array Tmp->Code->Code->Nat->Prop}{P:Program}{an:Ann}{ntmps:Nat}:∀{vf:Option FuncId} {c:Code} {cc:CC},zbj P an ntmps vf c=some cc ->
  (∀v i x,vf=some v->(rfs c)[i]?=some x->K (v+i) x.1 x.2.1 x.2.2 ntmps)->zae K P an ntmps c cc
 |vf,.skip,cc,h,hK=>by simp only[zbj,ji]at h;subst h;trivial
 |vf,.region id ops draw,cc,h,hK=>by
  simp only[zbj]at h;split at h
  ·rename_i h1;cases h;exact h1
  ·cases h
 |vf,.seq a b,cc,h,hK=>by
  simp only[zbj]at h;split at h
  ·rename_i a' b' h1 h2;cases h;refine⟨zdt h1 fun v i x hv hx=>hK v i x hv (by simp only[rfs];rw[jw (by have:=zC hx;exact this)];exact hx),zdt h2 fun v i x hv hx=>?_⟩;simp only[jb]at hv;obtain⟨v0,hv0,rfl⟩:=hv;have:=hK v0 (zeV a+i) x hv0 (by simp only[rfs];rw[jX (by rw[zfr];omega),zfr];simpa using hx)
   rwa [<-kU]at this
  ·cases h
 |vf,.cond c a b,cc,h,hK=>by
  simp only[zbj]at h;split at h
  ·rename_i c' a' b' h0 h1 h2;cases h;refine⟨h0,zdt h1 fun v i x hv hx=>hK v i x hv (by simp only[rfs];rw[jw (by have:=zC hx;exact this)];exact hx),zdt h2 fun v i x hv hx=>?_⟩;simp only[jb]at hv;obtain⟨v0,hv0,rfl⟩:=hv;have:=hK v0 (zeV a+i) x hv0 (by simp only[rfs];rw[jX (by rw[zfr];omega),zfr];simpa using hx)
   rwa [<-kU]at this
  ·cases h
 |vf,.block id b,cc,h,hK=>by
  simp only[zbj,jb]at h;obtain⟨b',h1,rfl⟩:=h;exact⟨rfl,zdt h1 hK⟩
 |vf,.loop b,cc,h,hK=>by
  simp only[zbj,jb]at h;obtain⟨b',h1,rfl⟩:=h;have:=zdt h1 hK;exact this
 |vf,.exit id,cc,h,hK=>by simp only[zbj,ji]at h;subst h;exact rfl
 |vf,.ret,cc,h,hK=>by simp only[zbj,ji]at h;subst h;trivial
 |vf,.label l,cc,h,hK=>by simp only[zbj,ji]at h;subst h;trivial
 |vf,.goto l,cc,h,hK=>by simp[zbj]at h
 |vf,.scope b,cc,h,hK=>by
  simp only[zbj,jb]at h;obtain⟨b',h1,rfl⟩:=h;exact⟨rfl,zdt h1 hK⟩
 |vf,.refuse b,cc,h,hK=>by simp[zbj]at h
 |vf,.rangeFunc g ps a b,cc,h,hK=>by
  simp only[zbj]at h;split at h
  ·rename_i v f a' b' hf h1 h2;cases h;have:=hK v 0 (ps,a,b) rfl rfl;exact⟨hf,this⟩
  ·cases h
theorem zfQ{K:FuncId->Array Tmp->Code->Code->Nat->Prop}{P:Program}{an:Ann}{ntmps:Nat}:∀{c:Code} {cc:CC} {l:List Nat} {ex:List (Nat×List Nat)} {rt:List Nat},zae K P an ntmps c cc->zae K P an ntmps c (annot cc l ex rt)
 |c,.skip,l,ex,rt,h=>by simpa only[annot]using h
 |c,.region nA cs prs k,l,ex,rt,h=>by cases c<;>simp only[zae,annot]at h ⊢;exact h
 |c,.seq a b,l,ex,rt,h=>by
  cases c<;>simp only[zae,annot]at h ⊢
  ·exact⟨zfQ h.1,zfQ h.2⟩
  ·obtain⟨rfl,h⟩:=h;exact⟨rfl,zfQ h⟩
 |c,.cond x a b,l,ex,rt,h=>by cases c<;>simp only[zae,annot]at h ⊢;exact⟨h.1,zfQ h.2.1,zfQ h.2.2⟩
 |c,.block i b,l,ex,rt,h=>by cases c<;>simp only[zae,annot]at h ⊢;exact⟨h.1,zfQ h.2⟩
 |c,.loop k b,l,ex,rt,h=>by cases c<;>simp only[zae,annot]at h ⊢;exact zfQ h
 |c,.exit i,l,ex,rt,h=>by simpa only[annot]using h
 |c,.ret,l,ex,rt,h=>by simpa only[annot]using h
 |c,.rng f v caps,l,ex,rt,h=>by simpa only[annot]using h
theorem zn1{E:Env}{n:Nat}{v:AV}:∀{l:List Nat},(E.vw l).get n=some v->E.get n=some v
 |[],h=>by simp[Env.vw,Env.get]at h
 |m::l,h=>by
  simp only[Env.vw]at h;split at h
  ·rename_i x hu;simp only[Env.get]at h;split at h
   ·rename_i hmn;cases h;subst hmn;exact hu
   ·exact zn1 h
  ·exact zn1 h
theorem zAg{E:Env}{n:Nat}{v:AV}{k:Option (List Nat)}(h:(E.kept k).get n=some v):E.get n=some v:=by
 cases k with
 |none=>exact h
 |some l=>exact zn1 h
theorem zBK{E:Env}{n:Nat}{v:AV}(h:E.get n=some v):(n,v)∈E:=by
 induction E with
 |nil=>simp[Env.get]at h
 |cons x E ih =>
  obtain⟨m,y⟩:=x;simp only[Env.get]at h;split at h
  ·rename_i hmn;cases h;subst hmn;exact ju ..
  ·exact jy _ (ih h)
section
variable{own:Nat->Prop}{P:Program}{cf:za4}{ntmps:Nat}{F:Fence}{n:Nat}{Q:Exit->Act->World->Prop}{σ:zP}{j:Inj}{M:Mem}{a:Act}{w:World}
theorem At.sub{E E':zhy}(h:At own σ j E M ntmps a w)(hs:∀n v,E' n=some v->E n=some v):At own σ j E' M ntmps a w :=
 ⟨fun n x hx=>h.env n x (hs n x hx),h.size,h.marks,h.ya,h.mem,h.own⟩
def zw5(k:Nat)(j:Inj):Inj:=fun id g=>if id<k then j id g else none
theorem zw3{E:Env}{k:Nat}(h:At own σ j E.get M ntmps a w)(hk:k<=M.length):∃j',At own σ j' E.get (jN k E M) ntmps a w/\za2 own k σ j M w σ j' (jN k E M) w/\k<=(jN k E M).length:=by
 unfold jN;split
 ·exact⟨j,h,za2.refl,hk⟩
 ·split
  ·rename_i hb;simp only[jh]at hb;let ρ:Nat->Option Nat:=fun id=>if id<k then some id else none
   have hkb:zbs ρ k:=fun id hid=>by simp[ρ,hid]
   have Bm:zi8 ρ j (zw5 k j):=by
    intro id id' g pl h1 h2;simp only[ρ]at h1;split at h1
    ·rename_i hid;cases h1;simp[zw5,hid,h2]
    ·cases h1
   have get:∀(id:Nat) (b:Blk),(M.take k)[id]?=some (some b)->id<k/\M[id]?=some (some b):=by
    intro id b hb;rw[kM]at hb;split at hb
    ·rename_i hid;exact⟨hid,hb⟩
    ·cases hb
   have put:∀(id:Nat) (b:Blk),id<k->M[id]?=some (some b)->(M.take k)[id]?=some (some b):=by
    intro id b hid hb;rw[kM,if_pos hid];exact hb
   have cutk:∀id g,id<k->zw5 k j id g=j id g:=fun id g hid=>by simp[zw5,hid]
   refine⟨zw5 k j,⟨fun m x hx=>?_,h.size,h.marks,h.ya,⟨fun id b hb'=>?_,fun id id' b b' q hb1 hb2 hL hL'=>?_,fun id g pl hj=>?_,fun id g pl hj=>by
    simp only[zw5]at hj;split at hj
    ·exact h.mem.okP _ _ _ hj
    ·cases hj⟩,h.own⟩,?_,by simp;omega⟩
   ·obtain⟨v,hv,hr⟩:=h.env m x hx;refine⟨v,hv,znm Bm (zqH hkb ?_) hr⟩;have:=jA.1 hb.1 _ (zBK hx);exact this
   ·obtain⟨hid,hb1⟩:=get id b hb';obtain⟨pl,h1,h2,h3⟩:=h.mem.yh id b hb1;refine⟨pl,by rw[cutk _ _ hid];exact h1,zkp Bm (zqG hkb ?_) h2,h3⟩;have:=hb.2;simp only[zH,jA]at this;exact this (some b) (kF hb')
   ·obtain⟨hid,hb1⟩:=get id b hb1;obtain⟨yW,hb2⟩:=get id' b' hb2;have hL:j.atk id b.gen=some q:=by simpa [Inj.atk,cutk _ _ hid]using hL
    have hL':j.atk id' b'.gen=some q:=by simpa [Inj.atk,cutk _ _ yW]using hL'
    exact h.mem.vR id id' b b' q hb1 hb2 hL hL'
   ·simp only[zw5]at hj;split at hj
    ·rename_i hid;obtain⟨b,hb1,hg⟩:=h.mem.dom id g pl hj;exact⟨b,put id b hid hb1,hg⟩
    ·cases hj
   ·exact⟨zP.le_refl _,fun id g pl hid hj=>by rw[cutk _ _ hid];exact hj,jq _,fun _ _ _=>rfl,fun _ _ _ h=>.inl h,fun id b hid hb1=>⟨b,put id b hid hb1,jq _,fun _=>⟨rfl,fun _ _=>rfl⟩⟩,zd9.refl _⟩
  ·exact⟨j,h,za2.refl,hk⟩
theorem zrx{E:Env}{k:Nat}{live:Option (List Nat)}(h:At own σ j E.get M ntmps a w)(hk:k<=M.length) :
  ∃j',At own σ j' (canon k live E M).1.get (canon k live E M).2 ntmps a w/\za2 own k σ j M w σ j' (canon k live E M).2 w/\k<=(canon k live E M).2.length:=by
 cases live with
 |none=>exact⟨j,h,za2.refl,hk⟩
 |some l=>exact zw3 (E:=E.vw l) (h.sub fun n v hv=>zn1 hv) hk
def zrk:EX->Exit
 |.normal=>.normal
 |.exit id=>.exit id
 |.ret=>.ret
def zzd(own:Nat->Prop)(k:Nat)(σ:zP)(j:Inj)(M:Mem)(w:World)(ntmps:Nat)(ds:List Deferred)(ex:EX)(E':Env)(M':Mem):Exit->Act->World->Prop :=
 fun e a' w'=>e=zrk ex/\∃Az σ' j',(∀b,Az b->own b)/\(∀d∈a'.defers,d∈ds\/∃r,d=zkw r/\own r/\w.heap.size<=r)/\At Az σ' j' E'.get M' ntmps a' w'/\za2 own k σ j M w σ' j' M' w'/\k<=M'.length
theorem least{p:Nat->Prop}(h:∃n,p n):∃n,p n/\∀m,p m->n<=m:=by
 obtain⟨n,hn⟩:=h;induction n using Nat.strongRecOn with
 |_ n ih =>
  by_cases hx:∃m,m<n/\p m
  ·obtain⟨m,hm,hp⟩:=hx;exact ih m hm hp
  ·exact⟨n,hn,fun m hm=>by
    rcases kD m n with h|h
    ·exact absurd ⟨m,h,hm⟩ hx
    ·exact h⟩
open Classical in
noncomputable def zqb(p:Nat->Prop):Nat:=if h:∃n,p n then(least h).choose else 0
theorem znY{p:Nat->Prop}{n:Nat}(h:p n):p (zqb p)/\zqb p<=n:=by
 have hx:∃n,p n:=⟨n,h⟩;unfold zqb;rw[dif_pos hx];exact⟨(least hx).choose_spec.1,(least hx).choose_spec.2 n h⟩
theorem zqk{c:Code}(J:Nat->Act->World->Prop){m:Nat}(h:J m a w)
  (round:∀m a w,J m a w->∃m',m=m'+1/\c.wpIn F n P (Exit.then (J m') Q) a w):(Code.loop c).wpIn F n P Q a w:=by
 refine wpIn_loop (fun a w=>∃m,J m a w) (fun a w=>zqb fun m=>J m a w) ⟨m,h⟩ ?_;rintro a w ⟨m,hm⟩;obtain⟨h1,_⟩:=znY (p:=fun m=>J m a w) hm;obtain⟨m',he,hw⟩:=round _ a w h1;refine wpIn_mono hw fun e a' w' hq=>?_
 cases e with
 |normal =>
  refine⟨⟨m',hq⟩,?_⟩;have:=(znY (p:=fun m=>J m a' w') hq).2;omega
 |_=>exact hq
theorem zgd{P:Program}{b:Frame}{a:Act}{k:List Item}{cs:List Frame}{w:World}{c:Code}:step P (lone (b.atR a (.code (.scope c)::k)) cs w)=.next (lone (b.atR a (.code c::.inScope c::k)) cs w) :=
 step_lone_go (by simp[stepG,stepG.exec,Frame.atR])
theorem zr3{P:Program}{b:Frame}{a:Act}{k:List Item}{cs:List Frame}{w:World}{c:Code}:step P (lone (b.atR a (.inScope c::k)) cs w)=.next (lone (b.atR a k) cs w) :=
 step_lone_go (by simp[stepG,stepG.exec,Frame.atR])
theorem zv5{F:Fence}{n:Nat}{P:Program}{Q:Exit->Act->World->Prop}{a:Act}{w:World}{c:Code}(h:c.wpIn F n P (fun e a w=>(∀l,e≠.goto l)/\Q e a w) a w):(Code.scope c).wpIn F n P Q a w:=by
 intro b k cs hro hb hr;have h0:(lone (b.atR a (.code (.scope c)::k)) cs w).fenced P F:=fenced_calm hb hr rfl;obtain⟨e,a₁,w₁,⟨hg,hq⟩,Bc⟩:=h b (.inScope c::k) cs hro hb hr;cases e with
 |normal=>exact⟨.normal,a₁,w₁,hq,.head h0 zgd (StepsIn.trans Bc (.one (fenced_calm hb hr rfl) zr3))⟩
 |exit id =>
  have hx:exitTo id (.inScope c::k)=exitTo id k:=by simp[exitTo]
  exact⟨_,a₁,w₁,hq,fun k' hk=>.head h0 zgd (Bc.1 k' (by rw[hx];exact hk)),
   fun hr' hk=>let ⟨k₁,h1,h2⟩:=Bc.2 hr' (by rw[hx];exact hk);⟨k₁,h1,.head h0 zgd h2⟩⟩
 |goto l=>exact absurd rfl (hg l)
 |ret=>exact⟨_,a₁,w₁,hq,.of_steps (.one h0 zgd) Bc⟩
 |panic ch=>exact⟨_,a₁,w₁,hq,.of_steps (.one h0 zgd) Bc⟩
 |outgrown=>exact⟨_,a₁,w₁,hq,.of_steps (.one h0 zgd) Bc⟩
theorem zzd.trans{own BU:Nat->Prop}{k:Nat}{σ σ1:zP}{j j1:Inj}{M M1:Mem}{w w1:World}{ds ds1:List Deferred}{ex:EX}{E':Env}{M':Mem}{e:Exit}{a':Act}{w':World}(ho:∀b,BU b->own b)(hd:∀d∈ds1,d∈ds\/∃r,d=zkw r/\own r/\w.heap.size<=r)
  (hst:za2 own k σ j M w σ1 j1 M1 w1) (hk:k<=M1.length) (h:zzd BU M1.length σ1 j1 M1 w1 ntmps ds1 ex E' M' e a' w'):zzd own k σ j M w ntmps ds ex E' M' e a' w':=by
 obtain⟨rfl,own2,σ2,j2,q1,q2,q3,q4,q5⟩:=h;refine⟨rfl,own2,σ2,j2,fun b hb=>ho b (q1 b hb),fun d hd'=>?_,q3,hst.trans ((q4.vk ho).le hk),j7 hk q5⟩;rcases q2 d hd' with h |⟨r,h1,h2,h3⟩
 ·exact hd d h
 ·exact .inr ⟨r,h1,ho r h2,j7 hst.size h3⟩
def noR:CC->Bool
 |.seq a b |.cond _ a b=>noR a&&noR b
 |.block _ b |.loop _ b=>noR b
 |.rng ..=>false
 |_=>true
theorem zkv{P:Program}{an:Ann}:∀{c:Code} {cc:CC},zae noK P an ntmps c cc->noR cc=true
 |c,.skip,h=>rfl
 |c,.region ..,h=>rfl
 |c,.seq a b,h=>by
  cases c<;>simp only[zae,noR,jh]at h ⊢
  ·exact⟨zkv h.1,zkv h.2⟩
  ·obtain⟨rfl,h⟩:=h;exact⟨zkv h,rfl⟩
 |c,.cond x a b,h=>by cases c<;>simp only[zae,noR,jh]at h ⊢;exact⟨zkv h.2.1,zkv h.2.2⟩
 |c,.block i b,h=>by cases c<;>simp only[zae,noR]at h ⊢;exact zkv h.2
 |c,.loop k b,h=>by cases c<;>simp only[zae,noR]at h ⊢;exact zkv h
 |c,.exit i,h=>rfl
 |c,.ret,h=>rfl
 |c,.rng ..,h=>by cases c<;>simp only[zae,noK,and_false]at h
theorem zzE(hF:zhz F)(hcf:FnS P cf)(hro:F.round=none){g:Operand}{ps:Array Tmp}{x b:Code}{f:Opd}{v:FuncId}{caps:List Nat}{E E':Env}{M':Mem}{ex:EX}(hg:za5 g=some f)(hK:zb0.okc v ps x b ntmps)
  (hx:zaV cf 0 (.rng f v caps) E M=some (ex,E',M')) (hat:At own σ j E.get M ntmps a w):(Code.rangeFunc g ps x b).wpIn F n P (zzd own M.length σ j M w ntmps a.defers ex E' M') a w:=by
 simp only[zaV]at hx;split at hx
 ·rename_i g0 gi ga hfv;split at hx
  ·rename_i r M1 fp uI;split at hx
   ·rename_i s hs;split at hx
    ·rename_i ex' M2 AE v9;simp only[ji,jG]at hx;obtain⟨rfl,rfl,rfl⟩:=hx;refine wpIn_rangeFunc fun fn hfn=>?_
     rw[hro];generalize hrec:({ state:=.ready,pending:=none,fn,tmps:=a.tmps,params:=ps,assign:=x,body:=b,defers:=w.heap.size }:Loop)=rc;obtain⟨j1,hj1,CA,hm1,yp⟩:=zBE (r:=rc) (f:=v) (caps:=caps) (E:=E) (by rw[<-hrec]) (by rw[<-hrec]) (by rw[<-hrec];show zb0.okc v ps x b a.tmps.size;rw[hat.size];exact hK) (by rw[<-hrec];exact hat.env) hat.ya hat.mem hat.own;generalize hw1:(w.alloc (.deferred (some []))).alloc (.loop rc)=w1 at *;have Di:w1.heap.size=w.heap.size+2:=by rw[<-hw1];show((w.heap.push _).push _).size=_;simp
     have hmark:w1.heap[w.heap.size]?=some (.deferred (some [])):=by
      rw[<-hw1];show((w.heap.push _).push _)[w.heap.size]?=_;rw[qX,if_neg (by simp),qX,if_pos rfl]
     have Ce:=yp.jle' hat.mem (jq _);have hfw:WVR σ j1 (.c (.fn g0 gi ga)) (a.eval g):=zWl hat.ya.qw (hat.env.mono (zP.le_refl _) Ce) hg hfv;have hyv:zac σ j1 [.c (.yld M.length v (zeN E caps).1)] (#[Value.func (.yield (w.heap.size+1)) #[] #[]]:Array Value).toList :=
      zac.cons (show WVR σ j1 (.c (.yld M.length v (zeN E caps).1)) _ from .yld _ _ _ _ _ rc hj1) zac.nil
     have hown1:∀b,w1.heap.size<=b->(own b/\b≠w.heap.size):=fun b hb=>⟨hat.own b (by omega),by omega⟩
     rcases zpA hcf uI CA hm1 hown1 hfw hyv with⟨h,fi,ca,fnn,Bs,q1,q2,q3,hc⟩ |⟨l,rc',Bs,hl,hsz,Bl⟩
     ·have Dw:=run_enterLoop_outer (P:=P) (w:=w) fn a.tmps ps x b;rw[hrec,hw1]at Dw;refine⟨w.heap.size+1,_,w1,{ target:=.fn (.func h) ca,args:=fi ++ #[.func (.yield (w.heap.size+1)) #[] #[]] },w1,h,fi ++ #[.func (.yield (w.heap.size+1)) #[] #[]]++ca,w1,Dw,?_,fun f' _=>hF.fn f',?_,fun h=>(by rw[hF.depth]at h;cases h),hF.calls ?_⟩
      ·show(Deferred.ofValue (a.eval g) (#[Operand.const (.func (.yield (w.heap.size+1)) #[] #[])].map a.eval)).run P w1=_;rw[Bs];simp[Deferred.ofValue,Act.eval]
      ·simp[invoke,zsS q1 q2 q3]
      ·refine Calls.y9 hc ?_;rintro e w2 ⟨vv,σ2,j2,rfl,hr,B3,hm2,yw⟩;have hlen:M.length<(M++[some (ghost (zeN E caps).2)]).length:=by simp
       have hj2:j2 M.length 0=some (.rnd (w.heap.size+1) rc v (zeN E caps).1):=yw.jle _ _ _ hlen hj1;obtain⟨bb,cells,hlk,AP,_⟩:=zsJ hs;obtain⟨_,_,hrb⟩:=zjB hm2 hj2 hlk;obtain⟨s0,DA,pd,vs,h1,h2,h3,h4,h5⟩:=hrb.st;rw[AP]at h1;cases h1;have hne:s≠-1:=by rintro rfl;simp[znr]at AE
       have hs1:s≠1:=by rintro rfl;simp[znr]at AE
       have hpd:=h3 hne;obtain⟨hag3,hm3,Cb⟩:=znk (pd:=pd) B3 hm2 hj2 v9 (fun h=>absurd rfl h);have C7:=run_endLoop (P:=P) h2 (by
        show zfS s≠_;unfold zfS;simp only[hs1,hne,if_false];split<;>simp)
       have e0:zfS (-1)=.exhausted:=by simp[zfS]
       rw[e0]at hag3 hm3 Cb;have Dr:∀r,w1.heap[r]?=some (.deferred (some []))->¬(own r/\r≠w.heap.size)->(w2.putObj (w.heap.size+1) (.loop { rc with state:=.exhausted,pending:=pd })).heap[r]?=some (.deferred (some [])):=by
        intro r hr1 hr2;have hlt:=(jR.1 hr1).1;rw[Cb.frame r (vz hlt yw.size) hr2,yw.frame r hlt hr2];exact hr1
       have Cz:At (fun k=>own k/\k≠w.heap.size) σ2 j2 E.get M2 ntmps { a with defers:=[zkw w.heap.size]++a.defers } (w2.putObj (w.heap.size+1) (.loop { rc with state:=.exhausted,pending:=pd })):=by
        have hjle:=yw.jle' hm1 (jq _);refine⟨hat.env.mono yw.sle (Inj.le_trans Ce hjle),hat.size,?_,hag3,hm3,fun k hk=>?_⟩
        ·obtain⟨rs,e1,e2,e3⟩:=hat.marks;have hrlt:∀r∈rs,r<w.heap.size:=fun r hr=>(jR.1 (e3 r hr).1).1
         refine⟨w.heap.size::rs,by simp[e1],qH.2 ⟨fun h=>uo _ (hrlt _ h),e2⟩,fun r hr=>?_⟩;rcases jB.1 hr with rfl|hr
         ·exact⟨Dr _ hmark (by simp),by simp⟩
         ·have hlt:=hrlt r hr;have hold:w1.heap[r]?=w.heap[r]?:=yp.frame r hlt (e3 r hr).2;exact⟨Dr r (by rw[hold];exact(e3 r hr).1) (fun h=>(e3 r hr).2 h.1),fun h=>(e3 r hr).2 h.1⟩
        ·have hk:w2.heap.size<=k:=by simpa using hk
         have:=yw.size;exact⟨hat.own k (by omega),by omega⟩
       have Do:∀ee,ee=zrk ex'->zzd own M.length σ j M w ntmps a.defers ex' E M2 ee { a with defers:=[zkw w.heap.size]++a.defers } (w2.putObj (w.heap.size+1) (.loop { rc with state:=.exhausted,pending:=pd })):=by
        rintro ee rfl;refine⟨rfl,_,σ2,j2,fun k hk=>hk.1,fun d hd=>?_,Cz,yp.trans (((yw.trans (Cb.le (by
          rcases kD M1.length (M++[some (ghost (zeN E caps).2)]).length with h|h
          ·have:=zC (zaz hlk).1;simp at h;omega
          ·exact h))).vk (fun k hk=>hk.1)).le (by simp)),?_⟩
        ·rcases jt.1 hd with h|h
         ·exact .inr ⟨_,jz.1 h,hat.own _ (jq _),jq _⟩
         ·exact .inl h
        ·have:=zC (zaz hlk).1;obtain⟨_,_,_,_,rfl⟩:=zg0 v9;simp;omega
       refine⟨pd,_,C7,?_⟩;unfold znr at AE;split at AE
       ·rename_i h0;cases AE;have:pd=none:=by rw[hpd,h0];rfl
        subst this;exact Do _ rfl
       ·split at AE
        ·rename_i h0;cases AE;have:pd=some .ret:=by rw[hpd,h0];rfl
         subst this;exact wpIn_ret (Do _ rfl)
        ·split at AE
         ·rename_i h0 h2' h3';cases AE;have:pd=some (.exit (s-3).toNat):=by
           rw[hpd];unfold zqM znr;rw[if_neg h0,if_neg h2',if_pos h3']
          subst this;exact wpIn_exit (Do _ rfl)
         ·cases AE
     ·
      exfalso;have hfw:VC σ j1 (.fn g0 gi ga) (a.eval g):=hfw;rw[Bs]at hfw;cases hfw
    ·cases hx
   ·cases hx
  ·cases hx
 ·cases hx
theorem zdw(hF:zhz F)(hcf:FnS P cf)(u6:P.follows .mixedOrders=true){an:Ann}:∀{c:Code} {cc:CC} {fuel:Nat} {E E':Env} {M M':Mem} {ex:EX} {own:Nat->Prop} {σ:zP} {j:Inj} {a:Act} {w:World},zae zb0.okc P an ntmps c cc->(F.round=none\/noR cc=true) ->
  zaV cf fuel cc E M=some (ex,E',M')->At own σ j E.get M ntmps a w->c.wpIn F n P (zzd own M.length σ j M w ntmps a.defers ex E' M') a w
 |.skip,cc,fuel,E,E',M,M',ex,own,σ,j,a,w,hc,hro,hx,hat=>by
  cases cc<;>simp only[zae]at hc;simp only[zaV,ji,jG]at hx;obtain⟨rfl,rfl,rfl⟩:=hx;exact wpIn_skip ⟨rfl,own,σ,j,fun _ h=>h,fun d h=>.inl h,hat,za2.refl,jq _⟩
 |.region id ops draw,cc,fuel,E,E',M,M',ex,own,σ,j,a,w,hc,hro,hx,hat=>by
  cases cc<;>simp only[zae]at hc;rename_i nA cs prs vw;simp only[zaV]at hx;split at hx
  ·rename_i E1 M1 fs hr;split at hx
   ·rename_i hp;simp only[ji,jG]at hx;obtain⟨rfl,rfl,rfl⟩:=hx;refine ziY hF hcf u6 hc hr hp hat fun a' w' σ' j' h1 h2 h3 h4=>⟨rfl,own,σ',j',fun _ h=>h,fun d h=>.inl (h4 ▸ h),h1.sub fun n v hv=>zAg hv,h2,h3⟩
   ·cases hx
  ·cases hx
 |.seq x y,cc,fuel,E,E',M,M',ex,own,σ,j,a,w,hc,hro,hx,hat=>by
  cases cc<;>simp only[zae]at hc;rename_i x' y';simp only[zaV]at hx;refine wpIn_seq ?_;split at hx
  ·rename_i E1 M1 h1;refine wpIn_mono (zdw hF hcf u6 hc.1 (hro.imp (fun h=>h) fun h=>(by simp only[noR,jh]at h;exact h.1)) h1 hat) fun e a1 w1 hq=>?_
   obtain⟨rfl,BU,σ1,j1,ho1,hd1,Aq,yp,hk1⟩:=hq;refine wpIn_mono (zdw hF hcf u6 hc.2 (hro.imp (fun h=>h) fun h=>(by simp only[noR,jh]at h;exact h.2)) hx Aq) fun e a2 w2 hq=>?_
   exact hq.trans ho1 hd1 yp hk1
  ·rename_i hne;refine wpIn_mono (zdw hF hcf u6 hc.1 (hro.imp (fun h=>h) fun h=>(by simp only[noR,jh]at h;exact h.1)) hx hat) fun e a1 w1 hq=>?_
   obtain⟨rfl,hq⟩:=hq;cases ex with
   |normal=>exact absurd hx (by intro h;exact hne _ _ h)
   |exit i=>exact⟨rfl,hq⟩
   |ret=>exact⟨rfl,hq⟩
 |.cond c x y,cc,fuel,E,E',M,M',ex,own,σ,j,a,w,hc,hro,hx,hat=>by
  cases cc<;>simp only[zae]at hc;obtain⟨hco,hca,hcb⟩:=hc;simp only[zaV]at hx;split at hx
  ·rename_i t ht;have hv:VC σ j (.bool t) (a.eval c):=zWl hat.ya.qw hat.env hco ht;have he:a.eval c=.bool t:=by
    generalize a.eval c=v at hv;cases hv;rfl
   refine wpIn_cond he ?_;cases t with
   |true=>simp only[if_true]at hx ⊢;exact zdw hF hcf u6 hca (hro.imp (fun h=>h) fun h=>(by simp only[noR,jh]at h;exact h.1)) hx hat
   |false=>simp only[jI,if_false]at hx ⊢;exact zdw hF hcf u6 hcb (hro.imp (fun h=>h) fun h=>(by simp only[noR,jh]at h;exact h.2)) hx hat
  ·cases hx
 |.block id b,cc,fuel,E,E',M,M',ex,own,σ,j,a,w,hc,hro,hx,hat=>by
  cases cc<;>simp only[zae]at hc;rename_i id' b';obtain⟨rfl,hc⟩:=hc;simp only[zaV]at hx;refine wpIn_block ?_;split at hx
  ·rename_i i1 E1 M1 h1;refine wpIn_mono (zdw hF hcf u6 hc (hro.imp (fun h=>h) fun h=>(by simpa only[noR]using h)) h1 hat) fun e a1 w1 hq=>?_
   obtain⟨rfl,hq⟩:=hq;split at hx
   ·rename_i hid;simp only[ji,jG]at hx;obtain⟨rfl,rfl,rfl⟩:=hx;simp only[zrk,Exit.inBlock,hid,if_true];exact⟨rfl,hq⟩
   ·rename_i hid;simp only[ji,jG]at hx;obtain⟨rfl,rfl,rfl⟩:=hx;simp only[zrk,Exit.inBlock,hid,if_false];exact⟨rfl,hq⟩
  ·rename_i hne;refine wpIn_mono (zdw hF hcf u6 hc (hro.imp (fun h=>h) fun h=>(by simpa only[noR]using h)) hx hat) fun e a1 w1 hq=>?_
   obtain⟨rfl,hq⟩:=hq;cases ex with
   |exit i=>exact absurd hx (by intro h;exact hne _ _ _ h)
   |normal=>exact⟨rfl,hq⟩
   |ret=>exact⟨rfl,hq⟩
 |.loop b,cc,fuel,E,E',M,M',ex,own,σ,j,a,w,hc,hro,hx,hat=>by
  cases cc<;>simp only[zae]at hc;rename_i live b';simp only[zaV]at hx;obtain⟨j0,hat0,Cc,hk0⟩:=zrx (live:=live) hat (jq _);refine zqk (fun m a1 w1=>∃E1 M1 BU σ1 j1,(∀b,BU b->own b)/\(∀d∈a1.defers,d∈a.defers\/∃r,d=zkw r/\own r/\w.heap.size<=r)/\iter (zaV cf fuel b') live M.length m E1 M1=some (ex,E',M')/\At BU σ1 j1 E1.get M1 ntmps a1 w1/\za2 own M.length σ j M w σ1 j1 M1 w1/\M.length<=M1.length)
   (m:=fuel) ⟨_,_,own,σ,j0,fun _ h=>h,fun d h=>.inl h,hx,hat0,Cc,hk0⟩ ?_
  rintro m a1 w1 ⟨E1,M1,BU,σ1,j1,ho1,hd1,hit,Aq,yp,hk1⟩;cases m with
  |zero=>simp[iter]at hit
  |succ m =>
   refine⟨m,rfl,?_⟩;simp only[iter]at hit;split at hit
   ·rename_i E2 M2 h2;refine wpIn_mono (zdw hF hcf u6 hc (hro.imp (fun h=>h) fun h=>(by simpa only[noR]using h)) h2 Aq) fun e a2 w2 hq=>?_
    obtain⟨rfl,own2,σ2,j2,ho2,hd2,Bb,yw,hk2⟩:=hq.trans ho1 hd1 yp hk1;obtain⟨j3,BE,Cb,hk3⟩:=zrx (live:=live) Bb hk2;exact⟨_,_,own2,σ2,j3,ho2,hd2,hit,BE,yw.trans (Cb.vk ho2),hk3⟩
   ·rename_i hne;refine wpIn_mono (zdw hF hcf u6 hc (hro.imp (fun h=>h) fun h=>(by simpa only[noR]using h)) hit Aq) fun e a2 w2 hq=>?_
    have hq:=hq.trans ho1 hd1 yp hk1;have he:=hq.1;subst he;cases ex with
    |normal=>exact absurd hit (by intro h;exact hne _ _ h)
    |exit i=>exact hq
    |ret=>exact hq
 |.exit id,cc,fuel,E,E',M,M',ex,own,σ,j,a,w,hc,hro,hx,hat=>by
  cases cc<;>simp only[zae]at hc;subst hc;simp only[zaV,ji,jG]at hx;obtain⟨rfl,rfl,rfl⟩:=hx;exact wpIn_exit ⟨rfl,own,σ,j,fun _ h=>h,fun d h=>.inl h,hat,za2.refl,jq _⟩
 |.ret,cc,fuel,E,E',M,M',ex,own,σ,j,a,w,hc,hro,hx,hat=>by
  cases cc<;>simp only[zae]at hc;simp only[zaV,ji,jG]at hx;obtain⟨rfl,rfl,rfl⟩:=hx;exact wpIn_ret ⟨rfl,own,σ,j,fun _ h=>h,fun d h=>.inl h,hat,za2.refl,jq _⟩
 |.label l,cc,fuel,E,E',M,M',ex,own,σ,j,a,w,hc,hro,hx,hat=>by
  cases cc<;>simp only[zae]at hc;simp only[zaV,ji,jG]at hx;obtain⟨rfl,rfl,rfl⟩:=hx;exact wpIn_label ⟨rfl,own,σ,j,fun _ h=>h,fun d h=>.inl h,hat,za2.refl,jq _⟩
 |.goto l,cc,fuel,E,E',M,M',ex,own,σ,j,a,w,hc,hro,hx,hat=>by cases cc<;>simp only[zae]at hc
 |.scope b,cc,fuel,E,E',M,M',ex,own,σ,j,a,w,hc,hro,hx,hat=>by
  cases cc<;>simp only[zae]at hc;rename_i b' c';obtain⟨rfl,hc⟩:=hc;simp only[zaV]at hx;have hx':zaV cf fuel b' E M=some (ex,E',M'):=by
   split at hx
   ·rename_i E1 M1 h1;rw[h1];exact hx
   ·exact hx
  refine zv5 (wpIn_mono (zdw hF hcf u6 hc (hro.imp (fun h=>h) fun h=>(by simp only[noR,jh]at h;exact h.1)) hx' hat) fun e a1 w1 hq=>⟨?_,hq⟩);obtain⟨rfl,_⟩:=hq;intro l;cases ex<;>simp[zrk]
 |.refuse b,cc,fuel,E,E',M,M',ex,own,σ,j,a,w,hc,hro,hx,hat=>by cases cc<;>simp only[zae]at hc
 |.rangeFunc f p x b,cc,fuel,E,E',M,M',ex,own,σ,j,a,w,hc,hro,hx,hat=>by
  cases cc<;>simp only[zae]at hc;rename_i f' v caps;have hro:F.round=none:=hro.resolve_right (by simp[noR]);exact zzE hF hcf hro hc.1 hc.2 (by simpa only[zaV]using hx) hat
end
end Go.Eng
namespace Go.Eng
open Go
variable[zb0]
section
variable{own:Nat->Prop}{P:Program}{cf:za4}{ntmps:Nat}{σ:zP}{j:Inj}{M:Mem}{a:Act}{w:World}
theorem zyB{t:TypeId}{agg:Bool}{size:Nat}{p:Cl}{v:Value}{av:AV}{M':Mem}{fp:FP}(hg:zeU P t=some agg)(hs:zbL P t=some size)
  (h:zdZ M agg (if agg then size else 1) p=some (av,M',fp)) (hv:VC σ j p v) (hag:zM σ w) (hm:MR own σ j M w) :
  ∃ad u,v=.pointer (some ad)/\(loadVar t ad).run P w=.ok u w/\AVR σ j av u:=by
 unfold zdZ at h;split at h
 ·rename_i id g i k;cases hv with
  |ptr _ _ _ _ _ L hL =>
   split at h
   ·rename_i b hb0;obtain⟨hb,BZ⟩:=zaz hb0;subst BZ;split at h
    ·rename_i row qB;split at h
     ·rename_i cs hcs;obtain⟨hl,hk,u0⟩:=zmL hcs;simp only[jb]at h;obtain⟨x,hx,he⟩:=h;cases he;obtain⟨vs,hvs,Bt⟩:=zh1 (σ:=σ) (j:=j) (cs:=cs) (f:=fun m=>w.cell? ⟨L.blk,L.off+i*L.esz+k+m,none⟩) (fun m c hc=>by
       obtain⟨v,h1,h2,_⟩:=hm.cell hb hL qB (u0 m c hc);exact⟨v,by rw[<-h1,kU],h2⟩)
      exact⟨_,_,rfl,ze3 (P:=P) (w:=w) hg hs hl hvs hx Bt,WVR.An vs hvs hx⟩
     ·cases h
    ·cases h
   ·cases h
 ·rename_i row k;cases hv with
  |uR _ _ _ b o val h1 h2 =>
   split at h
   ·rename_i cs hcs;obtain⟨hl,hk,u0⟩:=zmL hcs;simp only[jb]at h;obtain⟨x,hx,he⟩:=h;cases he;obtain⟨vs,hvs,Bt⟩:=zh1 (σ:=σ) (j:=j) (cs:=cs) (f:=fun m=>w.cell? ⟨b,o+k+m,none⟩) (fun m c hc=>by
     refine⟨val (k+m),?_,VC.Bi (h2 _ _ (u0 m c hc))⟩;rw[kU];exact hag.cells _ _ _ (h1 _ _ (u0 m c hc)))
    exact⟨_,_,rfl,ze3 (P:=P) (w:=w) hg hs hl hvs hx Bt,WVR.An vs hvs hx⟩
   ·cases h
 ·cases h
def Aw(tmps:Array Value):ResultVar->Sem Value
 |.tmp t=>pure (tmps.getD t undef)
 |.cell a t=>do loadVar t (<-asAddr (tmps.getD a undef))
theorem zuS{E:Env}{r:ResultVar}{rc:RC}{x:WV}(hrc:zBn P r=some rc)(hx:zoD E M rc=some x)(hat:At own σ j E.get M ntmps a w) :
  ∃v,(Aw a.tmps r).run P w=.ok v w/\WVR σ j x v:=by
 have slot:∀{t:Nat} {y:AV},E.get t=some y->∃v,a.tmps.getD t undef=v/\AVR σ j y v:=by
  intro t y hy;obtain⟨v,hv,hr⟩:=hat.env t y hy;exact⟨v,by rw[kX,hv];rfl,hr⟩
 cases r with
 |tmp t =>
  simp only[zBn,ji]at hrc;subst hrc;simp only[zoD]at hx;split at hx
  ·rename_i y hy;cases hx;obtain⟨v,hv,hr⟩:=slot hy;exact⟨v,by simp[Aw,hv],hr⟩
  ·cases hx
 |cell p t =>
  simp only[zBn]at hrc;split at hrc
  ·rename_i g sz hg hs;cases hrc;simp only[zoD]at hx;split at hx
   ·rename_i pc hy;split at hx
    ·rename_i y M1 fp hl;cases hx;obtain⟨v,hv,hr⟩:=slot hy;obtain⟨ad,u,rfl,qY,hu⟩:=zyB (P:=P) hg hs hl hr hat.ya hat.mem;exact⟨u,by simp[Aw,hv,asAddr,qY],hu⟩
    ·cases hx
   ·cases hx
  ·cases hrc
theorem zpl{E:Env}(hat:At own σ j E.get M ntmps a w):∀{rs:List ResultVar} {rcs:List RC} {xs:List WV},znS P rs=some rcs->zlQ E M rcs=some xs ->
  ∃vs,(rs.mapM (Aw a.tmps):Sem (List Value)).run P w=.ok vs w/\zac σ j xs vs
 |[],rcs,xs,h,hx=>by
  simp only[znS,ji]at h;subst h;simp only[zlQ,ji]at hx;subst hx;exact⟨[],by simp,zac.nil⟩
 |r::rs,rcs,xs,h,hx=>by
  simp only[znS]at h;split at h
  ·rename_i c cs h1 h2;cases h;simp only[zlQ]at hx;split at hx
   ·rename_i y ys q1 q2;cases hx;obtain⟨v,hv,hr⟩:=zuS h1 q1 hat;obtain⟨vs,hvs,hrs⟩:=zpl hat h2 q2;exact⟨v::vs,by simp[yH,hv,hvs],zac.cons hr hrs⟩
   ·cases hx
  ·cases h
theorem ztE{E:Env}{fn:Func}{rcs:List RC}{r:AV}(hat:At own σ j E.get M ntmps a w)(hrc:znS P fn.results.toList=some rcs)(hr:zpk E M rcs=some r) :
  ∃v,(results fn a.tmps).run P w=.ok v w/\AVR σ j r v:=by
 unfold zpk at hr;have key:∀xs,zlQ E M rcs=some xs->∃vs:List Value,(results fn a.tmps).run P w=.ok (if h:vs.toArray.size=1 then vs.toArray[0] else .tuple vs.toArray) w/\zac σ j xs vs:=by
  intro xs hxs;obtain⟨vs,hvs,hrs⟩:=zpl hat hrc hxs;refine⟨vs,?_,hrs⟩;have hm:(fn.results.mapM (Aw a.tmps):Sem (Array Value)).run P w=.ok vs.toArray w:=by
   rw[yP];simp[hvs]
  show(do let vs <-fn.results.mapM (Aw a.tmps);pure (if h:vs.size=1 then vs[0] else .tuple vs):Sem Value).run P w=_;simp[hm]
 split at hr
 ·rename_i v hv;cases hr;obtain⟨vs,h1,h2⟩:=key _ hv;obtain⟨u,us,rfl,hu,hus⟩:=h2.qM;have:=hus.yl;subst this;exact⟨u,by simpa using h1,hu⟩
 ·rename_i vs' hne hv;cases hr;obtain⟨vs,h1,h2⟩:=key _ hv;have hn:vs.toArray.size≠1:=by
   intro h;have hl:=h2.1
   match vs',hl with
   |[],hl=>simp at hl h;omega
   |[x],hl=>exact hne x rfl
   |x::y::zs,hl=>simp at hl h;omega
  rw[dif_neg hn]at h1;exact⟨_,h1,vs.toArray,rfl,by simpa using h2⟩
 ·cases hr
theorem zo7:∀{args:List WV} {vs:List Value} {tmps:Array Value} {i:Nat},zac σ j args vs->(∀(k:Nat) (v:Value),vs[k]?=some v->tmps[i+k]?=some v)->zcs σ j (vC i args).get tmps
 |[],vs,tmps,i,h,ht=>fun n x hx=>by simp[vC,Env.get]at hx
 |x::args,vs,tmps,i,h,ht=>by
  obtain⟨v,vs',rfl,hv,hs⟩:=h.qM;intro n y hy;simp only[vC,Env.get]at hy;split at hy
  ·rename_i hin;cases hy;subst hin;exact⟨v,by simpa using ht 0 v rfl,hv⟩
  ·exact zo7 (i:=i+1) hs (fun k u hk=>by
    have:=ht (k+1) u (by simpa using hk)
    rwa [show i+(k+1)=i+1+k from by omega]at this) n y hy
theorem zsQ{F:Fence}{n:Nat}{fn:Func}{tmps:Array Value}{R:Ending->World->Prop}:∀(rs:List Nat) {w:World},rs.Nodup->(∀r∈rs,w.heap[r]?=some (.deferred (some []))/\¬own r)->zM σ w->MR own σ j M w ->
  (∀w',(∀k,k∉rs->w'.heap[k]?=w.heap[k]?)->w'.heap.size=w.heap.size->zd9 w w'->zM σ w'->MR own σ j M w'->LeavesIn F n P fn tmps R [] .returning w')->LeavesInM F n P fn tmps R (rs.map zkw) .returning w
 |[],w,hn,hr,hag,hm,B0=>B0 w (fun _ _=>rfl) rfl (zd9.refl _) hag hm
 |r::rs,w,hn,hr,hag,hm,B0=>by
  obtain⟨hnr,hn'⟩:=qH.1 hn;obtain⟨h1,h2⟩:=hr r (ju ..);have hlt:r<w.heap.size:=(jR.1 h1).1;have Af:∀k,k≠r->(w.putObj r (.deferred none)).heap[k]?=w.heap[k]?:=fun k hk=>World.putObj_heap_other hk
  refine⟨by simp,.inl ⟨r,_,rfl,run_takeDeferred h1,?_⟩⟩;refine zsQ rs hn' (fun r' hr'=>?_) ?_ (hm.Cg fun id b q hb hq=>Af q (fun e=>h2 (e ▸ hm.CV hb hq))) ?_
  ·have hne:r'≠r:=by rintro rfl;exact hnr hr'
   rw[Af r' hne];exact hr r' (jy _ hr')
  ·refine⟨?_,hag.qw⟩;intro k o v hv;have hold:=hag.cells k o v hv;have hk:k≠r:=by
    rintro rfl;simp[World.cell?,h1]at hold
   simpa [World.cell?,Af k hk]using hold
  ·intro w' q1 q2 q3 q4 q5;have hsd:zd9 w (w.putObj r (.deferred none)):=by
    exact⟨rfl,rfl,rfl,jq _⟩
   refine B0 w' (fun k hk=>?_) (by rw[q2];simp) (hsd.trans q3) q4 q5;simp only[jB,not_or]at hk;rw[q1 k hk.2,Af k hk.1]
theorem zuR{F:Fence}{n:Nat}{fn:Func}{own Az:Nat->Prop}{σ σ':zP}{j j':Inj}{M M2 M':Mem}{w w':World}{a':Act}{E:Env}{rcs:List RC}{r res:AV}{frz:Bool}(hm:MR own σ j M w)(ve:Mem.full M)
  (ho:∀b,Az b->own b) (hd:∀d∈a'.defers,∃r,d=zkw r/\own r/\w.heap.size<=r) (hat:At Az σ' j' E.get M2 ntmps a' w') (hst:za2 own M.length σ j M w σ' j' M2 w') (hk:M.length<=M2.length)
  (hrc:znS P fn.results.toList=some rcs) (hr:zpk E M2 rcs=some r) (B0:leave frz M.length r M2=some (res,M')):LeavesInM F n P fn a'.tmps (Ret own σ j M w res M') a'.defers .returning w':=by
 obtain⟨rs,e1,e2,e3⟩:=hat.marks;rw[e1];have hge:∀r∈rs,own r/\w.heap.size<=r:=fun r hr=>by
  obtain⟨r',h1,h2,h3⟩:=hd (zkw r) (by rw[e1];exact kJ.2 ⟨r,hr,rfl⟩);cases h1;exact⟨h2,h3⟩
 refine zsQ rs e2 e3 hat.ya hat.mem fun w2 q1 q2 q3 q4 q5=>?_
 have Bb:At Az σ' j' E.get M2 ntmps { a' with defers:=[] } w2:=⟨hat.env,hat.size,zj3.nil,q4,q5,fun b hb=>hat.own b (by rw[<-q2];exact hb)⟩;obtain⟨v,hv,hvr⟩:=ztE Bb hrc hr;have yw:za2 own M.length σ j M w σ' j' M2 w2:=by
  refine⟨hst.sle,hst.jle,by rw[q2];exact hst.size,fun b hb hob=>?_,hst.BS,fun id b hid hb=>?_,hst.side.trans q3⟩
  ·rw[q1 b (fun h=>by have:=(hge b h).2;omega)];exact hst.frame b hb hob
  ·obtain⟨b',hb',hv',he⟩:=hst.vw id b hid hb;refine⟨b',hb',hv',fun h=>⟨(he h).1,fun q hq=>?_⟩⟩;rw[q1 q (fun h'=>by have:=(hge q h').2;have:=hm.u7 hb hq;omega)];exact(he h).2 q hq
 obtain⟨σ3,j3,p1,p2,p3,p4⟩:=zu7 hm rfl Bb.ya (Bb.mem.vk ho) yw ve hk hvr B0;exact⟨v,hv,v,σ3,j3,rfl,p1,p2,p3,p4⟩
def zC5(P:Program)(f:FuncId)(c:CFn):Prop:=c.rnd=none/\∃fn body an,P.funcs[f]?=some fn/\fn.body=some body/\(fn.name == "runtime.NumGoroutine")=false/\c.nargs<=fn.ntmps/\zae zb0.okc P an fn.ntmps body c.code/\znS P fn.results.toList=some c.res
theorem zuf{an:Ann}{b:Bool}{f:FuncId}{c:CFn}(h:zoZ P an b f=some c)
  (hK:∀fn body i x,P.funcs[f]?=some fn->fn.body=some body->zeV body<=16->(rfs body)[i]?=some x->zb0.okc (P.funcs.size+16*f+i) x.1 x.2.1 x.2.2 fn.ntmps):zC5 P f c:=by
 unfold zoZ at h;split at h
 ·rename_i fn hf;split at h
  ·rename_i body rs hb hrs;split at h
   ·cases h
   ·rename_i AR;split at h
    ·rename_i cc hcc;split at h
     ·rename_i hle;cases h;have A7:zae zb0.okc P an fn.ntmps body cc:=zdt hcc fun v i x hv hx=>by
       cases hv;exact hK fn body i x hf hb hle.2 hx
      refine⟨rfl,fn,body,an,hf,hb,by simpa using AR,hle.1,?_,hrs⟩;cases b with
      |true=>exact zfQ A7
      |false=>exact A7
     ·cases h
    ·cases h
  ·cases h
 ·cases h
theorem zro{an:Ann}{f i:Nat}{c:CFn}{fn:Func}{body:Code}{x:Array Tmp×Code×Code}{T:FuncId->Option CFn}(h:zho P an true (P.funcs.size+16*f+i)=some c)(hT:T (P.funcs.size+16*f+i)=some c)(hf:P.funcs[f]?=some fn)(hb:fn.body=some body)(hn:zeV body<=16)(hx:(rfs body)[i]?=some x) :
  zAN P T (P.funcs.size+16*f+i) x.1 x.2.1 x.2.2 fn.ntmps:=by
 have hi:i<16:=by have:=zC hx;rw[zfr]at this;omega
 have e1:(P.funcs.size+16*f+i-P.funcs.size) / 16=f:=by omega
 have e2:(P.funcs.size+16*f+i-P.funcs.size) % 16=i:=by omega
 obtain⟨ps,a,b⟩:=x;simp only[zho,e1,e2,hf,hb,hx]at h;split at h
 ·rename_i a' b' ha hb';split at h
  ·rename_i hc;simp only[jh,jA,decide_eq_true_eq]at hc;simp only[if_true,ji]at h;have hno:∀(vf:Option FuncId) (c:Code) v i x,(none:Option FuncId)=some v->(rfs c)[i]?=some x->noK (v+i) x.1 x.2.1 x.2.2 fn.ntmps:=fun _ _ _ _ _ h _=>by cases h
   refine⟨c,_,an,hT,by rw[<-h],zfQ (zdt ha (hno none a)),by rw[<-h];exact zfQ (zdt hb' (hno none b)),zgy hc.1,hc.2⟩
  ·cases h
 ·cases h
theorem zwr(u6:P.follows .mixedOrders=true)(hcf:FnS P cf){n:Nat}{v:FuncId}{c:CFn}{ps:List Nat}{pre:CC}{args:List WV}{M M':Mem}{res:AV}(h:zoC cf n v ps pre c.code args M=some (res,M'))(ve:Mem.full M)
  (hK:∀r:Loop,zb0.ok v r->∃an,r.params.toList=ps/\zae noK P an r.tmps.size r.assign pre/\zae noK P an r.tmps.size r.body c.code/\ps.Nodup/\∀p∈ps,p<r.tmps.size) :
  ∃id sh as,args=.c (.yld id v sh)::as /\
   ∀F n own σ j w l r (vs:Array Value),zhz F->(∀b,w.heap.size<=b->own b)->zM σ w->MR own σ j M w->j id 0=some (.rnd l r v sh)->zac σ j as vs.toList ->
    vs.size=r.params.size/\(∃s p,w.heap[l]?=some (.loop { r with state:=s,pending:=p })) /\
    RoundIn F n P l r.fn ((r.params.zip vs).foldl (fun tmps (t,a)=>tmps.setIfInBounds t a) r.tmps) r.assign r.body w (Ret own σ j M w res M'):=by
 unfold zoC at h;split at h
 ·rename_i id g sh as;split at h
  ·rename_i hc;obtain⟨rfl,hlen,Cc⟩:=hc;refine⟨id,sh,as,rfl,fun F nn own σ j w l r vs hF k8 hag hm hj hvs=>?_⟩;obtain⟨an,hps,hpre,A7,hnd,hlt⟩:=hK r (hm.okP _ _ _ hj);obtain⟨b0,DA,hlk0,hrows0,qV⟩:=zsJ Cc;rw[qV]at h;dsimp only at h;obtain⟨hb0,hg0,hrb0⟩:=zjB hm hj hlk0;obtain⟨s0,cells1,pd0,us,q1,q2,q3,q4,q5⟩:=hrb0.st;rw[hrows0]at q1;cases q1;have hpd0:pd0=none:=q3 (by decide);subst hpd0;have hl0:w.heap[l]?=some (.loop { r with state:=.ready,pending:=none }):=q2;have hvl:vs.size=r.params.size:=by
    have h1:=hvs.1;have h2:=congrArg List.length hps;simp at h1 h2;omega
   refine⟨hvl,⟨_,_,hl0⟩,?_⟩;split at h
   ·rename_i E0 hE0;have henv0:=zvy hE0 q4 q5;have hplt:∀p∈ps,p<r.tmps.size:=hlt;obtain⟨t1,t2,_⟩:=zqN (E0:=E0) (tmps:=r.tmps) (vs:=vs.toList) hnd hplt (by rw[hlen]) hvs henv0;rw[<-hps,<-zxR]at t1 t2;have hat0:At own σ j (zv3 r.params.toList as++E0).get M r.tmps.size { tmps:=(r.params.zip vs).foldl (fun(tmps:Array Value) (x:Nat×Value)=>tmps.setIfInBounds x.1 x.2) r.tmps,defers:=[] } w:=⟨t1,t2,zj3.nil,hag,hm,k8⟩;rw[<-hps]at h;split at h
    ·rename_i E1 M1 hx1;split at h
     ·rename_i M2 Dl;split at h
      ·rename_i ex E3 M3 hx2;split at h
       ·rename_i M4 Dk;refine roundIn_of_wpIn (hF.fn _) ?_;have hF':zhz (F.inRound l):=⟨hF.fn,hF.depth,hF.alive⟩;refine wpIn_mono (zdw hF' hcf u6 (hpre.mono fun _ _ _ _ h=>h.elim) (.inr (zkv hpre)) hx1 hat0) fun e a1 w1 hq=>?_
        obtain⟨rfl,BU,σ1,j1,ho1,hd1,Aq,yp,hk1⟩:=hq;show ∃w2,_;have hj1:j1 id 0=some (.rnd l r g sh):=yp.jle _ _ _ (zC hb0) hj;obtain⟨b1,cells1,hlk1,hrows1,_⟩:=zg0 Dl;obtain⟨hb1,_,hrb1⟩:=zjB Aq.mem hj1 hlk1;obtain⟨s1,c1,pd1,us1,p1,p2,p3,p4,p5⟩:=hrb1.st;rw[hrows1]at p1;cases p1;have hpd1:pd1=none:=p3 (by decide);subst hpd1;have hl1:w1.heap[l]?=some (.loop { r with state:=.ready,pending:=none }):=p2;obtain⟨B3,hm2,yw⟩:=znk (pd:=none) Aq.ya Aq.mem hj1 Dl (fun _=>rfl);have e1:zfS 1=.busy:=rfl;rw[e1]at B3 hm2 yw;refine⟨_,run_beginRound hl1 rfl,?_⟩;have Bb:At BU σ1 j1 E1.get M2 r.tmps.size a1 (w1.putObj l (.loop { r with state:=.busy,pending:=none })):=⟨Aq.env,Aq.size,Aq.marks.frame yw.frame,B3,hm2,fun b hb=>Aq.own b (by simpa using hb)⟩;refine wpIn_mono (zdw hF' hcf u6 (A7.mono fun _ _ _ _ h=>h.elim) (.inr (zkv A7)) hx2 Bb) fun e a3 w3 hq=>?_
        obtain⟨rfl,own3,σ3,j3,ho3,hd3,BE,Cb,hk3⟩:=hq;have hM2:M2.length=M1.length:=by obtain⟨_,_,_,_,rfl⟩:=zg0 Dl;simp
        have hj3:j3 id 0=some (.rnd l r g sh):=Cb.jle _ _ _ (by have:=zC hb1;omega) hj1;obtain⟨b3,cells3,hlk3,hrows3,_⟩:=zg0 Dk;obtain⟨hb3,_,hrb3⟩:=zjB BE.mem hj3 hlk3;obtain⟨s3,c3,pd3,us3,r1,r2,r3,r4,r5⟩:=hrb3.st;rw[hrows3]at r1;cases r1;have hl3:w3.heap[l]?=some (.loop { r with state:=.busy,pending:=pd3 }):=r2;have hM4:M4.length=M3.length:=by obtain⟨_,_,_,_,rfl⟩:=zg0 Dk;simp
        have done:∀(jump:Option Code),(zxZ ex≠-1->jump=zqM (zxZ ex))->zfS (zxZ ex)=(if jump.isNone then .ready else .done)->jump.isNone=(ex==.normal) ->
          ∃v w',(Instr.endRound l jump).run P w3=.ok v w'/\Ret own σ j M w res M' (.returned v) w':=by
         intro jump hj1' hj2' hj3';obtain⟨hag4,hm4,C3⟩:=znk (pd:=jump) BE.ya BE.mem hj3 Dk hj1';rw[hj2']at hag4 hm4 C3;refine⟨_,_,run_endRound jump hl3,?_⟩;have hstall:za2 own M.length σ j M w σ3 j3 M4 (w3.putObj l (.loop { r with state:=if jump.isNone then .ready else .done,pending:=jump })) :=
          ((yp.trans ((yw.vk ho1).le hk1)).trans ((Cb.vk ho1).le (by omega))).trans ((C3.vk (fun b hb=>ho1 b (ho3 b hb))).le (by omega))
         obtain⟨j5,z1,z2,z3⟩:=zkC (w:=w3.putObj l (.loop { r with state:=if jump.isNone then .ready else .done,pending:=jump })) (r:=.w (.c (.bool (ex==.normal)))) (v:=.bool jump.isNone) hm rfl ((hm4.vk ho3).vk ho1) hstall ve (by rw[hj3'];exact VC.bool _ _) h;exact⟨_,σ3,j5,rfl,z1,hag4,z2,z3⟩
        cases ex with
        |normal=>exact done none (fun _=>rfl) rfl rfl
        |ret=>exact done (some .ret) (fun _=>rfl) rfl rfl
        |exit i =>
         refine done (some (.exit i)) (fun _=>?_) ?_ rfl
         ·have h1:¬(3+(i:Int)=0):=by omega
          have h2:¬(3+(i:Int)=2):=by omega
          have h3:(3:Int)<=3+i:=by omega
          have h4:(3+(i:Int)-3).toNat=i:=by omega
          simp[zqM,znr,zxZ,h1,h2,h3,h4]
         ·have h1:¬(3+(i:Int)=0):=by omega
          have h2:¬(3+(i:Int)=1):=by omega
          have h3:¬(3+(i:Int)=-1):=by omega
          simp[zfS,zxZ,h1,h2,h3]
       ·cases h
      ·cases h
     ·cases h
    ·cases h
   ·cases h
  ·cases h
 ·cases h
theorem zrA(u6:P.follows .mixedOrders=true){T:FuncId->Option CFn}{X:za4}(hT:∀f c,T f=some c->(f<zb0.base->zC5 P f c)/\(zb0.base<=f->c.rnd.isSome=true))(hR:∀v ps a b n,zb0.okc v ps a b n->zAN P T v ps a b n)(hX:FnS P X):∀n,FnS P (zfk T X n)
 |0=>fun f args M res M' h=>by simp[zfk]at h
 |n+1=>fun f args M res M' h ve=>by
  have ih:=zrA u6 hT hR hX n;simp only[zfk]at h;split at h
  ·exact hX f args M res M' h ve
  ·rename_i c hTf;obtain⟨hT1,hT2⟩:=hT f c hTf;split at h
   ·rename_i ps pre hrnd;refine⟨fun hlt=>?_,fun hge=>?_⟩
    ·rw[(hT1 hlt).1]at hrnd;cases hrnd
    ·refine zwr u6 ih h ve fun r hr=>?_
     obtain⟨c',pre',an,h1,h2,h3,h4,h5,h6⟩:=hR _ _ _ _ _ hr;rw[hTf]at h1;cases h1;rw[hrnd]at h2;cases h2;exact⟨an,rfl,h3,h4,h5,h6⟩
   ·rename_i hrnd;refine⟨fun hlt=>?_,fun hge=>by have:=hT2 hge;rw[hrnd]at this;cases this⟩;obtain⟨_,fn,body,an,hf,hb,AR,hle,A7,AK⟩:=hT1 hlt;refine⟨fn,hf,by simp[hb],AR,?_⟩;split at h
    ·rename_i hlen;intro own σ j w vs k8 hag hm hvs;have hvl:vs.size=c.nargs:=by have:=hvs.1;simp at this;omega
     have hsz:(vs++Array.replicate (fn.ntmps-vs.size) undef).size=fn.ntmps:=by simp;omega
     have hat:At own σ j (vC 0 args).get M fn.ntmps { tmps:=vs++Array.replicate (fn.ntmps-vs.size) undef,defers:=[] } w :=
      ⟨zo7 hvs (fun k v hk=>by
       have hk':k<vs.size:=by have:=zC hk;simpa using this
       rw[jH,kT hk'];simpa using hk),hsz,zj3.nil,hag,hm,k8⟩
     have fin:∀{ex:EX} {E:Env} {M2:Mem} {r:AV},(ex=.normal\/ex=.ret)->zaV (zfk T X n) n c.code (vC 0 args) M=some (ex,E,M2)->zpk E M2 c.res=some r->leave c.frz M.length r M2=some (res,M') ->
       Calls P f vs w (Ret own σ j M w res M'):=by
      intro ex E M2 r hexit hx hr B0;have hF:zhz Fence.wide:=⟨fun _=>trivial,rfl,rfl⟩;refine callsIn_wide (n:=0).1 (callsIn_of_wp_marks hf hb trivial ?_);refine wpIn_mono (zdw hF ih u6 A7 (.inl rfl) hx hat) fun e a' w' hq=>?_
      obtain⟨rfl,Az,σ',j',ho,hd,Cz,hst,hk⟩:=hq;have:=zuR (F:=Fence.wide) (n:=0) hm ve ho (fun d hd'=>(hd d hd').resolve_left (fun h=>by cases h)) Cz hst hk AK hr B0;rcases hexit with rfl|rfl
      ·exact this
      ·exact this
     split at h
     ·rename_i E M2 hx;split at h
      ·rename_i r hr;exact fin (.inl rfl) hx hr h
      ·cases h
     ·rename_i E M2 hx;split at h
      ·rename_i r hr;exact fin (.inr rfl) hx hr h
      ·cases h
     ·cases h
    ·cases h
def noX:za4:=fun _ _ _=>none
theorem znV:FnS P noX:=fun f args M res M' h=>by cases h
end
end Go.Eng
