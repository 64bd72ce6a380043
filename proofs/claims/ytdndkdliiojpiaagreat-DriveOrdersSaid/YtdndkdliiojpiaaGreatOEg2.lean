/- This text proves parts of an evaluator's soundness: what the evaluator answers, the model's run does; no condition. -/
import Derived.Test.YtdndkdliiojpiaaGreatOEg1
import Derived.OrdersIn
import Derived.RangeFuncRecord
set_option linter.defProp false
set_option linter.unusedVariables false
set_option linter.unusedSimpArgs false
set_option linter.unusedSectionVars false
namespace Go.Eng
open Go
variable[zb0]
section
variable{own:Nat->Prop}{σ:zP}{j:Inj}{M:Mem}{w:World}{E:Nat->Option AV}{a:Act}{P:Program}{cf:za4}
theorem zr0{z:Array Value}{n esz:Nat}(hz:z.size=esz)(uo:0<esz){i k:Nat}(hi:i<n)(hk:k<esz):(Builtin.zeroCells z n)[i*esz+k]?=z[k]?:=by
 have hrow:=zjf (esz:=esz) hi;have hmod:(i*esz+k) % z.size=k:=by grind [Nat.add_comm,Nat.add_mul_mod_self_right,Nat.mod_eq_of_lt]
 grind [Builtin.zeroCells]
def zw7{t ty e:TypeId}{z:List Cl}{x:Cl}{av:AV}{M':Mem}{fp:FP}(ht:P.underlying t=some (.slice e))(hz:zhL P e=some z)(h:zgI M z x=some (av,M',fp))(hag:zM σ w)(hm:MR own σ j M w){vx:Value} :
  VC σ j x vx->za0 own σ j M w av M' ((Builtin.clear_ #[t] ty #[vx]).run P w):=by
 unfold zgI at h;split at h
 ·cases h;intro hx;cases hx;exact za0.same (v:=.tuple #[]) (by simp[Builtin.clear_,run_underlying ht]) ⟨#[],rfl,zac.nil⟩ hag hm
 ·rename_i id g es off len cap;split at h
  ·rename_i h0;subst h0;cases h;intro hx;cases hx with
   |slice _ _ _ _ _ _ _ pl ad c hj hl yY ha =>
    exact za0.same (v:=.tuple #[]) (by cases ad<;>simp[Builtin.clear_,run_underlying ht]) ⟨#[],rfl,zac.nil⟩ hag hm
  ·rename_i h0;split at h
   ·rename_i b hb0;obtain⟨hbk,Bb⟩:=zaz hb0;subst Bb;split at h
    ·rename_i hc;simp only[jk,qm,decide_eq_true_eq]at hc;obtain⟨⟨⟨⟨vD,hfz⟩,AZ⟩,hzn⟩,hzi⟩:=hc;cases h;intro hx;cases hx with
     |slice _ _ _ _ _ _ _ pl ad c hj hl yY ha =>
      obtain⟨L,rfl,_,rfl,hf2⟩:=ha wA;obtain⟨i,zv,hi,hzv,hzc⟩:=zew hz;have hzr:VCs σ zb1 z zv.cells.toList:=(zdu (σ:=σ) (j:=j) hzc).yH hzi;have hzs:zv.cells.size=b.esz:=by rw[<-hzn];simpa using hzr.1.symm
      obtain⟨pl',yW,hbr,hown⟩:=hm.blk id b hbk;rw[hj]at yW;cases yW;have hbr:BL σ j b L w:=hbr;obtain⟨C,T,hC,hsz,hrow⟩:=hbr.heap;have hes:=hbr.esz;have BP:=hbr.fit;have uo:=hbr.pos;generalize hvs:(Builtin.zeroCells zv.cells len).toList=vs;have hvl:vs.length=len*b.esz:=by rw[<-hvs];simp[size_zeroCells,hzs]
      have hvget:∀i k,i<len->k<b.esz->∀cl,z[k]?=some cl->∃v,vs[i*b.esz+k]?=some v/\VC σ zb1 cl v:=by
       intro i k hi hk cl hcl;obtain⟨v,hv,hvc⟩:=hzr.get hcl
       grind [zr0]
      have Dx:∀v∈vs,v.oneCell'=true:=by
       intro v hv;obtain⟨k,hk⟩:=j7 hv;have hkl:=zC hk;have hi':k / b.esz<len:=(yg uo).2 wA;have hn':k % b.esz<z.length:=by rw[hzn];exact qF _ uo
       obtain⟨v',hv',hvc⟩:=hvget (k / b.esz) (k % b.esz) hi' (qF _ uo) _ (jq hn');have e1:k / b.esz*b.esz+k % b.esz=k:=by rw[ua];exact vJ k b.esz
       rw[e1,hk]at hv';cases hv';exact hvc.BZ
      have hm1:(off+len)*b.esz=off*b.esz+len*b.esz:=qi _ _ _;have hm2:(off+len)*b.esz<=b.rows.length*b.esz:=kh _ AZ;have kA:L.off+off*L.esz+vs.length<=C.size:=by grind
      have hst:=run_storeCells_at P L.blk (L.off+off*L.esz) T vs 0 C w hC wA Dx;simp only[uL]at hst;generalize hC':(C.toList.take (L.off+off*L.esz)++vs++C.toList.drop (L.off+off*L.esz+vs.length)).toArray=C' at hst;have BU:C'.size=C.size:=by grind
      have vL:∀p,C'[p]?=if p<L.off+off*L.esz then C[p]? else if p<L.off+off*L.esz+vs.length then vs[p-(L.off+off*L.esz)]? else C[p]?:=by
       intro p;rw[<-hC',ul,zdb _ _ _ (by grind)];simp
      have yA:(w.setRow L.blk C').heap[L.blk]?=some (.cells C' T (0,0)):=setRow_heap w _ C C' T _ hC;generalize AW:b.rows.take off++List.replicate len z++b.rows.drop (off+len)=vR;have hrl:vR.length=b.rows.length:=by grind
      have AB:∀i,vR[i]?=if i<off then b.rows[i]? else if i<off+len then some z else b.rows[i]?:=by
       intro i;have:=zdb b.rows (List.replicate len z) off (by simp;omega) i;simp only[uT]at this;rw[<-AW,this];split
       ·rfl
       ·split
        ·rw[vU,if_pos wA]
        ·rfl
      refine⟨.tuple #[],w.setRow L.blk C',σ,j,?_,⟨#[],rfl,zac.nil⟩,?_,?_,?_⟩
      ·have:len≠0:=h0;simp only[Builtin.clear_,Sem.run_bind,run_underlying ht,Result.andThen_ok,ul,vV];cases len with
       |zero=>exact absurd rfl h0
       |succ m=>simp[zcJ hi hzv,hvs,hst]
      ·refine⟨?_,hag.kZ⟩;intro b' o v hv';have hold:=hag.cells b' o v hv';by_cases hbb:b'=L.blk
       ·subst hbb;have hlo:o<L.off:=by
         rcases qG o L.off with h|h
         ·grind
         ·have:=hbr.A5 o h (fun hh=>by grind)
          grind
        simp only[World.cell?,hC,kQ,jI,if_false]at hold;simp only[World.cell?,yA,kQ,jI,if_false]
        grind
       grind [World.cell?,setRow_other]
      ·refine hm.write hbk hj rfl (fun k' hk'=>setRow_other w _ _ _ hk') ?_;refine⟨hes,uo,fun r hr'=>?_,by grind,⟨C',T,yA,by grind,fun i' r n cl hi' hn=>?_⟩,fun o h1 h2=>hbr.A5 o h1 (fun h=>by grind)⟩
       ·obtain⟨q,hq⟩:=j7 hr';rw[AB]at hq;split at hq
        ·exact hbr.len r (zat hq)
        ·split at hq
         ·cases hq;exact hzn
         ·exact hbr.len r (zat hq)
       ·simp only at hi' ⊢;simp only[vD,jI,if_false];have hnl:=zC hn;rw[AB]at hi';rw[vL];by_cases h1:i'<off
        ·rw[if_pos h1]at hi';obtain⟨v,hv1,hv2⟩:=hrow i' r n cl hi' hn;rw[if_neg (by simp[vD])]at hv2;have:=zjf (esz:=b.esz) h1;have:=hbr.len r (zat hi');exact⟨v,by rw[if_pos (by rw[hes];omega)];exact hv1,hv2⟩
        ·rw[if_neg h1]at hi';by_cases h2:i'<off+len
         ·rw[if_pos h2]at hi';cases hi';obtain⟨v,hv1,hv2⟩:=hvget (i'-off) n wA wA cl hn;have e1:i'*b.esz=off*b.esz+(i'-off)*b.esz:=by rw[<-qi];congr 1;omega
          have:=zjf (esz:=b.esz) (show i'-off<len by omega);refine⟨v,?_,hv2⟩;rw[if_neg (by rw[e1,hes];omega),if_pos (by rw[e1,hes,hvl];omega),<-hv1]
          congr 1
          rw[e1,hes];omega
         ·rw[if_neg h2]at hi';obtain⟨v,hv1,hv2⟩:=hrow i' r n cl hi' hn;rw[if_neg (by simp[vD])]at hv2;have e1:(off+len)*b.esz<=i'*b.esz:=kh _ wA;refine⟨v,?_,hv2⟩;rw[if_neg (by rw[hes];omega),if_neg (by rw[hes,hvl];omega)];exact hv1
      ·refine⟨zP.le_refl _,fun _ _ _ _ h=>h,by simp[World.setRow],fun b' hb' ho=>?_,fun _ _ _ h=>.inl h,fun id' b' hid hb'=>?_,zd9.setRow _ _ _⟩
       ·exact setRow_other w _ _ _ (fun e=>ho (e ▸ hown L rfl))
       ·by_cases yI:id=id'
        ·subst yI;rw[hbk]at hb';cases hb';exact⟨_,by simp[hid];rfl,wD,fun h=>by simp at h⟩
        ·refine⟨b',by rw[jz yI];exact hb',jm _,fun _=>⟨rfl,fun L' hL'=>?_⟩⟩;exact setRow_other w _ _ _ (fun e=>yI (hm.vz id id' b b' L' hbk hb' (by rw[e];exact Inj.vI hj) hL'))
    grind
   grind
 grind
def CO.CA:CO->Bool
 |.call ..=>true
 |_=>false
def zaa(own:Nat->Prop)(σ:zP)(j:Inj)(M:Mem)(w:World)(av:AV)(M':Mem)(r:Result Next):Prop :=
 (∃v w' σ' j',r=.ok (.value v) w'/\AVR σ' j' av v/\zM σ' w'/\MR own σ' j' M' w'/\za2 own M.length σ j M w σ' j' M' w') \/
 (av=.u/\∃w' σ',r=.ok .skip w'/\zM σ' w'/\MR own σ' j M' w'/\za2 own M.length σ j M w σ' j M' w')
theorem zaa.qc{av:AV}{M':Mem}{s:Sem Value}(h:za0 own σ j M w av M' (s.run P w)):zaa own σ j M w av M' ((do pure (.value (<-s)):Sem Next).run P w):=by
 obtain⟨v,w',σ',j',h1,h2⟩:=h;exact .inl ⟨v,w',σ',j',by simp[h1],h2⟩
def zaa.vH{o:Option Cl}{av:AV}{M':Mem}{fp:FP}{s:Sem Value}(h:zhN o M=some (av,M',fp))(hv:∀c,o=some c->∃v,s.run P w=.ok v w/\VC σ j c v)(hag:zM σ w)(hm:MR own σ j M w) :
  zaa own σ j M w av M' ((do pure (.value (<-s)):Sem Next).run P w):=by
 simp only[zhN,ja]at h;obtain⟨c,hc,he⟩:=h;cases he;obtain⟨v,h1,h2⟩:=hv c hc;exact zaa.qc (za0.same h1 h2 hag hm)
def zqL{o:Option Cl}{av:AV}{M':Mem}{fp:FP}(h:zhN o M=some (av,M',fp)):∃c,o=some c/\av=.w (.c c)/\M'=M/\fp=.no:=by
 grind [zhN,Option.map_eq_some_iff]
theorem AVR.agg{cs:List Cl}{arr:Array Value}(h:VCs σ j cs arr.toList):AVR σ j (.w (.a cs)) (.agg arr):=⟨arr,rfl,h⟩
def AVR.ofW{x:WV}{v:Value}(h:WVR σ j x v):AVR σ j (.w x) v:=h
theorem AVR.cell{c:Cl}{v:Value}(h:VC σ j c v):AVR σ j (.w (.c c)) v:=h
def zwD{id esz:Nat}{M':Mem}(h:zg M id { box:=false,esz,rows:=[],gen:=0,fz:=false,ver:=0 }=some M')(hag:zM σ w)(hm:MR own σ j M w) :
  za0 own σ j M w (.w (.c (.slice id 0 esz 0 0 none))) M' (.ok (.slice none 0 0) w):=by
 obtain⟨Bj,hlt,rfl⟩:=za1 h;obtain⟨u4,hm'⟩:=hm.renew (w':=w) (b':={ box:=false,esz,rows:=[],gen:=0,fz:=false,ver:=0 }) (pl':=.empty) hlt (fun b hb=>by grind)
  (fun k b L _ hb hL=>⟨rfl,fun e=>by cases e⟩) ⟨rfl,rfl⟩ (fun L e=>by cases e)
 refine⟨.slice none 0 0,w,σ,_,rfl,?_,hag,hm',?_⟩
 ·exact VC.slice _ id 0 esz 0 0 none _ none 0 (Inj.uZ _ _ _ _) (jm _) wD (fun h=>absurd rfl h)
 ·refine⟨zP.le_refl _,fun id' g pl _ h=>Inj.An u4 id' g pl h,jm _,fun _ _ _=>rfl,fun _ _ _ h=>.inl h,fun id' b hid hb=>⟨b,?_,jm _,fun _=>⟨rfl,fun _ _=>rfl⟩⟩,zd9.refl _⟩
  grind
def zt4{x:Operand}(h:zmI x=true):a.eval x=.slice none 0 0:=by
 unfold zmI at h;split at h
 ·rfl
 grind
def zxx{q:Nat}{o:Oper}{co:CO}{n0:Nat}{av:AV}{M':Mem}{fp:FP}{x:Operand}(hco:(if zmI x then match P.underlying o.type with
   |some (.slice e)=>(zbL P e).map (.kx q)
   |_=>(za5 x).map .mv
  else(za5 x).map .mv)=some co) (hop:opF cf n0 E M co=some (av,M',fp))
  (hE:zcs σ j E a.tmps) (hag:zM σ w) (hm:MR own σ j M w):zaa own σ j M w av M' (.ok (.value (a.eval x)) w):=by
 have plain:(za5 x).map .mv=some co->zaa own σ j M w av M' (.ok (.value (a.eval x)) w):=by
  intro hco;simp only[ja]at hco;obtain⟨x',hx,rfl⟩:=hco;simp only[opF]at hop;split at hop
  ·rename_i v hv;cases hop;exact .inl ⟨_,w,σ,j,rfl,ztM hag.kZ hE hx hv,hag,hm,za2.refl⟩
  grind
 split at hco
 ·rename_i Aw;split at hco
  ·simp only[ja]at hco;obtain⟨n,hn,rfl⟩:=hco;simp only[opF,ja,ju]at hop;obtain⟨M1,h1,rfl,rfl,rfl⟩:=hop;obtain⟨v,w',σ',j',e,r⟩:=zwD h1 hag hm;cases e;rw[zt4 Aw];exact .inl ⟨_,_,σ',j',rfl,r⟩
  grind
 grind
def zBv{q:Nat}{m:zbz}{o:Oper}{co:CO}{n0:Nat}{av:AV}{M':Mem}{fp:FP}{x:Operand}(ho:o.op=.move x)(hco:zA P q m o=some co)(hop:opF cf n0 E M co=some (av,M',fp))
  (hE:zcs σ j E a.tmps) (hag:zM σ w) (hm:MR own σ j M w) (hown:∀b,w.heap.size<=b->own b):zaa own σ j M w av M' ((execOp a.eval o).run P w):=by
 simp only[zA,ho]at hco;have:=zxx hco hop hE hag hm
 simp_all [execOp]
def zyp{q:Nat}{m:zbz}{o:Oper}{co:CO}{n0:Nat}{av:AV}{M':Mem}{fp:FP}{x:Operand}(ho:o.op=.assign x)(hco:zA P q m o=some co)(hop:opF cf n0 E M co=some (av,M',fp))
  (hE:zcs σ j E a.tmps) (hag:zM σ w) (hm:MR own σ j M w) (hown:∀b,w.heap.size<=b->own b):zaa own σ j M w av M' ((execOp a.eval o).run P w):=by
 simp only[zA,ho]at hco;have:=zxx hco hop hE hag hm
 simp_all [execOp]
def zBt{q:Nat}{m:zbz}{o:Oper}{co:CO}{n0:Nat}{av:AV}{M':Mem}{fp:FP}{c x y:Operand}(ho:o.op=.pick c x y)(hco:zA P q m o=some co)(hop:opF cf n0 E M co=some (av,M',fp))
  (hE:zcs σ j E a.tmps) (hag:zM σ w) (hm:MR own σ j M w) (hown:∀b,w.heap.size<=b->own b):zaa own σ j M w av M' ((execOp a.eval o).run P w):=by
 simp only[zA,ho]at hco;split at hco
 ·rename_i c' x' y' hc hx hy;cases hco;simp only[opF]at hop;split at hop
  ·rename_i t ht;split at hop
   ·cases hop;have hcv:a.eval c=.bool t:=zmx (zWl hag.kZ hE hc ht);refine .inl ⟨if t then a.eval x else a.eval y,w,σ,j,?_,?_,hag,hm,za2.refl⟩
    ·simp_all [execOp,asBool]
    ·cases t with
     |true=>exact zWl hag.kZ hE hx (by grind)
     |false=>exact zWl hag.kZ hE hy (by grind)
   grind
  grind
 grind
def zzV{q:Nat}{m:zbz}{o:Oper}{co:CO}{n0:Nat}{av:AV}{M':Mem}{fp:FP}{t:TypeId}(ho:o.op=.alloc t)(hco:zA P q m o=some co)(hop:opF cf n0 E M co=some (av,M',fp))
  (hE:zcs σ j E a.tmps) (hag:zM σ w) (hm:MR own σ j M w) (hown:∀b,w.heap.size<=b->own b):zaa own σ j M w av M' ((execOp a.eval o).run P w):=by
 simp only[zA,ho]at hco;split at hco
 ·rename_i zs hz;cases hco;simp only[opF,Opd.ev]at hop;split at hop
  ·rename_i hc;simp only[jk,decide_eq_true_eq]at hc;simp only[ja]at hop;obtain⟨M1,hM1,he⟩:=hop;obtain⟨i,zv,hi,hzv,hzc⟩:=zew hz;have:=zaa.qc (zvD (P:=P) (t:=t) (vx:=zv) (zdu hzc) rfl hc.2 hM1 hag hm hown)
   simp_all [execOp,Instr.alloc,zcJ]
  grind
 grind
def zCz{q:Nat}{m:zbz}{o:Oper}{co:CO}{n0:Nat}{av:AV}{M':Mem}{fp:FP}{t:TypeId}{x:Operand}(ho:o.op=.box t x)(hco:zA P q m o=some co)(hop:opF cf n0 E M co=some (av,M',fp))
  (hE:zcs σ j E a.tmps) (hag:zM σ w) (hm:MR own σ j M w) (hown:∀b,w.heap.size<=b->own b):zaa own σ j M w av M' ((execOp a.eval o).run P w):=by
 simp only[zA,ho]at hco;split at hco
 ·rename_i x' n hx hn;cases hco;simp only[opF]at hop;split at hop
  ·rename_i v hv;split at hop
   ·rename_i hc;simp only[jk,decide_eq_true_eq]at hc;simp only[ja]at hop;obtain⟨M1,hM1,he⟩:=hop;have:=zaa.qc (zvD (P:=P) (t:=t) (vx:=a.eval x) (zWl hag.kZ hE hx hv).cells hc.1 hc.2 hM1 hag hm hown)
    grind [execOp,Instr.box]
   grind
  grind
 grind
def zzT{q:Nat}{m:zbz}{o:Oper}{co:CO}{n0:Nat}{av:AV}{M':Mem}{fp:FP}{t:TypeId}{parts:Array (Nat×Operand)}(ho:o.op=.build t parts)(hco:zA P q m o=some co)(hop:opF cf n0 E M co=some (av,M',fp))
  (hE:zcs σ j E a.tmps) (hag:zM σ w) (hm:MR own σ j M w) (hown:∀b,w.heap.size<=b->own b):zaa own σ j M w av M' ((execOp a.eval o).run P w):=by
 simp only[zA,ho]at hco;split at hco
 ·rename_i fs z ht hz;split at hco
  ·rename_i ps hps;simp only[ja]at hco;obtain⟨cps,hp,rfl⟩:=hco;simp only[opF,ja]at hop;obtain⟨cs,hcs,he⟩:=hop;obtain⟨arr,h1,h2⟩:=zoj (w:=w) hag.kZ hE ht hz hps hp hcs
   grind [zaa.qc,za0.same,AVR.agg,execOp]
  grind
 ·rename_i len e z ht hz;split at hco
  ·rename_i n hn;simp only[ja]at hco;obtain⟨cps,hp,rfl⟩:=hco;simp only[opF,ja]at hop;obtain⟨cs,hcs,he⟩:=hop;obtain⟨arr,h1,h2⟩:=zo5 (w:=w) hag.kZ hE ht hz hn hp hcs
   grind [zaa.qc,za0.same,AVR.agg,execOp]
  grind
 grind
theorem ZlF{q:Nat}{o:Oper}{co:CO}{n0:Nat}{av:AV}{M':Mem}{fp:FP}{t:TypeId}{len:Nat}{parts:Array (Nat×Operand)}(ho:o.op=.buildSlice t len parts)(hco:cSl P q t len parts=some co)(hop:opF cf n0 E M co=some (av,M',fp))
  (hE:zcs σ j E a.tmps) (hag:zM σ w) (hm:MR own σ j M w) (hown:∀b,w.heap.size<=b->own b):zaa own σ j M w av M' ((execOp a.eval o).run P w):=by
 unfold cSl at hco;split at hco
 ·rename_i e ht;split at hco
  ·split at hco
   ·rename_i hc;obtain⟨hix,hs1,hl,hzs⟩:=hc;simp only[ja]at hco;obtain⟨xs,hxs,rfl⟩:=hco;simp only[opF]at hop;split at hop
    ·rename_i vs hvs;have hr:=zbr hag.kZ hE hxs hvs;have hlen:parts.toList.length=len:=by have:=congrArg List.length hix;grind
     have hpo:(parts.map fun(x:Nat×Operand)=>(x.1,a.eval x.2)).toList=(((parts.toList.map (·.2)).map a.eval).zipIdx 0).map fun x=>(x.2,x.1):=by
      apply qw;intro i;have hi:(parts.toList.map (·.1))[i]?=(List.range len)[i]?:=by grind
      simp only[Array.toList_map,kO,List.getElem?_zipIdx,Option.map_map]at hi ⊢;by_cases hil:i<parts.toList.length
      ·rw[jq hil]at hi ⊢;rw[List.getElem?_range wA]at hi;simp at hi ⊢;exact hi
      ·rw[uU wA];rfl
     have hz:∃zv,(zeroValue e).run P w=.ok zv w:=by
      obtain⟨zs,hzs⟩:=Option.isSome_iff_exists.1 hzs;obtain⟨i,zv,hi,hzv,_⟩:=zew hzs
      simp_all [zcJ]
     grind [zaa.qc,zyD,execOp]
    grind
   grind
  grind [opF,Option.map_eq_some_iff,zaa.qc,zz3,execOp]
 grind
theorem ZlC{m:zbz}{r:Option CO}{co:CO}(h:Zlx m r=some co):r=some co\/∃q y n,r=some (.lit q 1 [[y]] [(0,.k (.c (.int .i64 n)))])/\co=.yV (.B5 n) q []:=by
 unfold Zlx at h
 grind
def zr7{q:Nat}{m:zbz}{o:Oper}{co:CO}{n0:Nat}{av:AV}{M':Mem}{fp:FP}{t:TypeId}{len:Nat}{parts:Array (Nat×Operand)}(ho:o.op=.buildSlice t len parts)(hco:zA P q m o=some co)(hop:opF cf n0 E M co=some (av,M',fp))
  (hE:zcs σ j E a.tmps) (hag:zM σ w) (hm:MR own σ j M w) (hown:∀b,w.heap.size<=b->own b):zaa own σ j M w av M' ((execOp a.eval o).run P w):=by
 simp only[zA,ho]at hco;rcases ZlC hco with h |⟨q',y,n,h,rfl⟩
 ·grind [ZlF]
 ·simp only[opF,evs,zi2,ja,ju]at hop;obtain⟨M1,h1,rfl,rfl,rfl⟩:=hop;obtain⟨p1,p2,rfl⟩:=za1 h1;have hlit:opF cf n0 E M (.lit q' 1 [[y]] [(0,.k (.c (.int .i64 n)))])=some (.w (.c (.slice (n0+q') 1 1 0 1 none)),M.set (n0+q') (some { box:=false,esz:=1,rows:=[[.int .i64 n]],gen:=1,fz:=false,ver:=1 }),.no):=by
   simp[opF,zdS,zcf,Opd.ev,yL,zdR,WV.cells,WV.sls,slC,zcl,zbg,zg,p1]
  rcases ZlF (cf:=cf) ho h hlit hE hag hm hown with⟨v,w',σ',j',r1,r2,r3,r4,r5⟩ |⟨r1,_⟩
  ·obtain⟨σ1,q1,q2,q3,q4,q5⟩:=zhe [n0+q'] r4 r3;have hv:VC σ' j' (.slice (n0+q') 1 1 0 1 none) v:=r2;have hz:=zq9 r4 q1 q2 (c:=.slice (n0+q') 1 1 0 1 none) (c':=.jb [[.int .i64 n]]) (fun id hid=>q5 id hid) (by grind [zdR,look]) hv;have e:zbg (M.set (n0+q') (some { box:=false,esz:=1,rows:=[[.int .i64 n]],gen:=1,fz:=false,ver:=1 })) [n0+q']=M.set (n0+q') (some { box:=false,esz:=1,rows:=[[.int .i64 n]],gen:=1,fz:=true,ver:=2 }):=by
    simp[zbg,zX,p2]
   rw[e]at q3 q4;rw[Ar]at q4;exact .inl ⟨v,w',σ1,j',r1,hz,q2,q3,r5.trans q4⟩
  grind
def zBx{q:Nat}{m:zbz}{o:Oper}{co:CO}{n0:Nat}{av:AV}{M':Mem}{fp:FP}{t:TypeId}{p:Operand}(ho:o.op=.load t p)(hco:zA P q m o=some co)(hop:opF cf n0 E M co=some (av,M',fp))
  (hE:zcs σ j E a.tmps) (hag:zM σ w) (hm:MR own σ j M w) (hown:∀b,w.heap.size<=b->own b):zaa own σ j M w av M' ((execOp a.eval o).run P w):=by
 simp only[zA,ho]at hco;split at hco
 ·rename_i p' g n hp hg hn;cases hco;simp only[opF]at hop;split at hop
  ·rename_i c hc;have:=zaa.qc (zyC hg hn hop (zWl hag.kZ hE hp hc) hag hm)
   grind [execOp]
  grind
 grind
def zzM{q:Nat}{m:zbz}{o:Oper}{co:CO}{n0:Nat}{av:AV}{M':Mem}{fp:FP}{t:TypeId}{p v:Operand}(ho:o.op=.store t p v)(hco:zA P q m o=some co)(hop:opF cf n0 E M co=some (av,M',fp))
  (hE:zcs σ j E a.tmps) (hag:zM σ w) (hm:MR own σ j M w) (hown:∀b,w.heap.size<=b->own b):zaa own σ j M w av M' ((execOp a.eval o).run P w):=by
 simp only[zA,ho]at hco;split at hco
 ·rename_i p' v' n hp hv hn;cases hco;simp only[opF]at hop;split at hop
  ·rename_i c x hc hx;obtain⟨e,w',σ',h1,h2,h3,h4⟩:=zwc hn hop (zWl hag.kZ hE hp hc) (zWl hag.kZ hE hv hx) hag hm;exact .inr ⟨e,w',σ',by simp_all [execOp],h2,h3,h4⟩
  grind
 grind
def zuZ{q:Nat}{m:zbz}{o:Oper}{co:CO}{n0:Nat}{av:AV}{M':Mem}{fp:FP}{x:Operand}(ho:o.op=.nilCheck x)(hco:zA P q m o=some co)(hop:opF cf n0 E M co=some (av,M',fp))
  (hE:zcs σ j E a.tmps) (hag:zM σ w) (hm:MR own σ j M w) (hown:∀b,w.heap.size<=b->own b):zaa own σ j M w av M' ((execOp a.eval o).run P w):=by
 simp only[zA,ho]at hco;simp only[ja]at hco;obtain⟨x',hx,rfl⟩:=hco;simp only[opF]at hop;have hx1:∀c,x'.ev E=some (.c c)->∃v,a.eval x=v/\VC σ j c v:=fun c h=>⟨_,rfl,zWl hag.kZ hE hx h⟩
 split at hop
 ·rename_i id g i k hv;cases hop;obtain⟨v,e,hr⟩:=hx1 _ hv;have hr2:=hr;cases hr;exact .inl ⟨_,w,σ,j,by simp_all [execOp],AVR.cell hr2,hag,hm,za2.refl⟩
 ·rename_i id g hv;cases hop;obtain⟨v,e,hr⟩:=hx1 _ hv;have hr2:=hr;cases hr;exact .inl ⟨_,w,σ,j,by simp_all [execOp],AVR.cell hr2,hag,hm,za2.refl⟩
 ·rename_i f fi ca hv;cases hop;obtain⟨v,e,hr⟩:=hx1 _ hv;have hr2:=hr;cases hr;exact .inl ⟨_,w,σ,j,by simp_all [execOp],AVR.cell hr2,hag,hm,za2.refl⟩
 grind
def zzU{q:Nat}{m:zbz}{o:Oper}{co:CO}{n0:Nat}{av:AV}{M':Mem}{fp:FP}{op:BinOp}{t yt:TypeId}{x y:Operand}(ho:o.op=.binOp op t x y yt)(hco:zA P q m o=some co)(hop:opF cf n0 E M co=some (av,M',fp))
  (hE:zcs σ j E a.tmps) (hag:zM σ w) (hm:MR own σ j M w) (hown:∀b,w.heap.size<=b->own b):zaa own σ j M w av M' ((execOp a.eval o).run P w):=by
 simp only[zA,ho]at hco;split at hco
 ·rename_i x' y' hx hy;split at hco
  ·rename_i k ht;cases hco;simp only[opF]at hop;split at hop
   ·rename_i c d hc hd;have:=zaa.vH hop (fun r hr=>zAI (P:=P) (w:=w) (t:=t) (xo:=x) (yo:=y) hr (zWl hag.kZ hE hx hc) (zWl hag.kZ hE hy hd)) hag hm;simpa only[execOp,ho]using this
   grind
  ·rename_i ht;split at hco
   ·cases hco;simp only[opF]at hop;split at hop
    ·rename_i c d hc hd;have:=zaa.vH hop (fun r hr=>zvo (P:=P) (w:=w) (op:=.eql) (t:=t) (xo:=x) (yo:=y) ht (.inl ⟨rfl,rfl⟩) hr (zWl hag.kZ hE hx hc) (zWl hag.kZ hE hy hd)) hag hm;simpa only[execOp,ho]using this
    grind
   ·cases hco;simp only[opF]at hop;split at hop
    ·rename_i c d hc hd;have:=zaa.vH hop (fun r hr=>zvo (P:=P) (w:=w) (op:=.neq) (t:=t) (xo:=x) (yo:=y) ht (.inr ⟨rfl,rfl⟩) hr (zWl hag.kZ hE hx hc) (zWl hag.kZ hE hy hd)) hag hm;simpa only[execOp,ho]using this
    grind
   ·cases hco
  ·cases hco;simp only[opF]at hop;split at hop
   ·rename_i c d hc hd;split at hop
    ·rename_i r hr;cases hop;unfold p2F at hr;split at hr
     ·rename_i o1 a1 b1 e1;cases e1;simp only[ja]at hr;obtain⟨c1,hc1,rfl⟩:=hr;have hvx:=zWl hag.kZ hE hx hc;have hvy:=zWl hag.kZ hE hy hd;have hvx:VC σ j (.str a1) (a.eval x):=hvx;have hvy:VC σ j (.str b1) (a.eval y):=hvy;generalize hex:a.eval x=ex at hvx;generalize hey:a.eval y=ey at hvy;cases hvx;cases hvy;obtain⟨v,h1,h2⟩:=Dm (σ:=σ) (j:=j) (P:=P) (w:=w) (t:=t) (xo:=x) (yo:=y) hc1;have:=zaa.qc (za0.same h1 (AVR.cell h2) hag hm);simpa only[execOp,ho,hex,hey]using this
     ·grind
     grind
    grind
   grind
  ·rename_i e ht;split at hco
   ·rename_i Aw;have hyn:a.eval y=.pointer none:=by
     unfold zq1 at Aw;split at Aw
     ·rfl
     grind
    split at hco
    ·cases hco;simp only[opF]at hop;split at hop
     ·rename_i c hc;have:=zaa.vH hop (fun r hr=>zq0 (P:=P) (w:=w) (op:=.eql) (t:=t) (xo:=x) (yo:=y) ht (.inl ⟨rfl,rfl⟩) hr (zWl hag.kZ hE hx hc)) hag hm;simpa only[execOp,ho,hyn]using this
     grind
    ·cases hco;simp only[opF]at hop;split at hop
     ·rename_i c hc;have:=zaa.vH hop (fun r hr=>zq0 (P:=P) (w:=w) (op:=.neq) (t:=t) (xo:=x) (yo:=y) ht (.inr ⟨rfl,rfl⟩) hr (zWl hag.kZ hE hx hc)) hag hm;simpa only[execOp,ho,hyn]using this
     grind
    grind
   grind
  ·rename_i fs ht;split at hco
   ·rename_i sh hsh;split at hco
    ·grind
    ·rename_i hgd;have hok:=zs8 10000 t sh hsh;have key:∀{op:BinOp} {neg:Bool} {as bs:List Cl} {c:Cl},(op=.eql/\neg=false)\/(op=.neq/\neg=true)->x'.ev E=some (.a as)->y'.ev E=some (.a bs)->as.length=sh.length->bs.length=sh.length->((zbM sh as bs).map fun r=>Cl.bool (if neg then !r else r))=some c ->
       ∃v,(do eqGuard op t x y (a.eval x) (a.eval y);binOp op t (a.eval x) (a.eval y):Sem Value).run P w=.ok v w/\VC σ j c v:=by
      intro op neg as bs c hopp hxa hyb hl1 hl2 hcc;simp only[ja]at hcc;obtain⟨r,hr,rfl⟩:=hcc;obtain⟨va,hva,hra⟩:=zWl hag.kZ hE hx hxa;obtain⟨vb,hvb,hrb⟩:=zWl hag.kZ hE hy hyb;rw[hva,hvb];obtain⟨_,h1|h1⟩:=hok
      ·have he:=h1.2.2 σ j w as bs va.toList vb.toList r hra hrb hl1 hl2 hr;have he:(Op.equalIn 10000 t (.agg va) (.agg vb)).run P w=.ok r w:=by simpa using he
       rcases hopp with⟨rfl,rfl⟩ |⟨rfl,rfl⟩
       ·refine⟨.bool r,?_,.bool _ _⟩
        grind [Sem.run_bind,run_eqGuard_agg,Result.andThen_ok,run_eql_struct]
       ·refine⟨.bool (!r),?_,.bool _ _⟩
        grind [Sem.run_bind,run_eqGuard_agg,Result.andThen_ok,run_neq_struct]
      grind [zeU]
     split at hco
     ·cases hco;simp only[opF]at hop;split at hop
      ·rename_i c d hc hd;split at hop
       ·rename_i hl;have:=zaa.vH hop (fun r hr=>key (.inl ⟨rfl,rfl⟩) hc hd hl.1 hl.2 hr) hag hm
        grind [execOp]
       grind
      grind
     ·cases hco;simp only[opF]at hop;split at hop
      ·rename_i c d hc hd;split at hop
       ·rename_i hl;have:=zaa.vH hop (fun r hr=>key (.inr ⟨rfl,rfl⟩) hc hd hl.1 hl.2 hr) hag hm
        grind [execOp]
       grind
      grind
     grind
   grind
  ·rename_i ps rs vr ht;split at hco
   ·rename_i Aw;have hyn:a.eval y=.nilFunc:=by
     unfold zxA at Aw;split at Aw
     ·rfl
     grind
    have key:∀{op:BinOp} {neg:Bool},(op=.eql/\neg=false)\/(op=.neq/\neg=true)->opF cf n0 E M (.pop (.AU neg) [x'])=some (av,M',fp)->zaa own σ j M w av M' ((do pure (.value (<-(do eqGuard op t x y (a.eval x) .nilFunc;binOp op t (a.eval x) .nilFunc:Sem Value))):Sem Next).run P w):=by
     intro op neg hopp hop;simp only[opF,evs]at hop;cases hv:x'.ev E with
     |none=>grind
     |some v =>
      rw[hv]at hop;simp only at hop;split at hop
      ·rename_i r hr;cases hop;obtain⟨u,h1,h2⟩:=zvb (P:=P) (w:=w) (t:=t) (xo:=x) (yo:=y) ht hopp hr (zWl hag.kZ hE hx hv)
       grind [zaa.qc,za0.same]
      grind
    split at hco
    ·cases hco;have:=key (.inl ⟨rfl,rfl⟩) hop;simpa only[execOp,ho,hyn]using this
    ·cases hco;have:=key (.inr ⟨rfl,rfl⟩) hop;simpa only[execOp,ho,hyn]using this
    grind
   grind
  grind
 grind
end
end Go.Eng
namespace Go.Eng
open Go
variable[zb0]
section
variable{own:Nat->Prop}{σ:zP}{j:Inj}{M:Mem}{w:World}{E:Nat->Option AV}{a:Act}{P:Program}{cf:za4}
def zi1{n0:Nat}{k:MK}{xs:List Opd}{av:AV}{M':Mem}{fp:FP}(h:opF cf n0 E M (.mop k xs)=some (av,M',fp)):∃vs,evs E xs=some vs/\zCC M k vs=some (av,M',fp):=by
 grind [opF]
theorem zu2{n0 q:Nat}{k:ML}{xs:List Opd}{av:AV}{M':Mem}{fp:FP}(h:opF cf n0 E M (.yV k q xs)=some (av,M',fp)):∃vs,evs E xs=some vs/\zi2 M (n0+q) k vs=some (av,M',fp):=by
 grind [opF]
def zxs{n0:Nat}{k:PK}{xs:List Opd}{av:AV}{M':Mem}{fp:FP}(h:opF cf n0 E M (.pop k xs)=some (av,M',fp)):∃vs r,evs E xs=some vs/\ztH k vs=some r/\av=r/\M'=M:=by
 grind [opF]
def zxE{x y:Opd}{vs:List WV}(h:evs E [x,y]=some vs):∃u v,vs=[u,v]:=by
 grind [evs]
def zqO{x:Operand}{o:Opd}(h:za5 x=some o):zdB [x]=some [o]:=by simp[zdB,h]
def zBr{q:Nat}{m:zbz}{o:Oper}{co:CO}{n0:Nat}{av:AV}{M':Mem}{fp:FP}{op:UnOp}{t:TypeId}{x:Operand}(ho:o.op=.unOp op t x)(hco:zA P q m o=some co)(hop:opF cf n0 E M co=some (av,M',fp))
  (hE:zcs σ j E a.tmps) (hag:zM σ w) (hm:MR own σ j M w) (hown:∀b,w.heap.size<=b->own b):zaa own σ j M w av M' ((execOp a.eval o).run P w):=by
 simp only[zA,ho]at hco;simp only[ja]at hco;obtain⟨x',hx,rfl⟩:=hco;simp only[opF]at hop;split at hop
 ·rename_i c hc;have:=zaa.vH (P:=P) (s:=Op.unary op (a.eval x)) hop (fun r hr=>by
   have hxr:=zWl hag.kZ hE hx hc;unfold unC at hr;split at hr
   ·cases hr;rw[zef hxr];exact⟨_,by simp[Op.unary,Op.intArith],.int _ _ _⟩
   ·cases hr;rw[zmx hxr];exact⟨_,by simp[Op.unary],.bool _ _⟩
   grind) hag hm
  grind [execOp]
 grind
def zwC{q:Nat}{m:zbz}{o:Oper}{co:CO}{n0:Nat}{av:AV}{M':Mem}{fp:FP}{s d:TypeId}{x:Operand}(ho:o.op=.convert s d x)(hco:zA P q m o=some co)(hop:opF cf n0 E M co=some (av,M',fp))
  (hE:zcs σ j E a.tmps) (hag:zM σ w) (hm:MR own σ j M w) (hown:∀b,w.heap.size<=b->own b):zaa own σ j M w av M' ((execOp a.eval o).run P w):=by
 simp only[zA,ho]at hco;split at hco
 ·rename_i k0 k x' hs hd hx;cases hco;simp only[opF]at hop;split at hop
  ·rename_i k1 n hc;have hv:a.eval x=.int k1 n:=zef (zWl hag.kZ hE hx hc);have:=zaa.qc (P:=P) (s:=convert s d (a.eval x)) (za0.same (v:=.int k (k.wrap n)) (by simp_all [convert,run_underlying,Conv.intToInt]) (AVR.cell (.int _ _ _)) hag hm)
   grind [execOp]
  grind
 ·rename_i e x' hs hd hx;split at hco
  ·rename_i hb;cases hco;obtain⟨vs,hvs,hop⟩:=zi1 hop;have:=zaa.qc (zv6 (P:=P) hb hd hop (zbr hag.kZ hE (zqO hx) hvs) hag hm)
   grind [execOp]
  grind
 grind
theorem zu0{q:Nat}{m:zbz}{o:Oper}{co:CO}{n0:Nat}{av:AV}{M':Mem}{fp:FP}{f:FuncId}{fi ca:Array Operand}(ho:o.op=.makeFunc (.func f) fi ca)(hco:zA P q m o=some co)(hop:opF cf n0 E M co=some (av,M',fp))
  (hE:zcs σ j E a.tmps) (hag:zM σ w) (hm:MR own σ j M w) (hown:∀b,w.heap.size<=b->own b):zaa own σ j M w av M' ((execOp a.eval o).run P w):=by
 simp only[zA,ho]at hco;split at hco
 ·rename_i fi' ca' hfi hca;cases hco;simp only[opF]at hop;split at hop
  ·rename_i as bs has hbs;split at hop
   ·rename_i ve;simp only[jk]at ve;have cellsOf:∀{xs:List WV} {vs:List Value},xs.all (fun |.c _=>true |.a _=>false)=true->zac σ j xs vs->VCs σ j (xs.flatMap WV.cells) vs:=by
     intro xs;induction xs with
     |nil=>intro vs _ h;have:=h.vQ;grind [VCs.nil]
     |cons x xs ih =>
      intro vs hx h;obtain⟨v,vs',rfl,h1,h2⟩:=h.kP;cases x with
      |c c=>exact VCs.cons h1 (ih (by grind) h2)
      |a cs=>grind
    have h1:=cellsOf ve.1 (zbr hag.kZ hE hfi has);have h2:=cellsOf ve.2 (zbr hag.kZ hE hca hbs);have:=zaa.qc (P:=P) (s:=Instr.makeFunc (.func f) (fi.map a.eval) (ca.map a.eval)) (za0.same (v:=.func (.func f) (fi.map a.eval) (ca.map a.eval)) (by simp[Instr.makeFunc])
     (AVR.cell (.fn _ f _ _ _ _ (by simpa using h1.1) (by simpa using h2.1) (fun n c v hc hv=>h1.2 n c v hc (by grind)) (fun n c v hc hv=>h2.2 n c v hc (by grind)))) hag hm)
    grind [execOp]
   grind
  grind
 grind
def ztO{q:Nat}{m:zbz}{o:Oper}{co:CO}{n0:Nat}{av:AV}{M':Mem}{fp:FP}{t:TypeId}{l c:Operand}(ho:o.op=.makeSlice t l c)(hco:zA P q m o=some co)(hop:opF cf n0 E M co=some (av,M',fp))
  (hE:zcs σ j E a.tmps) (hag:zM σ w) (hm:MR own σ j M w) (hown:∀b,w.heap.size<=b->own b):zaa own σ j M w av M' ((execOp a.eval o).run P w):=by
 simp only[zA,ho]at hco;split at hco
 ·split at hco
  ·rename_i n b z l' c' hn hb hz hl hc;split at hco
   ·cases hco;simp only[opF]at hop;split at hop
    ·rename_i k1 l1 k2 c1 hl1 hc1;split at hop
     ·simp only[ja]at hop;have hvl:a.eval l=.int k1 l1:=zef (zWl hag.kZ hE hl hl1);have hvc:a.eval c=.int k2 c1:=zef (zWl hag.kZ hE hc hc1)
      grind [zaa.qc,Instr.makeSlice,ztU,execOp]
     grind
    grind
   grind
  grind
 grind
def zzN{q:Nat}{m:zbz}{o:Oper}{co:CO}{n0:Nat}{av:AV}{M':Mem}{fp:FP}{t:TypeId}{x:Operand}{lo hi mx:Option Operand}(ho:o.op=.slice t x lo hi mx)(hco:zA P q m o=some co)(hop:opF cf n0 E M co=some (av,M',fp))
  (hE:zcs σ j E a.tmps) (hag:zM σ w) (hm:MR own σ j M w) (hown:∀b,w.heap.size<=b->own b):zaa own σ j M w av M' ((execOp a.eval o).run P w):=by
 simp only[zA,ho]at hco;split at hco
 ·rename_i e ht;split at hco
  ·rename_i n x' lo' hi' mx' hn hx hlo hhi hmx;cases hco;simp only[opF]at hop;split at hop
   ·rename_i c hc;have:=zaa.vH (P:=P) (s:=Instr.sliceAt t (a.eval x) (lo.map a.eval) (hi.map a.eval) (mx.map a.eval)) hop (fun r hr=>zwj hag.kZ hE ht hn (zWl hag.kZ hE hx hc) hlo hhi hmx hr) hag hm
    grind [execOp]
   grind
  grind
 ·rename_i ht;split at hco
  ·rename_i xs hxs;cases hco;obtain⟨vs,r,hvs,hr,rfl,rfl⟩:=zxs hop;obtain⟨v,h1,h2⟩:=zuJ (P:=P) (w:=w) (lo:=lo.map a.eval) (hi:=hi.map a.eval) ht (by simpa [Option.toList_map]using zbr hag.kZ hE hxs hvs) (by simpa using hr)
   grind [zaa.qc,za0.same,execOp]
  grind
 ·rename_i n e ht;split at hco
  ·rename_i xs hxs;simp only[ja]at hco;obtain⟨es,hes,rfl⟩:=hco;obtain⟨vs,r,hvs,hr,rfl,rfl⟩:=zxs hop;obtain⟨v,h1,h2⟩:=zvH (P:=P) (w:=w) (lo:=lo.map a.eval) (hi:=hi.map a.eval) ht hes (by simpa [Option.toList_map]using zbr hag.kZ hE hxs hvs) (by simpa using hr)
   grind [zaa.qc,za0.same,execOp]
  grind
 grind
def ztQ{q:Nat}{m:zbz}{o:Oper}{co:CO}{n0:Nat}{av:AV}{M':Mem}{fp:FP}{t:TypeId}{x:Operand}{f:Nat}(ho:o.op=.fieldAddr t x f)(hco:zA P q m o=some co)(hop:opF cf n0 E M co=some (av,M',fp))
  (hE:zcs σ j E a.tmps) (hag:zM σ w) (hm:MR own σ j M w) (hown:∀b,w.heap.size<=b->own b):zaa own σ j M w av M' ((execOp a.eval o).run P w):=by
 simp only[zA,ho]at hco;split at hco
 ·rename_i fs x' ht hx;split at hco
  ·rename_i fd hf;split at hco
   ·rename_i n hn;split at hco
    ·grind
    ·rename_i h0;cases hco;simp only[opF]at hop;split at hop
     ·rename_i c hc;have:=zaa.vH (P:=P) (s:=Instr.fieldAt t (a.eval x) f) hop (fun r hr=>zwY ht hf hn h0 hr (zWl hag.kZ hE hx hc)) hag hm
      grind [execOp]
     grind
   grind
  grind
 grind
def zzR{q:Nat}{m:zbz}{o:Oper}{co:CO}{n0:Nat}{av:AV}{M':Mem}{fp:FP}{t:TypeId}{x:Operand}{f:Nat}(ho:o.op=.field t x f)(hco:zA P q m o=some co)(hop:opF cf n0 E M co=some (av,M',fp))
  (hE:zcs σ j E a.tmps) (hag:zM σ w) (hm:MR own σ j M w) (hown:∀b,w.heap.size<=b->own b):zaa own σ j M w av M' ((execOp a.eval o).run P w):=by
 simp only[zA,ho]at hco;split at hco
 ·rename_i fs x' ht hx;split at hco
  ·split at hco
   ·rename_i n g hn hg;cases hco;simp only[opF]at hop;split at hop
    ·rename_i cs hc;split at hop
     ·rename_i cs' Be;simp only[ja]at hop;obtain⟨v,hv,he⟩:=hop;obtain⟨arr,B9,hr⟩:=zWl hag.kZ hE hx hc;obtain⟨u,h1,h2⟩:=zsW (P:=P) (w:=w) hn hg hr Be hv;have:=zaa.qc (P:=P) (s:=Instr.field t (a.eval x) f) (za0.same (v:=u) (by simp_all [Instr.field,run_underlying,asAgg]) (AVR.ofW h2) hag hm)
      grind [execOp]
     grind
    grind
   grind
  grind
 grind
def ztP{q:Nat}{m:zbz}{o:Oper}{co:CO}{n0:Nat}{av:AV}{M':Mem}{fp:FP}{t:TypeId}{x i:Operand}(ho:o.op=.indexAddr t x i)(hco:zA P q m o=some co)(hop:opF cf n0 E M co=some (av,M',fp))
  (hE:zcs σ j E a.tmps) (hag:zM σ w) (hm:MR own σ j M w) (hown:∀b,w.heap.size<=b->own b):zaa own σ j M w av M' ((execOp a.eval o).run P w):=by
 simp only[zA,ho]at hco;split at hco
 ·rename_i e x' i' ht hx hi;split at hco
  ·rename_i n hn;cases hco;simp only[opF]at hop;split at hop
   ·rename_i c d hc hd;have:=zaa.vH (P:=P) (s:=Instr.indexAt t (a.eval x) (a.eval i)) hop (fun r hr=>zwV ht hn hr (zWl hag.kZ hE hx hc) (zWl hag.kZ hE hi hd)) hag hm
    grind [execOp]
   grind
  grind
 ·rename_i len e x' i' ht hx hi;split at hco
  ·rename_i n hn;cases hco;simp only[opF]at hop;split at hop
   ·rename_i c d hc hd;have:=zaa.vH (P:=P) (s:=Instr.indexAt t (a.eval x) (a.eval i)) hop (fun r hr=>zxe ht hn hr (zWl hag.kZ hE hx hc) (zWl hag.kZ hE hi hd)) hag hm
    grind [execOp]
   grind
  grind
 grind
def zzQ{q:Nat}{m:zbz}{o:Oper}{co:CO}{n0:Nat}{av:AV}{M':Mem}{fp:FP}{t:TypeId}{x i:Operand}(ho:o.op=.index t x i)(hco:zA P q m o=some co)(hop:opF cf n0 E M co=some (av,M',fp))
  (hE:zcs σ j E a.tmps) (hag:zM σ w) (hm:MR own σ j M w) (hown:∀b,w.heap.size<=b->own b):zaa own σ j M w av M' ((execOp a.eval o).run P w):=by
 simp only[zA,ho]at hco;split at hco
 ·rename_i len e x' i' ht hx hi;split at hco
  ·rename_i n g hn hg;split at hco
   ·cases hco;simp only[opF]at hop;split at hop
    ·rename_i cs k m hc hd;split at hop
     ·rename_i q hq;split at hop
      ·rename_i cs' Be;simp only[ja]at hop;obtain⟨v,hv,he⟩:=hop;obtain⟨arr,B9,hr⟩:=zWl hag.kZ hE hx hc;have hvi:a.eval i=.int k m:=zef (zWl hag.kZ hE hi hd);obtain⟨h1,h2,h3,h4⟩:=zg9 hq;have hcut':cut cs (q*n) (if g then n else 1)=some cs':=by
        grind
       obtain⟨u,q1,q2⟩:=zsW (P:=P) (w:=w) hn hg hr hcut' hv;have:=zaa.qc (P:=P) (s:=Instr.index t (a.eval x) (a.eval i)) (za0.same (v:=u) (by simp_all [Instr.index,asIntOf,run_underlying,zaJ]) (AVR.ofW q2) hag hm)
       grind [execOp]
      grind
     grind
    grind
   grind
  grind
 ·rename_i x' i' ht hx hi;cases hco;simp only[opF]at hop;split at hop
  ·rename_i c d hc hd;split at hop
   ·rename_i r hr;unfold p2F at hr;split at hr
    ·grind
    ·rename_i s1 k1 n1 _;split at hr
     ·simp only[ja]at hr;obtain⟨b,hb,rfl⟩:=hr;have hvx:VC σ j (.str s1) (a.eval x):=zWl hag.kZ hE hx hc;have hvi:a.eval i=.int k1 n1:=zef (zWl hag.kZ hE hi hd);have hex:a.eval x=.string s1:=by
       generalize a.eval x=v at hvx;cases hvx;rfl
      have:=zaa.qc (P:=P) (s:=Instr.index t (a.eval x) (a.eval i)) (za0.same (v:=.int .u8 b.toNat) (by simp_all [Instr.index,asIntOf,run_underlying]) (AVR.cell (.int _ _ _)) hag hm)
      grind [execOp]
     grind
    grind
   grind
  grind
 grind
def zwB{q:Nat}{m:zbz}{o:Oper}{co:CO}{n0:Nat}{av:AV}{M':Mem}{fp:FP}{t:Operand}{i:Nat}(ho:o.op=.extract t i)(hco:zA P q m o=some co)(hop:opF cf n0 E M co=some (av,M',fp))
  (hE:zcs σ j E a.tmps) (hag:zM σ w) (hm:MR own σ j M w) (hown:∀b,w.heap.size<=b->own b):zaa own σ j M w av M' ((execOp a.eval o).run P w):=by
 simp only[zA,ho]at hco;split at hco
 ·rename_i t';cases hco;simp only[opF]at hop;split at hop
  ·rename_i xs hxs;split at hop
   ·rename_i v hv;obtain⟨arr,B9,hr⟩:=zqt hE hxs;obtain⟨u,hu,hur⟩:=hr.get hv;have:=zaa.qc (P:=P) (s:=Instr.extract (a.eval (.tmp t')) i) (za0.same (v:=u) (by simp_all [Instr.extract]) (AVR.ofW hur) hag hm)
    grind [execOp]
   grind
  grind
 grind
theorem zBw{q:Nat}{m:zbz}{o:Oper}{co:CO}{n0:Nat}{av:AV}{M':Mem}{fp:FP}{t:TypeId}{x:Operand}(ho:o.op=.makeInterface t x)(hco:zA P q m o=some co)(hop:opF cf n0 E M co=some (av,M',fp))
  (hE:zcs σ j E a.tmps) (hag:zM σ w) (hm:MR own σ j M w) (hown:∀b,w.heap.size<=b->own b):zaa own σ j M w av M' ((execOp a.eval o).run P w):=by
 simp only[zA,ho]at hco;split at hco
 ·grind
 ·rename_i d x' hni hd hx;cases hco;simp only[opF]at hop;split at hop
  ·rename_i v hv;split at hop
   ·rename_i r hr;obtain⟨_,Bs⟩:=zxt hr (zWl hag.kZ hE hx hv);have ui:(Instr.makeInterface t (a.eval x)).run P w=.ok (.iface t (a.eval x)) w:=by
     simp only[Instr.makeInterface,Sem.run_bind,run_underlying hd,Result.andThen_ok];cases d<;>first |rfl |exact absurd rfl (hni _)
    grind [zaa.qc,za0.same,execOp]
   grind
  grind
 grind
def zBs{q:Nat}{m:zbz}{o:Oper}{co:CO}{n0:Nat}{av:AV}{M':Mem}{fp:FP}{x:Operand}{tx t:TypeId}{ok:Bool}(ho:o.op=.typeAssert x tx t ok)(hco:zA P q m o=some co)(hop:opF cf n0 E M co=some (av,M',fp))
  (hE:zcs σ j E a.tmps) (hag:zM σ w) (hm:MR own σ j M w) (hown:∀b,w.heap.size<=b->own b):zaa own σ j M w av M' ((execOp a.eval o).run P w):=by
 simp only[zA,ho]at hco;split at hco
 ·grind
 ·rename_i d zw x' hni hd hz hx;cases hco;simp only[opF]at hop;split at hop
  ·rename_i v hv;split at hop
   ·rename_i r hr;cases hop;obtain⟨i,zv,hi,hzv,hzc⟩:∃i zv,P.info? t=some i/\i.zero=some zv/\zzh zv=some zw:=by
     grind [znJ]
    have hzrun:(zeroValue t).run P w=.ok zv w:=zcJ hi hzv;have CR:WVR σ j zw zv:=zkd hzc;have Bs:=zxt hr (zWl hag.kZ hE hx hv);have nb:∀{e:Value} {rr:AV},(Instr.typeAssert (a.eval x) tx t ok).run P w=.ok e w->AVR σ j rr e->zaa own σ j M w rr M ((execOp a.eval o).run P w):=by
     grind [zaa.qc,za0.same,execOp]
    obtain⟨t',u',⟨he,⟨ht,hrr⟩ |⟨ht,hok,rfl⟩⟩ |⟨he,hok,rfl⟩⟩:=Bs
    ·refine nb ?_ hrr;rw[he];simp only[Instr.typeAssert,Sem.run_bind,run_underlying hd,Result.andThen_ok];cases d<;>first |exact absurd rfl (hni _) |simp[ht]
    ·refine nb (e:=.tuple #[zv,.bool false]) ?_ ⟨_,rfl,zac.cons CR (zac.cons (show WVR σ j (.c (.bool false)) _ from .bool _ _) zac.nil)⟩;rw[he];simp only[Instr.typeAssert,Sem.run_bind,run_underlying hd,Result.andThen_ok];cases d<;>first |exact absurd rfl (hni _) |simp[ht,hok,hzrun]
    ·refine nb (e:=.tuple #[zv,.bool false]) ?_ ⟨_,rfl,zac.cons CR (zac.cons (show WVR σ j (.c (.bool false)) _ from .bool _ _) zac.nil)⟩;rw[he];simp only[Instr.typeAssert,Sem.run_bind,run_underlying hd,Result.andThen_ok];cases d<;>first |exact absurd rfl (hni _) |simp[hok,hzrun]
   grind
  grind
 grind
def zBz{q:Nat}{m:zbz}{o:Oper}{co:CO}{n0:Nat}{av:AV}{M':Mem}{fp:FP}{c:Call}(hnc:co.CA=false)(ho:o.op=.call c)(hco:zA P q m o=some co)(hop:opF cf n0 E M co=some (av,M',fp))
  (hE:zcs σ j E a.tmps) (hag:zM σ w) (hm:MR own σ j M w) (hown:∀b,w.heap.size<=b->own b):zaa own σ j M w av M' ((execOp a.eval o).run P w):=by
 simp only[zA,ho]at hco;obtain⟨callee,args,argTypes⟩:=c;cases callee with
 |value f =>
  simp only at hco;split at hco
  ·cases hco;cases hnc
  grind
 |invoke r mm=>grind
 |builtin b =>
  cases b with
  |len =>
   simp only at hco;split at hco
   ·rename_i t x htl hxl;have e1:argTypes = #[t]:=qz (by grind);have e2:args = #[x]:=qz (by grind);subst e1;subst e2;split at hco
    ·rename_i e x' ht hx;cases hco;simp only[opF]at hop;have fin:∀n:Nat,(∃ad c,a.eval x=.slice ad n c)->av=.w (.c (.int .i64 n))->M'=M->zaa own σ j M w av M' ((execOp a.eval o).run P w):=by
      rintro n ⟨ad,c,hv⟩ rfl rfl;refine .inl ⟨.int .i64 n,w,σ,j,?_,AVR.cell (.int _ _ _),hag,hm,za2.refl⟩
      simp_all [execOp,resolve,invoke,builtin,Builtin.len_,run_underlying,goInt]
     split at hop
     ·rename_i id g es off len cap hc;cases hop;have hr:VC σ j _ _:=zWl hag.kZ hE hx hc;generalize hv:a.eval x=v at hr;cases hr
      grind
     ·rename_i es rows cap hc;cases hop;have hr:VC σ j _ _:=zWl hag.kZ hE hx hc;generalize hv:a.eval x=v at hr;cases hr
      grind
     ·rename_i hc;cases hop;have hr:VC σ j _ _:=zWl hag.kZ hE hx hc;generalize hv:a.eval x=v at hr;cases hr
      grind
     ·rename_i hc;cases hop;have hr:VC σ j _ _:=zWl hag.kZ hE hx hc;generalize hv:a.eval x=v at hr;cases hr
      grind
     grind
    ·rename_i x' ht hx;cases hco;simp only[opF]at hop;split at hop
     ·rename_i s hc;cases hop;have hr:VC σ j _ _:=zWl hag.kZ hE hx hc;generalize hv:a.eval x=v at hr;cases hr;refine .inl ⟨.int .i64 s.size,w,σ,j,?_,AVR.cell (.int _ _ _),hag,hm,za2.refl⟩
      simp_all [execOp,resolve,invoke,builtin,Builtin.len_,run_underlying,goInt]
     grind
    ·rename_i kt e x' ht hx;cases hco;obtain⟨vs,hvs,hop⟩:=zi1 hop;have:=zaa.qc (zyv (P:=P) (ty:=o.type) ht hop (zbr hag.kZ hE (zqO hx) hvs) hag hm)
     grind [execOp,resolve,invoke,builtin]
    grind
   grind
  |delete =>
   simp only at hco;split at hco
   ·rename_i t u m k htl hxl;have e1:argTypes = #[t,u]:=qz (by grind);subst e1;simp only[ja]at hco;obtain⟨g,hg,rfl⟩:=hco;obtain⟨vs,hvs,hop⟩:=zi1 hop;have hr:=zbr hag.kZ hE hxl hvs;obtain⟨y,z,hyz⟩:=zxE hvs;subst hyz;obtain⟨v1,r1,q1,_,h2⟩:=hr.kP;obtain⟨v2,r2,q2,_,h3⟩:=h2.kP;have q3:=h3.vQ;subst q3;subst q2;rw[q1]at hr;have:=zaa.qc (zAt (P:=P) (ty:=o.type) (u:=u) hg hop hr hag hm);have ea:args.map a.eval = #[v1,v2]:=qz (by simp_all)
    grind [execOp,resolve,invoke,builtin]
   grind
  |copy =>
   simp only at hco;split at hco
   ·rename_i t u m k htl hxl;have e1:argTypes = #[t,u]:=qz (by grind);subst e1;split at hco
    ·rename_i e e' ht hu;simp only[ja]at hco;obtain⟨n,hn,rfl⟩:=hco;obtain⟨vs,hvs,hop⟩:=zi1 hop;have hr:=zbr hag.kZ hE hxl hvs;obtain⟨y,z,hyz⟩:=zxE hvs;subst hyz;obtain⟨v1,r1,q1,_,h2⟩:=hr.kP;obtain⟨v2,r2,q2,_,h3⟩:=h2.kP;have q3:=h3.vQ;subst q3;subst q2;rw[q1]at hr;have:=zaa.qc (zyW (P:=P) (ty:=o.type) ht hu hn hop hr hag hm);have ea:args.map a.eval = #[v1,v2]:=qz (by simp_all)
     grind [execOp,resolve,invoke,builtin]
    grind
   grind
  |max =>
   simp only[ja]at hco;obtain⟨xs,hxs,rfl⟩:=hco;simp only[opF]at hop;split at hop
   ·rename_i k n r hr;obtain⟨c,hc,rfl,rfl,rfl⟩:=zqL hop;have hvs:=zbr hag.kZ hE hxs hr;obtain⟨v0,vs,hl,h1,h2⟩:=hvs.kP;obtain⟨u,q1,q2⟩:=zoT (P:=P) (w:=w) (mx:=true) hc h2;have hv0:v0=.int k n:=zef h1;subst hv0;refine .inl ⟨u,w,σ,j,?_,AVR.cell q2,hag,hm,za2.refl⟩
    simp_all [if_true,execOp,resolve,invoke,builtin,Builtin.max_]
   grind
  |min =>
   simp only[ja]at hco;obtain⟨xs,hxs,rfl⟩:=hco;simp only[opF]at hop;split at hop
   ·rename_i k n r hr;obtain⟨c,hc,rfl,rfl,rfl⟩:=zqL hop;have hvs:=zbr hag.kZ hE hxs hr;obtain⟨v0,vs,hl,h1,h2⟩:=hvs.kP;obtain⟨u,q1,q2⟩:=zoT (P:=P) (w:=w) (mx:=false) hc h2;have hv0:v0=.int k n:=zef h1;subst hv0;refine .inl ⟨u,w,σ,j,?_,AVR.cell q2,hag,hm,za2.refl⟩
    simp_all [jI,if_false,execOp,resolve,invoke,builtin,Builtin.min_]
   grind
  |append =>
   simp only at hco;split at hco
   ·rename_i t u s x htl hxl;have e1:argTypes = #[t,u]:=qz (by simpa using htl);have e2:args = #[s,x]:=qz (by simpa using hxl);subst e1;subst e2;split at hco
    ·rename_i e e' ht hu;split at hco
     ·rename_i n b z s' x' hn hb hz hs hx;split at hco
      ·rename_i yJ;cases hco;simp only[opF]at hop;split at hop
       ·rename_i c d hc hd;have:=zaa.qc (zvJ (P:=P) (ty:=o.type) ht ⟨e',hu⟩ hn hb hz yJ.2 yJ.1 hop (zWl hag.kZ hE hs hc) (zWl hag.kZ hE hx hd) hag hm hown);simpa [execOp,ho,resolve,invoke,builtin]using this
       ·cases hop
      ·cases hco
     ·cases hco
    ·cases hco
   grind
  |clear =>
   simp only at hco;split at hco
   ·rename_i t x htl hxl;have e1:argTypes = #[t]:=qz (by simpa using htl);have e2:args = #[x]:=qz (by simpa using hxl);subst e1;subst e2;split at hco
    ·rename_i e ht;split at hco
     ·rename_i z x' hz hx;cases hco;simp only[opF]at hop;split at hop
      ·rename_i c hc;have:=zaa.qc (zw7 (P:=P) (ty:=o.type) ht hz hop hag hm (zWl hag.kZ hE hx hc));simpa [execOp,ho,resolve,invoke,builtin]using this
      ·cases hop
     ·cases hco
    ·cases hco
   ·cases hco
  |_=>cases hco
def zwA{q:Nat}{m:zbz}{o:Oper}{co:CO}{n0:Nat}{av:AV}{M':Mem}{fp:FP}{t:TypeId}{r:Option Operand}(ho:o.op=.makeMap t r)(hco:zA P q m o=some co)(hop:opF cf n0 E M co=some (av,M',fp))
  (hE:zcs σ j E a.tmps) (hag:zM σ w) (hm:MR own σ j M w) (hown:∀b,w.heap.size<=b->own b):zaa own σ j M w av M' ((execOp a.eval o).run P w):=by
 simp only[zA,ho]at hco;cases r with
 |some r=>grind
 |none =>
  simp only[ja]at hco
  grind [zu2,zaa.qc,zwG,execOp]
def zyn{q:Nat}{m:zbz}{o:Oper}{co:CO}{n0:Nat}{av:AV}{M':Mem}{fp:FP}{t:TypeId}{x i:Operand}{ok:Bool}(ho:o.op=.lookup t x i ok)(hco:zA P q m o=some co)(hop:opF cf n0 E M co=some (av,M',fp))
  (hE:zcs σ j E a.tmps) (hag:zM σ w) (hm:MR own σ j M w) (hown:∀b,w.heap.size<=b->own b):zaa own σ j M w av M' ((execOp a.eval o).run P w):=by
 simp only[zA,ho]at hco;split at hco
 ·rename_i g z xs hg hz hxs;split at hco
  ·cases hco;obtain⟨vs,hvs,hop⟩:=zi1 hop;have:=zaa.qc (zAr (P:=P) hg hz hop (zbr hag.kZ hE hxs hvs) hag hm)
   grind [execOp]
  grind
 grind
def zzO{t:TypeId}{g:Bool}{xs:List Opd}{mm k v:Operand}{n0:Nat}{av:AV}{M':Mem}{fp:FP}(hg:zpP P t=some g)(hxs:zdB [mm,k,v]=some xs)(hop:opF cf n0 E M (.mop (.set g) xs)=some (av,M',fp))(hE:zcs σ j E a.tmps)(hag:zM σ w)(hm:MR own σ j M w) :
  zaa own σ j M w av M' ((do Instr.mapUpdate t (a.eval mm) (a.eval k) (a.eval v);pure .skip:Sem Next).run P w):=by
 obtain⟨vs,hvs,hop⟩:=zi1 hop;obtain⟨rfl,w',σ',h1,h2,h3,h4⟩:=ZlE (P:=P) hg hop (zbr hag.kZ hE hxs hvs) hag hm;exact .inr ⟨rfl,w',σ',by simp[h1],h2,h3,h4⟩
def ztN{q:Nat}{m:zbz}{o:Oper}{co:CO}{n0:Nat}{av:AV}{M':Mem}{fp:FP}{t:TypeId}{x k v:Operand}(ho:o.op=.mapUpdate t x k v)(hco:zA P q m o=some co)(hop:opF cf n0 E M co=some (av,M',fp))
  (hE:zcs σ j E a.tmps) (hag:zM σ w) (hm:MR own σ j M w) (hown:∀b,w.heap.size<=b->own b):zaa own σ j M w av M' ((execOp a.eval o).run P w):=by
 simp only[zA,ho]at hco;split at hco
 ·rename_i g xs hg hxs;cases hco;have:=zzO (cf:=cf) hg hxs hop hE hag hm;simpa [execOp,ho]using this
 ·cases hco
def zyo{q:Nat}{m:zbz}{o:Oper}{co:CO}{n0:Nat}{av:AV}{M':Mem}{fp:FP}{t:TypeId}{x k v:Operand}(ho:o.op=.insert t x k v)(hco:zA P q m o=some co)(hop:opF cf n0 E M co=some (av,M',fp))
  (hE:zcs σ j E a.tmps) (hag:zM σ w) (hm:MR own σ j M w) (hown:∀b,w.heap.size<=b->own b):zaa own σ j M w av M' ((execOp a.eval o).run P w):=by
 simp only[zA,ho]at hco;split at hco
 ·rename_i g xs hg hxs;cases hco;have:=zzO (cf:=cf) hg hxs hop hE hag hm;simpa [execOp,ho]using this
 ·cases hco
def zzP{q:Nat}{m:zbz}{o:Oper}{co:CO}{n0:Nat}{av:AV}{M':Mem}{fp:FP}{t:TypeId}{x:Operand}(ho:o.op=.range t x)(hco:zA P q m o=some co)(hop:opF cf n0 E M co=some (av,M',fp))
  (hE:zcs σ j E a.tmps) (hag:zM σ w) (hm:MR own σ j M w) (hown:∀b,w.heap.size<=b->own b):zaa own σ j M w av M' ((execOp a.eval o).run P w):=by
 simp only[zA,ho]at hco;split at hco
 ·rename_i g xs hg hxs;cases hco;obtain⟨vs,hvs,hop⟩:=zu2 hop;have:=zaa.qc (zwx (P:=P) hg hop (zbr hag.kZ hE hxs hvs) hag hm hown)
  grind [execOp]
 grind
def zBu{q:Nat}{m:zbz}{o:Oper}{co:CO}{n0:Nat}{av:AV}{M':Mem}{fp:FP}{x:Operand}{isS:Bool}(ho:o.op=.next x isS)(hco:zA P q m o=some co)(hop:opF cf n0 E M co=some (av,M',fp))
  (hE:zcs σ j E a.tmps) (hag:zM σ w) (hm:MR own σ j M w) (hown:∀b,w.heap.size<=b->own b):zaa own σ j M w av M' ((execOp a.eval o).run P w):=by
 simp only[zA,ho]at hco;cases isS with
 |true=>grind
 |false =>
  simp only[ja]at hco;obtain⟨xs,hxs,rfl⟩:=hco;obtain⟨vs,hvs,hop⟩:=zi1 hop;have:=zaa.qc (zys (P:=P) (ty:=o.type) hop (zbr hag.kZ hE hxs hvs) hag hm)
  grind [execOp]
def zzS{q:Nat}{m:zbz}{o:Oper}{co:CO}{n0:Nat}{av:AV}{M':Mem}{fp:FP}{x:Operand}(ho:o.op=.entry x)(hco:zA P q m o=some co)(hop:opF cf n0 E M co=some (av,M',fp))
  (hE:zcs σ j E a.tmps) (hag:zM σ w) (hm:MR own σ j M w) (hown:∀b,w.heap.size<=b->own b):zaa own σ j M w av M' ((execOp a.eval o).run P w):=by
 simp only[zA,ho]at hco;simp only[ja]at hco;obtain⟨xs,hxs,rfl⟩:=hco;obtain⟨vs,hvs,hop⟩:=zi1 hop;have:=zaa.qc (zw0 (P:=P) hop (zbr hag.kZ hE hxs hvs) hag hm)
 grind [execOp]
def zBy{q:Nat}{m:zbz}{o:Oper}{co:CO}{n0:Nat}{av:AV}{M':Mem}{fp:FP}(hnc:co.CA=false)(hco:zA P q m o=some co)(hop:opF cf n0 E M co=some (av,M',fp))
  (hE:zcs σ j E a.tmps) (hag:zM σ w) (hm:MR own σ j M w) (hown:∀b,w.heap.size<=b->own b):zaa own σ j M w av M' ((execOp a.eval o).run P w):=by
 cases ho:o.op with
 |move x=>exact zBv ho hco hop hE hag hm hown
 |assign x=>exact zyp ho hco hop hE hag hm hown
 |pick x y z=>exact zBt ho hco hop hE hag hm hown
 |alloc t=>exact zzV ho hco hop hE hag hm hown
 |box t x=>exact zCz ho hco hop hE hag hm hown
 |build t p=>exact zzT ho hco hop hE hag hm hown
 |buildSlice t n p=>exact zr7 ho hco hop hE hag hm hown
 |load t p=>exact zBx ho hco hop hE hag hm hown
 |store t p v=>exact zzM ho hco hop hE hag hm hown
 |nilCheck x=>exact zuZ ho hco hop hE hag hm hown
 |binOp op t x y yt=>exact zzU ho hco hop hE hag hm hown
 |unOp op t x=>exact zBr ho hco hop hE hag hm hown
 |convert s d x=>exact zwC ho hco hop hE hag hm hown
 |makeSlice t l c=>exact ztO ho hco hop hE hag hm hown
 |slice t x l h m=>exact zzN ho hco hop hE hag hm hown
 |fieldAddr t x f=>exact ztQ ho hco hop hE hag hm hown
 |field t x f=>exact zzR ho hco hop hE hag hm hown
 |indexAddr t x i=>exact ztP ho hco hop hE hag hm hown
 |index t x i=>exact zzQ ho hco hop hE hag hm hown
 |extract t i=>exact zwB ho hco hop hE hag hm hown
 |call c=>exact zBz hnc ho hco hop hE hag hm hown
 |makeInterface t x=>grind [zBw]
 |typeAssert x tx t ok=>exact zBs ho hco hop hE hag hm hown
 |makeMap t r=>exact zwA ho hco hop hE hag hm hown
 |lookup t x i ok=>exact zyn ho hco hop hE hag hm hown
 |mapUpdate t x k v=>exact ztN ho hco hop hE hag hm hown
 |insert t x k v=>exact zyo ho hco hop hE hag hm hown
 |range t x=>exact zzP ho hco hop hE hag hm hown
 |next x s=>exact zBu ho hco hop hE hag hm hown
 |entry x=>exact zzS ho hco hop hE hag hm hown
 |makeFunc fn fi ca =>
  grind [zu0,zA]
 |_=>simp only[zA,ho]at hco;cases hco
end
end Go.Eng
namespace Go.Eng
open Go
variable[zb0]
def zi8(ρ:Nat->Option Nat)(j j':Inj):Prop:=∀id id' g pl,ρ id=some id'->j id g=some pl->j' id' g=some pl
section
variable{own:Nat->Prop}{σ:zP}{j j':Inj}{M:Mem}{w:World}{P:Program}{ρ:Nat->Option Nat}
def zbC(hr:zi8 ρ j j'){c c':Cl}{v:Value}(h:qJ ρ c=some c')(hv:VC σ j c v):VC σ j' c' v:=by
 cases hv with
 |ptr _ id g i k L hL =>
  simp only[qJ,ja]at h;obtain⟨id',hid,rfl⟩:=h;exact .ptr _ _ _ _ _ L (hr _ _ _ _ hid hL)
 |slice _ id g es off len cap pl a c hj hl hc ha =>
  simp only[qJ,ja]at h;obtain⟨id',hid,rfl⟩:=h;exact .slice _ _ _ _ _ _ _ pl _ _ (hr _ _ _ _ hid hj) hl hc ha
 |fn _ f fi ca fi' ca' l1 l2 h1 h2 =>
  unfold qJ at h;split at h<;>first
   |(rename_i heq;cases heq;done)
   |skip
  ·rename_i heq;cases heq;cases h;exact .fn _ _ _ _ _ _ l1 l2 (fun n c v hc _=>by grind) (fun n c v hc _=>by grind)
  ·grind
  grind
 |yv=>grind [qJ]
 |yu=>grind [qJ]
 |yld _ id f sh l r h0 =>
  simp only[qJ,ja]at h;obtain⟨id',hid,rfl⟩:=h;exact .yld _ _ _ _ l r (hr _ _ _ _ hid h0)
 |map _ id g l h0 =>
  simp only[qJ,ja]at h;obtain⟨id',hid,rfl⟩:=h;exact .map _ _ _ l (hr _ _ _ _ hid h0)
 |mit _ id l h0 =>
  simp only[qJ,ja]at h;obtain⟨id',hid,rfl⟩:=h;exact .mit _ _ l (hr _ _ _ _ hid h0)
 |bsl _ id g i k es len cap L a h0 hl ha =>
  simp only[qJ,ja]at h;obtain⟨id',hid,rfl⟩:=h;exact .bsl _ _ _ _ _ _ _ _ L a (hr _ _ _ _ hid h0) hl ha
 |qS=>simp only[qJ,ji]at h;subst h;exact .qS _
 |bool=>simp only[qJ,ji]at h;subst h;exact .bool _ _
 |int=>simp only[qJ,ji]at h;subst h;exact .int _ _ _
 |str=>simp only[qJ,ji]at h;subst h;exact .str _ _
 |uQ _ row k b o val h1 h2=>simp only[qJ,ji]at h;subst h;exact .uQ _ row k b o val h1 h2
 |kX=>simp only[qJ,ji]at h;subst h;exact .kX _
 |jb _ esz rows a c b o val q1 q3 q4 q5 q6=>simp only[qJ,ji]at h;subst h;exact .jb _ esz rows a c b o val q1 q3 q4 q5 q6
 |jc=>simp only[qJ,ji]at h;subst h;exact .jc _
 |qT=>simp only[qJ,ji]at h;subst h;exact .qT _
 |qA=>simp only[qJ,ji]at h;subst h;exact .qA _
def zhk(hr:zi8 ρ j j'):∀{cs cs':List Cl} {vs:List Value},Aa ρ cs=some cs'->VCs σ j cs vs->VCs σ j' cs' vs
 |[],cs',vs,h,hv=>by simp only[Aa,ji]at h;have:=hv.vQ;grind [VCs.nil]
 |c::cs,cs',vs,h,hv=>by
  simp only[Aa]at h;split at h
  ·rename_i y ys hy hys;cases h;obtain⟨v,vs',rfl,h1,h2⟩:=hv.kP;exact VCs.cons (zbC hr hy h1) (zhk hr hys h2)
  grind
theorem zko(hr:zi8 ρ j j'){c c':Cl}{v:Value}(h:zeS ρ c=some c')(hv:VC σ j c v):VC σ j' c' v:=by
 cases hv with
 |yld _ id f sh l r h0=>exact zbC (c:=.yld id f sh) hr h (.yld _ id f sh l r h0)
 |map _ id g l h0=>exact zbC (c:=.map id g) hr h (.map _ id g l h0)
 |mit _ id l h0=>exact zbC (c:=.mit id) hr h (.mit _ id l h0)
 |bsl _ id g i k es len cap L a h0 hl ha=>exact zbC (c:=.bsl id g i k es len cap) hr h (.bsl _ id g i k es len cap L a h0 hl ha)
 |fn _ f fi ca fi' ca' l1 l2 h1 h2 =>
  simp only[zeS]at h;split at h
  ·rename_i x y hx hy;cases h;have q1:=zhk (σ:=σ) hr hx ⟨l1,h1⟩;have q2:=zhk (σ:=σ) hr hy ⟨l2,h2⟩;exact .fn _ f x y fi' ca' q1.1 q2.1 q1.2 q2.2
  grind
 |yv _ t c v hv =>
  simp only[zeS,ja]at h;obtain⟨cs,hcs,rfl⟩:=h;have q:=zhk (σ:=σ) hr hcs (VCs.cons hv VCs.nil)
  match cs,q with
  |[c'],q =>
   obtain⟨u,us,hu,q1,q2⟩:=q.kP;cases hu;exact .yv _ t c' v q1
  |[],q=>have:=q.1;grind
  |_::_::_,q=>have:=q.1;grind
 |yu _ t cs vs l hv =>
  simp only[zeS,ja]at h;obtain⟨cs',hcs,rfl⟩:=h;have q:=zhk (σ:=σ) hr hcs ⟨l,hv⟩;exact .yu _ t cs' vs q.1 q.2
 |ptr _ id g i k L hL=>exact zbC (c:=.ptr id g i k) hr h (.ptr _ id g i k L hL)
 |slice _ id g es off len cap pl a c hj hl hc ha=>exact zbC (c:=.slice id g es off len cap) hr h (.slice _ id g es off len cap pl a c hj hl hc ha)
 |bool=>exact zbC (c:=.bool _) hr h (.bool _ _)
 |int=>exact zbC (c:=.int _ _) hr h (.int _ _ _)
 |str=>exact zbC (c:=.str _) hr h (.str _ _)
 |uQ _ row k b o val h1 h2=>exact zbC (c:=.uQ row k) hr h (.uQ _ row k b o val h1 h2)
 |kX=>exact zbC (c:=.kX) hr h (.kX _)
 |jb _ esz rows a c b o val q1 q3 q4 q5 q6=>exact zbC (c:=.jb rows) hr h (.jb _ esz rows a c b o val q1 q3 q4 q5 q6)
 |jc=>exact zbC (c:=.jc) hr h (.jc _)
 |qT=>exact zbC (c:=.qT) hr h (.qT _)
 |qA=>exact zbC (c:=.qA) hr h (.qA _)
 |qS=>exact zbC (c:=.qS) hr h (.qS _)
def ziW(hr:zi8 ρ j j'):∀{cs cs':List Cl} {vs:List Value},zfe ρ cs=some cs'->VCs σ j cs vs->VCs σ j' cs' vs
 |[],cs',vs,h,hv=>by simp only[zfe,ji]at h;have:=hv.vQ;grind [VCs.nil]
 |c::cs,cs',vs,h,hv=>by
  simp only[zfe]at h;split at h
  ·rename_i y ys hy hys;cases h;obtain⟨v,vs',rfl,h1,h2⟩:=hv.kP;exact VCs.cons (zko hr hy h1) (ziW hr hys h2)
  grind
def zoE:∀{cs cs':List Cl},zfe ρ cs=some cs'->cs'.length=cs.length/\∀(n:Nat) (c':Cl),cs'[n]?=some c'->∃c,cs[n]?=some c/\zeS ρ c=some c'
 |[],cs',h=>by simp only[zfe,ji]at h;subst h;exact⟨rfl,wD⟩
 |c::cs,cs',h=>by
  simp only[zfe]at h;split at h
  ·rename_i y ys hy hys;obtain⟨h1,h2⟩:=zoE hys
   grind
  grind
def ziV:∀{rs rs':List (List Cl)},zez ρ rs=some rs'->rs'.length=rs.length/\(∀(n:Nat) (r':List Cl),rs'[n]?=some r'->∃r,rs[n]?=some r/\zfe ρ r=some r')
 |[],rs',h=>by simp only[zez,ji]at h;subst h;exact⟨rfl,wD⟩
 |r::rs,rs',h=>by
  simp only[zez]at h;split at h
  ·rename_i y ys hy hys;obtain⟨h1,h2⟩:=ziV hys
   grind
  grind
def zqB(hr:zi8 ρ j j'){x y:WV}{v:Value}(h:zpM ρ x=some y)(hv:WVR σ j x v):WVR σ j' y v:=by
 cases x with
 |c x =>
  simp only[zpM,ja]at h;obtain⟨c,hc,rfl⟩:=h;exact zko hr hc hv
 |a cs =>
  simp only[zpM,ja]at h;obtain⟨c,hc,rfl⟩:=h;obtain⟨arr,rfl,hv⟩:=hv;exact⟨arr,rfl,ziW hr hc hv⟩
def zlS(hr:zi8 ρ j j'):∀{cs cs':List WV} {vs:List Value},ziU ρ cs=some cs'->zac σ j cs vs->zac σ j' cs' vs
 |[],cs',vs,h,hv=>by simp only[ziU,ji]at h;have:=hv.vQ;grind [zac.nil]
 |c::cs,cs',vs,h,hv=>by
  simp only[ziU]at h;split at h
  ·rename_i y ys hy hys;cases h;obtain⟨v,vs',rfl,h1,h2⟩:=hv.kP;exact zac.cons (zqB hr hy h1) (zlS hr hys h2)
  grind
def znm(hr:zi8 ρ j j'){x y:AV}{v:Value}(h:znn ρ x=some y)(hv:AVR σ j x v):AVR σ j' y v:=by
 cases x with
 |w x =>
  simp only[znn,ja]at h;obtain⟨c,hc,rfl⟩:=h;exact zqB hr hc hv
 |t cs =>
  simp only[znn,ja]at h;obtain⟨c,hc,rfl⟩:=h;obtain⟨arr,rfl,hv⟩:=hv;exact⟨arr,rfl,zlS hr hc hv⟩
 |u=>simp only[znn,ji]at h;subst h;exact hv
def zcE{b b':Blk}(h:zhj ρ b=some b'):b'.box=b.box/\b'.esz=b.esz/\b'.gen=b.gen/\b'.fz=b.fz/\b'.ver=b.ver/\b'.rows.length=b.rows.length:=by
 unfold zhj at h;split at h
 ·simp only[ja]at h;obtain⟨r,hr,rfl⟩:=h;exact⟨rfl,rfl,rfl,rfl,rfl,(ziV hr).1⟩
 grind
def zfW{c:Cl}{cs ys:List Cl}(h:zfe ρ (c::cs)=some ys):∃y ys',ys=y::ys'/\zeS ρ c=some y/\zfe ρ cs=some ys':=by
 grind [zfe]
def zkn{c:List Cl}{cs ys:List (List Cl)}(h:zez ρ (c::cs)=some ys):∃y ys',ys=y::ys'/\zfe ρ c=some y/\zez ρ cs=some ys':=by
 grind [zez]
theorem znT{k:IntKind}{n:Int}{y:Cl}(h:zeS ρ (.int k n)=some y):y=.int k n:=by grind [zeS,qJ]
theorem zu1(hr:zi8 ρ j j'){g:Bool}{vc vc':List Cl}{x:WV}{v:Value}(hx:zaI g vc=some x)(h:zfe ρ vc=some vc')(hv:WVR σ j x v):∃x',zaI g vc'=some x'/\WVR σ j' x' v:=by
 cases g with
 |true =>
  simp[zaI]at hx;subst hx;obtain⟨arr,rfl,hs⟩:=hv;exact⟨.a vc',by simp[zaI],arr,rfl,ziW hr h hs⟩
 |false =>
  match vc,hx with
  |[c],hx =>
   simp[zaI]at hx;subst hx;obtain⟨y,ys,rfl,h1,h2⟩:=zfW h;cases h2;exact⟨.c y,by simp[zaI],zko hr h1 hv⟩
def zwt(hr:zi8 ρ j j'){b b':Blk}{l:Nat}{g:Bool}(h:zhj ρ b=some b')(hb:MB σ j b l g w):MB σ j' b' l g w:=by
 obtain⟨es,clock,R,h1,h2,h3,h4⟩:=hb.st;unfold zhj at h;rw[if_pos hb.box]at h;simp only[ja]at h;obtain⟨rs,hrs,rfl⟩:=h;rw[h2]at hrs;obtain⟨y,R',rfl,q1,q2⟩:=zkn hrs;obtain⟨z,zs,rfl,q3,q4⟩:=zfW q1;obtain rfl:=znT q3;cases q4;obtain⟨q5,q6⟩:=ziV q2;refine⟨hb.box,es,clock,R',h1,rfl,by grind,fun i row e hi he=>?_⟩;obtain⟨row0,hi0,hrow⟩:=q6 i row hi;obtain⟨k,n,vc,x,rfl,p2,p3,p4⟩:=h4 i row0 e hi0 he;obtain⟨y1,ys1,rfl,s1,s2⟩:=zfW hrow;obtain⟨y2,ys2,rfl,s3,s4⟩:=zfW s2;obtain rfl:=znT s1;obtain rfl:=znT s3
 grind [zu1]
def zwu(hr:zi8 ρ j j'){b b':Blk}{l:Nat}(h:zhj ρ b=some b')(hb:IB σ j b l w):IB σ j' b' l w:=by
 unfold zhj at h;rw[if_pos hb.box]at h;simp only[ja]at h;obtain⟨rs,hrs,rfl⟩:=h;have ints:∀{cs ys:List Cl},zfe ρ cs=some ys->(∀c∈cs,∃n,c=.int .i64 n)->ys=cs:=by
  intro cs;induction cs with
  |nil=>intro ys h _;cases h;rfl
  |cons c cs ih =>
   intro ys h hc;obtain⟨y,ys',rfl,q1,q2⟩:=zfW h;obtain⟨n,rfl⟩:=hc c (js ..)
   grind [znT,List.mem_cons_of_mem]
 rcases hb.st with⟨h1,h2⟩ |⟨id,g,m,since,last,h0,hh⟩
 ·rw[h2]at hrs;obtain⟨y,R',rfl,q1,q2⟩:=zkn hrs;cases q2;obtain⟨z,zs,rfl,q3,q4⟩:=zfW q1;cases q4;simp[zeS,qJ]at q3;subst q3;exact⟨hb.box,.inl ⟨h1,rfl⟩⟩
 ·have key:∀tl:List Cl,(∀c∈tl,∃n,c=.int .i64 n)->b.rows=[.map id g::tl]->∃id',ρ id=some id'/\rs=[.map id' g::tl]:=by
   intro tl ht h2;rw[h2]at hrs;obtain⟨y,R',rfl,q1,q2⟩:=zkn hrs;cases q2;obtain⟨z,zs,rfl,q3,q4⟩:=zfW q1
   grind [zeS,qJ,Option.map_eq_some_iff]
  rcases hh with⟨h1,h2⟩ |⟨s,h1,h2⟩
  ·obtain⟨id',hid,rfl⟩:=key _ wD h2;exact⟨hb.box,.inr ⟨id',g,m,since,last,hr _ _ _ _ hid h0,.inl ⟨h1,rfl⟩⟩⟩
  ·obtain⟨id',hid,rfl⟩:=key _ wD h2;exact⟨hb.box,.inr ⟨id',g,m,since,last,hr _ _ _ _ hid h0,.inr ⟨s,h1,rfl⟩⟩⟩
def zkp(hr:zi8 ρ j j'){b b':Blk}{pl:Pl}(h:zhj ρ b=some b')(hb:BR σ j b pl w):BR σ j' b' pl w:=by
 obtain⟨e1,e2,e3,e4,e5,e6⟩:=zcE h;cases pl with
 |empty =>
  obtain⟨h1,h2⟩:=hb;refine⟨?_,by grind⟩
  grind
 |rnd l r f sh =>
  obtain⟨s,cells,pd,vs,h1,h2,h3,h4,h5⟩:=hb.st;unfold zhj at h;rw[if_pos hb.box]at h;simp only[ja]at h;obtain⟨rs,hrs,rfl⟩:=h;rw[h1]at hrs;simp only[zez]at hrs;split at hrs
  ·rename_i y ys hy hys;cases hys;cases hrs;simp only[zfe,zeS,qJ]at hy;split at hy
   ·rename_i y' ys' e' hys';cases e';cases hy;exact(⟨hb.box,hb.ok,s,ys',pd,vs,rfl,h2,h3,ziW hr hys' h4,h5⟩:RB σ j' { b with rows:=[.int .i64 s::ys'] } l r f sh w)
   grind
  grind
 |mp l g=>exact zwt hr h hb
 |mi l=>exact zwu hr h hb
 |loc L =>
  obtain⟨C,T,hC,hsz,hrow⟩:=hb.heap;have key:(∀row∈b'.rows,row.length=b.esz)/\zDq σ (if b.box then j' else zb1) b' L C:=by
   unfold zhj at h;split at h
   ·simp only[ja]at h;obtain⟨rs,hrs,rfl⟩:=h;obtain⟨h1,h2⟩:=ziV hrs;refine⟨fun row hrow'=>?_,fun i row n cl hi hn=>?_⟩
    ·obtain⟨n,hn⟩:=j7 hrow';obtain⟨r0,h3,h4⟩:=h2 n row hn;rw[(zoE h4).1];exact hb.len r0 (zat h3)
    ·obtain⟨r0,h3,h4⟩:=h2 i row hi;obtain⟨c0,h5,h6⟩:=(zoE h4).2 n cl hn;obtain⟨v,hv,hvc⟩:=hrow i r0 n c0 h3 h5
     grind [zko]
   ·cases h;refine⟨hb.len,fun i row n cl hi hn=>?_⟩;obtain⟨v,hv,hvc⟩:=hrow i row n cl hi hn
    grind
  exact(⟨by rw[e2];exact hb.esz,by rw[e2];exact hb.pos,by grind,by rw[e6,e2];exact hb.fit,⟨C,T,hC,hsz,by grind⟩,
   fun o h1 h2=>hb.A5 o h1 (fun h=>by grind)⟩:BL σ j' b' L w)
def zkA:∀{ids:List Nat} {id k:Nat},zd3 ids id=some k->ids[k]?=some id
 |[],id,k,h=>by grind [zd3]
 |x::xs,id,k,h=>by
  simp only[zd3]at h;split at h
  ·grind
  ·simp only[ja]at h;obtain⟨q,hq,rfl⟩:=h;simpa using zkA hq
def zgy:∀{ids:List Nat},zku ids=true->ids.Nodup
 |[],_=>List.nodup_nil
 |x::xs,h=>by
  simp only[zku,jk,qm,List.contains_eq_mem,decide_eq_false_iff_not]at h;exact qK.2 ⟨h.1,zgy h.2⟩
def zg4:∀{ids:List Nat} {id k:Nat},ids.Nodup->ids[k]?=some id->zd3 ids id=some k
 |[],id,k,_,h=>by grind
 |x::xs,id,k,hn,h=>by
  obtain⟨h1,h2⟩:=qK.1 hn;cases k with
  |zero=>grind [zd3]
  |succ k =>
   have:x≠id:=by grind
   simp[zd3,this,zg4 h2 h]
def zwU{ids:List Nat}{id:Nat}(h:zd3 ids id=none):id∉ids:=by
 induction ids with
 |nil=>simp
 |cons x xs ih =>
  grind [zd3,Option.map_eq_none_iff]
def zjj{ids:List Nat}{id:Nat}(h:id∉ids):zd3 ids id=none:=by
 cases hh:zd3 ids id with
 |none=>rfl
 |some k=>exact absurd (kF (zkA hh)) h
def zfp:∀{ids:List Nat} {Ms:Mem},zck M ρ ids=some Ms->Ms.length=ids.length/\(∀(k id:Nat),ids[k]?=some id->∃b b',M[id]?=some (some b)/\zhj ρ b=some b'/\Ms[k]?=some (some b')) /\
  ∀(k:Nat) (b':Blk),Ms[k]?=some (some b')->∃id b,ids[k]?=some id/\M[id]?=some (some b)/\zhj ρ b=some b'
 |[],Ms,h=>by simp only[zck,ji]at h;subst h;exact⟨rfl,wD,wD⟩
 |id::ids,Ms,h=>by
  simp only[zck]at h;split at h
  ·rename_i b bs hb hbs;simp only[ja]at h;obtain⟨h1,h2,h3⟩:=zfp hbs
   grind
  grind
def zdx(ids:List Nat)(j:Inj):Inj:=fun k g=>match ids[k]? with
 |some id=>j id g
 |none=>none
def zkg(ids:List Nat)(j:Inj):zi8 (zd3 ids) j (zdx ids j):=by
 intro id k g pl hk hj;simp[zdx,zkA hk,hj]
def zig(ids:List Nat)(j:Inj)(M:Mem)(w:World):Nat->Prop:=fun k=>(∃id∈ids,∃b,M[id]?=some (some b)/\j.atk id b.gen=some k)\/w.heap.size<=k
def MR.sub{ids:List Nat}{Ms:Mem}(hm:MR own σ j M w)(hn:ids.Nodup)(h:zck M (zd3 ids) ids=some Ms):MR (zig ids j M w) σ (zdx ids j) Ms w:=by
 obtain⟨h1,h2,h3⟩:=zfp h;refine⟨fun k b' hb'=>?_,fun k k' b b' q hb hb' hL hL'=>?_,fun k g pl hj=>?_,fun k g pl hj=>?_⟩
 ·obtain⟨id,b,q1,q2,q3⟩:=h3 k b' hb';obtain⟨pl,hpl,hbr,_⟩:=hm.vF id b q2;obtain⟨_,_,e3,_⟩:=zcE q3;refine⟨pl,by grind [zdx],zkp (zkg ids j) q3 hbr,fun L e=>?_⟩;exact .inl ⟨id,kF q1,b,q2,Inj.v7 hpl e⟩
 ·obtain⟨id,b0,q1,q2,q3⟩:=h3 k b hb;obtain⟨id',b0',q1',q2',q3'⟩:=h3 k' b' hb';obtain⟨_,_,e3,_⟩:=zcE q3;obtain⟨_,_,e3',_⟩:=zcE q3';have hL:j.atk id b0.gen=some q:=by grind [Inj.atk,zdx]
  have hL':j.atk id' b0'.gen=some q:=by grind [Inj.atk,zdx]
  have:=hm.vz id id' b0 b0' q q2 q2' hL hL';subst this;have:=zg4 hn q1;rw[zg4 hn q1']at this
  grind
 ·simp only[zdx]at hj;split at hj
  ·rename_i id hid;obtain⟨b,hb,hg⟩:=hm.dom id g pl hj;obtain⟨b0,b',q1,q2,q3⟩:=h2 k id hid;obtain⟨_,_,e3,_⟩:=zcE q2
   grind
  grind
 ·simp only[zdx]at hj;split at hj
  ·exact hm.okP _ _ _ hj
  grind
end
end Go.Eng
namespace Go.Eng
open Go
variable[zb0]
section
variable{own:Nat->Prop}{σ:zP}{j j':Inj}{M:Mem}{w:World}{P:Program}{ρ:Nat->Option Nat}
def zrK:∀{ids:List Nat} {Ms M M':Mem} {ch:List Nat},ids.Nodup->back ρ ids Ms M=some (M',ch)->M'.length=M.length/\ids.length<=Ms.length/\(∀id,id∉ids->M'[id]?=M[id]?)/\(∀id∈ch,id∈ids) /\
  ∀(k id:Nat),ids[k]?=some id->∃b b0,Ms[k]?=some (some b)/\M[id]?=some (some b0)/\((b.ver=b0.ver/\M'[id]?=some (some b0))\/(b.ver≠b0.ver/\id∈ch/\∃b',zhj ρ b=some b'/\M'[id]?=some (some b')))
 |[],Ms,M,M',ch,_,h=>by
  obtain⟨rfl,rfl⟩:=h;exact⟨rfl,wD,fun _ _=>rfl,wD,wD⟩
 |id::ids,[],M,M',ch,_,h=>by grind [back]
 |id::ids,none::Ms,M,M',ch,_,h=>by grind [back]
 |id::ids,some b::Ms,M,M',ch,hn,h=>by
  obtain⟨hni,hn'⟩:=qK.1 hn;simp only[back]at h;split at h
  ·split at h
   ·obtain⟨h1,h1',h2,h2',h3⟩:=zrK hn' h
    grind
   ·split at h
    ·rename_i b' M1 ch1 hb' Cp;obtain⟨h1,h1',h2,h2',h3⟩:=zrK hn' Cp
     grind
    grind
  grind
def zqD:∀{Ms Ms':Mem},zgx ρ Ms=some Ms'->Ms'.length=Ms.length/\(∀(k:Nat) (b':Blk),Ms'[k]?=some (some b')->∃b,Ms[k]?=some (some b)/\zhj ρ b=some b') /\
  ∀(k:Nat) (b:Blk),Ms[k]?=some (some b)->∃b',Ms'[k]?=some (some b')/\zhj ρ b=some b'
 |[],Ms',h=>by simp only[zgx,ji]at h;subst h;exact⟨rfl,wD,wD⟩
 |none::Ms,Ms',h=>by grind [zgx]
 |some b::Ms,Ms',h=>by
  simp only[zgx]at h;split at h
  ·rename_i b' bs' hb hbs;obtain⟨h1,h2,h3⟩:=zqD hbs
   grind
  grind
def zeb(ids:List Nat)(m:Nat):Nat->Option Nat:=fun k=>match ids[k]? with
 |some id=>some id
 |none=>some (m+(k-ids.length))
def zhY(ids:List Nat)(m:Nat)(j j':Inj):Inj:=fun id g=>match zd3 ids id with
 |some k=>j' k g
 |none=>if id<m then j id g else j' (ids.length+(id-m)) g
def zwL{ids:List Nat}{m:Nat}{j j':Inj}(hn:ids.Nodup)(hlt:∀id∈ids,id<m):zi8 (zeb ids m) j' (zhY ids m j j'):=by
 intro k id g pl hk hj;simp only[zeb]at hk;split at hk
 ·rename_i id' hid;cases hk;simp[zhY,zg4 hn hid,hj]
 ·cases hk;have hni:m+(k-ids.length)∉ids:=fun h=>by grind
  simp_all [zhY,zjj,if_neg]
def zt1{ids:List Nat}{Ms Ms':Mem}{σ':zP}{w':World}{r r3:AV}{M3:Mem}{fp:FP}{v:Value}(hm:MR own σ j M w)(hag:zM σ w)(hn:ids.Nodup)(hown:∀b,w.heap.size<=b->own b)
  (hs:zck M (zd3 ids) ids=some Ms) (yK:zM σ' w') (hm':MR (zig ids j M w) σ' j' Ms' w') (hst:za2 (zig ids j M w) Ms.length σ (zdx ids j) Ms w σ' j' Ms' w') (hr:AVR σ' j' r v)
  (h:uC ids M r Ms'=some (r3,M3,fp)) :
  ∃jn,AVR σ' jn r3 v/\MR own σ' jn M3 w'/\za2 own M.length σ j M w σ' jn M3 w'/\(fp=.no->M3.length=M.length->(∀(id:Nat) (b:Blk),M[id]?=some (some b)->M3[id]?=some (some b))/\∀(id:Nat) (b:Blk) (q:Nat),M[id]?=some (some b)->j.atk id b.gen=some q->w'.heap[q]?=w.heap[q]?):=by
 obtain⟨t1,t2,t3⟩:=zfp hs;have hlt:∀id∈ids,id<M.length:=by
  intro id hid;obtain⟨k,hk⟩:=j7 hid;obtain⟨b,_,hb,_⟩:=t2 k id hk;exact zC hb
 have B7:∀b,zig ids j M w b->own b:=by
  rintro b (⟨id,hid,b0,hb0,hL⟩|h)
  ·exact hm.Cy hb0 hL
  ·exact hown b h
 simp only[uC]at h;split at h
 ·rename_i M1 ch new r1 Cp BF hr1;simp only[ji,ju]at h;obtain⟨rfl,rfl,rfl⟩:=h;have Cp:back (zeb ids M.length) ids Ms' M=some (M1,ch):=Cp;have BF:zgx (zeb ids M.length) (Ms'.drop ids.length)=some new:=BF;have hr1:znn (zeb ids M.length) r=some r1:=hr1;obtain⟨b1,b1',b2,b2',b3⟩:=zrK hn Cp;obtain⟨n1,n2,n3⟩:=zqD BF;have Bt:=zwL (j:=j) (j':=j') (m:=M.length) hn hlt;generalize hjn:zhY ids M.length j j'=jn at Bt;have jin:∀k id g,ids[k]?=some id->jn id g=j' k g:=by
   intro k id g hk;rw[<-hjn];simp[zhY,zg4 hn hk]
  have jout:∀id g,id∉ids->id<M.length->jn id g=j id g:=by
   intro id g h1 h2;rw[<-hjn];simp[zhY,zjj h1,h2]
  have jnew:∀q g,jn (M.length+q) g=j' (ids.length+q) g:=by
   intro q g;rw[<-hjn];have hni:M.length+q∉ids:=fun h=>by have:=hlt _ h;omega
   have e:ids.length+(M.length+q-M.length)=ids.length+q:=wA
   simp only[zhY,zjj hni];rw[if_neg wA,e]
  have jle:j.le jn:=by
   intro id g pl hj;by_cases hid:id∈ids
   ·obtain⟨k,hk⟩:=j7 hid;rw[jin k id g hk];refine hst.jle k g pl (by grind) ?_;simp[zdx,hk,hj]
   ·rw[jout id g hid (hm.lt hj)];exact hj
  have Bl:∀id b q,id∉ids->M[id]?=some (some b)->j.atk id b.gen=some q->¬zig ids j M w q:=by
   rintro id b q hid hb hL (⟨id',yI,b',hb',hL'⟩|h)
   ·have:=hm.vz id' id b' b q hb' hb hL' hL;subst this;exact hid yI
   ·exact absurd (hm.qY hb hL) wA
  have BM:∀k id b,ids[k]?=some id->M[id]?=some (some b)->∀b2,Ms'[k]?=some (some b2)->b2.ver=b.ver->b2.gen=b.gen/\b2.fz=b.fz/\b2.rows.length=b.rows.length/\b2.esz=b.esz/\j' k b.gen=j id b.gen/\∀q,j.atk id b.gen=some q->w'.heap[q]?=w.heap[q]?:=by
   intro k id b hk hb b2' hb2 hv;obtain⟨c,c',q1,q2,q3⟩:=t2 k id hk;rw[hb]at q1;cases q1;obtain⟨e1,e2,e3,e4,e5,e6⟩:=zcE q2;obtain⟨d,hd,_,hd2⟩:=hst.ue k c' (by rw[t1];exact zC hk) q3;rw[hb2]at hd;cases hd;obtain⟨rfl,yA⟩:=hd2 (by rw[e5];exact hv);refine⟨e3,e4,e6,e2,?_,fun q hL=>yA q (by simpa [Inj.atk,zdx,hk,e3]using hL)⟩;obtain⟨pl,hpl,_⟩:=hm.vF id b hb;rw[hpl];exact hst.jle k b.gen pl (by rw[t1];exact zC hk) (by simp[zdx,hk,hpl])
  have hlen1:(M1++new).length=M.length+new.length:=by simp[b1]
  have hblk:∀(id:Nat) (b:Blk),(M1++new)[id]?=some (some b) ->
    (∃(k:Nat) (b0:Blk),ids[k]?=some id/\M[id]?=some (some b0)/\(∃b2,Ms'[k]?=some (some b2)/\((b2.ver=b0.ver/\b=b0)\/(b2.ver≠b0.ver/\id∈ch/\zhj (zeb ids M.length) b2=some b)))) \/
    (id∉ids/\M[id]?=some (some b))\/(∃q b2,id=M.length+q/\Ms'[ids.length+q]?=some (some b2)/\zhj (zeb ids M.length) b2=some b):=by
   intro id b hb;rw[ut]at hb;split at hb
   ·rename_i hidl;by_cases hid:id∈ids
    ·obtain⟨k,hk⟩:=j7 hid;obtain⟨c,c0,q1,q2,q3⟩:=b3 k id hk;refine .inl ⟨k,c0,hk,q2,c,q1,?_⟩;rcases q3 with⟨q3,q4⟩ |⟨q3,q5,b',q6,q7⟩
     ·rw[hb]at q4;cases q4;exact .inl ⟨q3,rfl⟩
     ·rw[hb]at q7;cases q7;exact .inr ⟨q3,q5,q6⟩
    grind
   ·rename_i hidl;rw[b1]at hidl hb;obtain⟨c,q1,q2⟩:=n2 _ _ hb;rw[qP]at q1;exact .inr (.inr ⟨id-M.length,c,wA,q1,q2⟩)
  have Dw:∀(id:Nat) (b:Blk) (L:Nat),(M1++new)[id]?=some (some b)->jn.atk id b.gen=some L ->
    (∃k b2,Ms'[k]?=some (some b2)/\j'.atk k b2.gen=some L/\zeb ids M.length k=some id)\/(id∉ids/\M[id]?=some (some b)/\j.atk id b.gen=some L):=by
   intro id b L hb hL;simp only[Inj.atk]at hL ⊢;rcases hblk id b hb with⟨k,b0,hk,hb0,b2,hb2,hc⟩ |⟨hid,hb0⟩ |⟨q,b2,rfl,hb2,AQ⟩
   ·refine .inl ⟨k,b2,hb2,?_,by simp[zeb,hk]⟩;rw[jin k id _ hk]at hL;rcases hc with⟨hv,rfl⟩ |⟨_,_,AQ⟩
    ·grind
    ·obtain⟨_,_,e3,_⟩:=zcE AQ
     grind
   ·grind
   ·obtain⟨_,_,e3,_⟩:=zcE AQ;refine .inl ⟨ids.length+q,b2,hb2,by rw[<-jnew,<-e3];exact hL,?_⟩;simp only[zeb];rw[uU wA];simp
  refine⟨jn,znm Bt hr1 hr,⟨fun id b hb=>?_,fun id id' b b' L hb hb' hL hL'=>?_,fun id g pl hj=>?_,fun id g pl hj=>by
   rw[<-hjn]at hj;simp only[zhY]at hj;split at hj
   ·exact hm'.okP _ _ _ hj
   ·split at hj
    ·exact hm.okP _ _ _ hj
    ·exact hm'.okP _ _ _ hj⟩,?_,?_⟩
  ·rcases hblk id b hb with⟨k,b0,hk,hb0,b2,hb2,hc⟩ |⟨hid,hb0⟩ |⟨q,b2,rfl,hb2,AQ⟩
   ·rcases hc with⟨hv,rfl⟩ |⟨_,_,AQ⟩
    ·obtain⟨s1,s2,s3,s3',s4,s5⟩:=BM k id b hk hb0 b2 hb2 hv;obtain⟨pl,hpl,hbr,ho⟩:=hm.vF id b hb0;refine⟨pl,by rw[jin k id _ hk,s4];exact hpl,hbr.mono hst.sle jle (fun L e=>s5 L (Inj.v7 hpl e)) (fun L e o _ h1 h2=>?_),ho⟩;subst e;obtain⟨pl2,hpl2,hbr2,_⟩:=hm'.vF k b2 hb2;rw[s1,s4,hpl]at hpl2;cases hpl2;have hbr2:BL σ' j' b2 L w':=hbr2;refine hbr2.A5 o h1 (fun hf=>?_);rw[s3,s3'];exact h2 (by rw[<-s2];exact hf)
    ·obtain⟨pl,hpl,hbr,ho⟩:=hm'.vF k b2 hb2;obtain⟨_,_,e3,_⟩:=zcE AQ;exact⟨pl,by rw[jin k id _ hk,e3];exact hpl,zkp Bt AQ hbr,fun L e=>B7 _ (ho L e)⟩
   ·obtain⟨pl,hpl,hbr,ho⟩:=hm.vF id b hb0;refine⟨pl,jle _ _ _ hpl,hbr.mono hst.sle jle (fun L e=>?_) (fun L e o hold h1 h2=>?_),ho⟩
    ·exact hst.frame _ (hm.qY hb0 (Inj.v7 hpl e)) (Bl id b L hid hb0 (Inj.v7 hpl e))
    ·subst e;cases hh:σ' L.blk o with
     |none=>rfl
     |some v =>
      rcases hst.BX _ _ _ hh with h|h
      ·rw[hold]at h;cases h
      ·exact absurd h (Bl id b L.blk hid hb0 (Inj.vI hpl))
   ·obtain⟨pl,hpl,hbr,ho⟩:=hm'.vF _ b2 hb2;obtain⟨_,_,e3,_⟩:=zcE AQ;exact⟨pl,by rw[jnew,e3];exact hpl,zkp Bt AQ hbr,fun L e=>B7 _ (ho L e)⟩
  ·rcases Dw id b L hb hL with⟨k,c,hc,hcL,hk⟩ |⟨hid,hb0,hL0⟩<;>rcases Dw id' b' L hb' hL' with⟨k',c',hc',hcL',hk'⟩ |⟨yI,hb0',hL0'⟩
   ·have:=hm'.vz k k' c c' L hc hc' hcL hcL';subst this;rw[hk]at hk';cases hk';rfl
   ·exact absurd (hm'.Cy hc hcL) (Bl id' b' L yI hb0' hL0')
   ·exact absurd (hm'.Cy hc' hcL') (Bl id b L hid hb0 hL0)
   ·exact hm.vz id id' b b' L hb0 hb0' hL0 hL0'
  ·rw[<-hjn]at hj;simp only[zhY]at hj;split at hj
   ·rename_i k hk;have hk:=zkA hk;obtain⟨b2',hb2,hg⟩:=hm'.dom k g pl hj;obtain⟨c,c0,q1,q2,q3⟩:=b3 k id hk;rw[hb2]at q1;cases q1;have hl:=zC q2;rcases q3 with⟨q3,q4⟩ |⟨q3,_,b',q6,q7⟩
    ·exact⟨c0,by rw[jo wA];exact q4,by rw[<-(BM k id c0 hk q2 _ hb2 q3).1];exact hg⟩
    ·obtain⟨_,_,e3,_⟩:=zcE q6;exact⟨b',by rw[jo wA];exact q7,by rw[e3];exact hg⟩
   ·rename_i hk;have hni:=zwU hk;split at hj
    ·rename_i hl;obtain⟨b,hb,hg⟩:=hm.dom id g pl hj;exact⟨b,by rw[jo wA,b2 id hni];exact hb,hg⟩
    ·rename_i hl;obtain⟨b2',hb2,hg⟩:=hm'.dom _ g pl hj;obtain⟨b',hb',hrr⟩:=n3 (id-M.length) b2' (by rw[qP];exact hb2);obtain⟨_,_,e3,_⟩:=zcE hrr;exact⟨b',by rw[kJ wA,b1];exact hb',by rw[e3];exact hg⟩
  ·refine⟨hst.sle,fun id g pl _ h=>jle id g pl h,hst.size,fun b hb ho=>hst.frame b hb (fun h=>ho (B7 b h)),fun b o v hv=>(hst.BX b o v hv).imp id (B7 b),fun id b hid hb=>?_,hst.side⟩;by_cases hin:id∈ids
   ·obtain⟨k,hk⟩:=j7 hin;obtain⟨c,c0,q1,q2,q3⟩:=b3 k id hk;rw[hb]at q2;cases q2;rcases q3 with⟨q3,q4⟩ |⟨q3,_,b',q6,q7⟩
    ·exact⟨b,by rw[jo wA];exact q4,jm _,fun _=>⟨rfl,(BM k id b hk hb c q1 q3).2.2.2.2.2⟩⟩
    ·obtain⟨_,_,_,_,e5,_⟩:=zcE q6;obtain⟨d,d',r1,r2,r3⟩:=t2 k id hk;rw[hb]at r1;cases r1;obtain⟨_,_,_,_,e5',_⟩:=zcE r2;obtain⟨x,hx,hx1,_⟩:=hst.ue k d' (by rw[t1];exact zC hk) r3;rw[q1]at hx;cases hx;exact⟨b',by rw[jo wA];exact q7,by rw[e5,<-e5'];exact hx1,fun h=>absurd (e5 ▸ h) q3⟩
   ·exact⟨b,by rw[jo wA,b2 id hin];exact hb,jm _,fun _=>⟨rfl,fun L hL=>hst.frame _ (hm.qY hb hL) (Bl id b L hin hb hL)⟩⟩
  ·intro hfp hlen;have hch:ch=[]:=by
    cases ch with
    |nil=>rfl
    |cons x xs=>simp at hfp
   subst hch;have hno:∀(k id:Nat),ids[k]?=some id->∃(b b0:Blk),Ms'[k]?=some (some b)/\M[id]?=some (some b0)/\b.ver=b0.ver/\M1[id]?=some (some b0):=by
    intro k id hk;obtain⟨c,c0,q1,q2,q3⟩:=b3 k id hk;rcases q3 with⟨q3,q4⟩ |⟨_,q4,_⟩
    ·exact⟨c,c0,q1,q2,q3,q4⟩
    ·cases q4
   refine⟨fun id b hb=>?_,fun id b L hb hL=>?_⟩
   ·rw[jo (by rw[b1];exact zC hb)];by_cases hin:id∈ids
    ·obtain⟨k,hk⟩:=j7 hin;obtain⟨c,c0,q1,q2,q3,q4⟩:=hno k id hk;rw[hb]at q2;cases q2;exact q4
    ·rw[b2 id hin];exact hb
   ·by_cases hin:id∈ids
    ·obtain⟨k,hk⟩:=j7 hin;obtain⟨c,c0,q1,q2,q3,q4⟩:=hno k id hk;rw[hb]at q2;cases q2;exact(BM k id b hk hb c q1 q3).2.2.2.2.2 L hL
    ·exact hst.frame _ (hm.qY hb hL) (Bl id b L hin hb hL)
 grind
end
end Go.Eng
namespace Go.Eng
open Go
variable[zb0]
section
variable{own:Nat->Prop}{σ:zP}{j j':Inj}{M:Mem}{w:World}{P:Program}{ρ:Nat->Option Nat}
def MR.BI{AN:Nat->Prop}(h:MR own σ j M w)(ho:∀b,b<w.heap.size->own b->AN b):MR AN σ j M w :=
 ⟨fun id b hb=>by
  obtain⟨pl,h1,h2,h3⟩:=h.vF id b hb;exact⟨pl,h1,h2,fun L e=>ho _ (h.qY hb (Inj.v7 h1 e)) (h3 L e)⟩,h.vz,h.dom,h.okP⟩
def zbs(ρ:Nat->Option Nat)(k:Nat):Prop:=∀id,id<k->ρ id=some id
def zwv{k:Nat}(hk:zbs ρ k){c:Cl}(h1:zr c=true)(h2:yC c<=k):qJ ρ c=some c:=by
 cases c with
 |ptr id g i o=>simp only[yC]at h2;simp[qJ,hk id wA]
 |slice id g es off len cap=>simp only[yC]at h2;simp[qJ,hk id wA]
 |yld id f sh=>simp only[yC]at h2;simp[qJ,hk id wA]
 |map id g=>simp only[yC]at h2;simp[qJ,hk id wA]
 |mit id=>simp only[yC]at h2;simp[qJ,hk id wA]
 |bsl id g i k0 es len cap=>simp only[yC]at h2;simp[qJ,hk id wA]
 |fn f fi ca =>
  cases fi with
  |nil=>cases ca with
   |nil=>rfl
   |cons=>grind [zr]
  |cons=>grind [zr]
 |iface=>grind [zr]
 |_=>rfl
theorem ziX{k:Nat}(hk:zbs ρ k):∀{cs:List Cl},cs.all (fun x=>zr x&&yC x<=k)=true->Aa ρ cs=some cs
 |[],_=>rfl
 |c::cs,h=>by
  simp only[ud,jk,decide_eq_true_eq]at h;simp[Aa,zwv hk h.1.1 h.1.2,ziX hk (by simpa using h.2)]
theorem zqF{k:Nat}(hk:zbs ρ k){c:Cl}(h:below k c=true):zeS ρ c=some c:=by
 cases c with
 |fn f fi ca =>
  simp only[below,jk]at h
  grind [zeS,ziX]
 |iface t a cs=>grind [below,zeS,ziX]
 |ptr id g i o=>have h:=of_decide_eq_true (show decide (id+1<=k)=true from h);simp[zeS,qJ,hk id wA]
 |slice id g es off len cap=>have h:=of_decide_eq_true (show decide (id+1<=k)=true from h);simp[zeS,qJ,hk id wA]
 |yld id f sh=>have h:=of_decide_eq_true (show decide (id+1<=k)=true from h);simp[zeS,qJ,hk id wA]
 |map id g=>have h:=of_decide_eq_true (show decide (id+1<=k)=true from h);simp[zeS,qJ,hk id wA]
 |mit id=>have h:=of_decide_eq_true (show decide (id+1<=k)=true from h);simp[zeS,qJ,hk id wA]
 |bsl id g i k0 es len cap=>have h:=of_decide_eq_true (show decide (id+1<=k)=true from h);simp[zeS,qJ,hk id wA]
 |_=>rfl
theorem zlT{k:Nat}(hk:zbs ρ k):∀{cs:List Cl},cs.all (below k)=true->zfe ρ cs=some cs
 |[],_=>rfl
 |c::cs,h=>by
  simp only[ud,jk]at h;simp[zfe,zqF hk h.1,zlT hk h.2]
def zm7{k:Nat}(hk:zbs ρ k):∀{rs:List (List Cl)},rs.all (fun r=>r.all (below k))=true->zez ρ rs=some rs
 |[],_=>rfl
 |c::cs,h=>by
  simp only[ud,jk]at h;simp[zez,zlT hk h.1,zm7 hk h.2]
def zqC{k:Nat}(hk:zbs ρ k){x:WV}(h:x.below k=true):zpM ρ x=some x:=by
 cases x with
 |c x=>grind [WV.below,WV.cells,zpM,zqF]
 |a cs=>grind [WV.below,WV.cells,zpM,zlT]
def zpm{k:Nat}(hk:zbs ρ k):∀{xs:List WV},xs.all (WV.below k)=true->ziU ρ xs=some xs
 |[],_=>rfl
 |c::cs,h=>by
  simp only[ud,jk]at h;simp[ziU,zqC hk h.1,zpm hk h.2]
def zqH{k:Nat}(hk:zbs ρ k){x:AV}(h:x.below k=true):znn ρ x=some x:=by
 cases x with
 |w x=>simp[znn,zqC hk (show x.below k=true from h)]
 |t xs=>simp[znn,zpm hk (show xs.all (WV.below k)=true from h)]
 |u=>rfl
def zqG{k:Nat}(hk:zbs ρ k){b:Blk}(h:b.below k=true):zhj ρ b=some b:=by
 unfold Blk.below at h;unfold zhj;cases hb:b.box with
 |false=>simp
 |true =>
  simp[zm7 hk (show b.rows.all (fun r=>r.all (below k))=true from by grind)];cases b;grind
def Inj.lt(j:Inj)(k:Nat):Prop:=∀id g pl,j id g=some pl->id<k
def zsV{k:Nat}(hk:zbs ρ k)(hj:j.lt k){c c':Cl}{v:Value}(h:qJ ρ c=some c')(hv:VC σ j c v):c'=c:=by
 cases hv with
 |ptr _ id g i o L hL=>simp[qJ,hk id (hj _ _ _ hL)]at h;grind
 |slice _ id g es off len cap pl a c hL=>simp[qJ,hk id (hj _ _ _ hL)]at h;grind
 |yld _ id f sh l r hL=>simp[qJ,hk id (hj _ _ _ hL)]at h;grind
 |map _ id g l hL=>simp[qJ,hk id (hj _ _ _ hL)]at h;grind
 |mit _ id l hL=>simp[qJ,hk id (hj _ _ _ hL)]at h;grind
 |bsl _ id g i k es len cap L a hL=>simp[qJ,hk id (hj _ _ _ hL)]at h;grind
 |fn _ f fi ca =>
  grind [qJ]
 |yv=>grind [qJ]
 |yu=>grind [qJ]
 |_=>simp[qJ]at h;exact h.symm
def zii{k:Nat}(hk:zbs ρ k)(hj:j.lt k):∀{cs cs':List Cl} {vs:List Value},Aa ρ cs=some cs'->VCs σ j cs vs->cs'=cs
 |[],cs',vs,h,hv=>by grind [Aa]
 |c::cs,cs',vs,h,hv=>by
  obtain⟨v,vs',rfl,hv,hs⟩:=hv.kP;simp only[Aa]at h;split at h
  ·rename_i y ys h1 h2;cases h;rw[zsV hk hj h1 hv,zii hk hj h2 hs]
  grind
def zyc{k:Nat}(hk:zbs ρ k)(hj:j.lt k){c c':Cl}{v:Value}(h:zeS ρ c=some c')(hv:VC σ j c v):c'=c:=by
 cases c with
 |fn f fi ca =>
  cases hv with
  |fn _ _ _ _ fi' ca' l1 l2 h1 h2 =>
   simp only[zeS]at h;split at h
   ·rename_i y ys q1 q2;cases h;rw[zii hk hj q1 (⟨l1,h1⟩:VCs σ j fi fi'.toList),zii hk hj q2 (⟨l2,h2⟩:VCs σ j ca ca'.toList)]
   grind
 |iface t a cs =>
  simp only[zeS,ja]at h;obtain⟨ys,q1,rfl⟩:=h;cases hv with
  |yv _ _ c v hv=>rw[zii hk hj q1 (VCs.cons hv VCs.nil)]
  |yu _ _ _ vs l hv=>rw[zii hk hj q1 (⟨l,hv⟩:VCs σ j cs vs.toList)]
 |_=>exact zsV hk hj (by simpa [zeS]using h) hv
def zqE{k:Nat}(hk:zbs ρ k)(hj:j.lt k):∀{cs cs':List Cl} {vs:List Value},zfe ρ cs=some cs'->VCs σ j cs vs->cs'=cs
 |[],cs',vs,h,hv=>by grind [zfe]
 |c::cs,cs',vs,h,hv=>by
  obtain⟨v,vs',rfl,hv,hs⟩:=hv.kP;simp only[zfe]at h;split at h
  ·rename_i y ys h1 h2;cases h;rw[zyc hk hj h1 hv,zqE hk hj h2 hs]
  grind
def BL.rowVCs{b:Blk}{L:Loc}(h:BL σ j b L w)(hb:b.box=true){i:Nat}{row:List Cl}(hi:b.rows[i]?=some row):∃vs,VCs σ j row vs:=by
 obtain⟨C,T,hC,hsz,hrow⟩:=h.heap;refine⟨(List.range row.length).map (fun n=>C[L.off+i*b.esz+n]?.getD undef),wD,fun n c v hc hv=>?_⟩;obtain⟨v',hv',hvc⟩:=hrow i row n c hi hc
 grind
def zgw{k:Nat}(hk:zbs ρ k)(hj:j.lt k):∀{rs rs':List (List Cl)},zez ρ rs=some rs'->(∀r∈rs,∃vs,VCs σ j r vs)->rs'=rs
 |[],rs',h,hv=>by grind [zez]
 |c::cs,cs',h,hv=>by
  simp only[zez]at h;split at h
  ·rename_i y ys h1 h2;cases h;obtain⟨vs,hvs⟩:=hv c (js ..);rw[zqE hk hj h1 hvs,zgw hk hj h2 (fun r hr=>hv r (jE _ hr))]
  grind
theorem zr8{g:Bool}{cs:List Cl}{x:WV}(h:zaI g cs=some x):x.cells=cs:=by
 cases g with
 |true=>simp[zaI]at h;subst h;rfl
 |false=>match cs,h with
  |[c],h=>simp[zaI]at h;subst h;rfl
theorem zBo{k:Nat}(hk:zbs ρ k)(hj:j.lt k){b b':Blk}{pl:Pl}(h:zhj ρ b=some b')(hb:BR σ j b pl w):b'=b:=by
 unfold zhj at h;split at h
 ·rename_i vD;simp only[ja]at h;obtain⟨r,hr,rfl⟩:=h;cases pl with
  |empty=>have hb:b.rows=[]/\b.box=false:=hb;grind
  |rnd l r' f sh =>
   obtain⟨s,cells,pd,vs,h1,h2,h3,h4,h5⟩:=hb.st;rw[zgw (σ:=σ) hk hj hr fun r hr=>by
    rw[h1]at hr;rw[jB.1 hr];exact⟨.int .i64 s::vs,VCs.cons (.int _ _ _) h4⟩]
  |mp l g =>
   obtain⟨es,clock,R,h1,h2,h3,h4⟩:=hb.st;rw[zgw (σ:=σ) hk hj hr fun r hr=>by
    rw[h2]at hr;rcases jK.1 hr with rfl|hr
    ·exact⟨[.int .i64 clock],VCs.cons (.int _ _ _) VCs.nil⟩
    ·obtain⟨i,hi⟩:=j7 hr;have hlt:i<es.toList.length:=by grind
     obtain⟨k,n,vc,x,rfl,_,q3,q4⟩:=h4 i r _ hi (jq hlt);refine⟨.int .i64 _::.int k n::(es.toList[i]).val.cells.toList,VCs.cons (.int _ _ _) (VCs.cons (.int _ _ _) ?_)⟩;have:=q4.cells
     grind [zr8]]
  |mi l =>
   rw[zgw (σ:=σ) hk hj hr fun r hr=>by
    rcases hb.st with⟨_,h2⟩ |⟨id,g,m,since,last,h0,⟨_,h2⟩ |⟨s,_,h2⟩⟩<;>rw[h2]at hr<;>rw[jB.1 hr]
    ·exact⟨[.map none],VCs.cons (.qS _) VCs.nil⟩
    ·exact⟨[.map (some m),.int .i64 since],VCs.cons (.map _ _ _ _ h0) (VCs.cons (.int _ _ _) VCs.nil)⟩
    ·exact⟨[.map (some m),.int .i64 since,.int .i64 s,.int .i64 last],VCs.cons (.map _ _ _ _ h0) (VCs.cons (.int _ _ _) (VCs.cons (.int _ _ _) (VCs.cons (.int _ _ _) VCs.nil)))⟩]
  |loc L =>
   rw[zgw (σ:=σ) hk hj hr fun r hr=>by
    obtain⟨i,hi⟩:=j7 hr;exact hb.rowVCs vD hi]
 grind
def zlR{k:Nat}{σ0:zP}{j0:Inj}{M0:Mem}{w0:World}{new:List Nat}{M':Mem}{r r':AV}{v:Value}(hm0:MR own σ0 j0 M0 w0)(hk:M0.length=k)(hm:MR own σ j M w)(hst:za2 own k σ0 j0 M0 w0 σ j M w)
  (hn:new.Nodup) (htk:new.take k=List.range k) (hr:znn (zd3 new) r=some r') (hM:zck M (zd3 new) new=some M') (hv:AVR σ j r v) :
  AVR σ (zdx new j) r' v/\MR own σ (zdx new j) M' w/\za2 own k σ0 j0 M0 w0 σ (zdx new j) M' w:=by
 have kY:∀id,id<k->new[id]?=some id:=by
  intro id hid;have:=congrArg (·[id]?) htk
  grind
 have hkb:zbs (zd3 new) k:=fun id hid=>zg4 hn (kY id hid)
 refine⟨znm (zkg new j) hr hv,(hm.sub hn hM).BI fun b hb ho=>?_,?_⟩
 ·rcases ho with⟨id,_,b0,hb0,hL⟩|ho
  ·exact hm.Cy hb0 hL
  grind
 ·have hj0:j0.lt k:=fun id g pl h=>hk ▸ hm0.lt h
  refine⟨hst.sle,fun id g pl hid hj=>?_,hst.size,hst.frame,hst.BX,fun id b hid hb=>?_,hst.side⟩
  ·simp[zdx,kY id hid,hst.jle _ _ _ hid hj]
  ·obtain⟨b1,hb1,hv1,he1⟩:=hst.ue id b hid hb;obtain⟨_,t2,_⟩:=zfp hM;obtain⟨c,c',q1,q2,q3⟩:=t2 id id (kY id hid);obtain⟨_,_,_,_,e5,_⟩:=zcE q2;refine⟨c',q3,by grind,fun h=>?_⟩;obtain⟨rfl,hh⟩:=he1 (by grind);obtain⟨pl,hpl,hbr,_⟩:=hm0.vF id b1 hb
   grind [zBo]
def nodup_range(n:Nat):(List.range n).Nodup:=List.nodup_range
def zve{k id:Nat}(h:id<k):zd3 (List.range k) id=some id:=zg4 (nodup_range k) (by grind)
def znL{M:Mem}{ρ:Nat->Option Nat}:∀{ids:List Nat} {Ms:Mem},(∀(n id:Nat),ids[n]?=some id->∃b,M[id]?=some (some b)/\zhj ρ b=some b/\Ms[n]?=some (some b))->Ms.length=ids.length->zck M ρ ids=some Ms
 |[],Ms,_,hl=>by cases Ms with
  |nil=>rfl
  |cons=>grind
 |id::ids,Ms,h,hl=>by
  cases Ms with
  |nil=>grind
  |cons x Ms =>
   obtain⟨b,q1,q2,q3⟩:=h 0 id rfl;have:=znL (ids:=ids) (Ms:=Ms) (fun n i hn=>by simpa using h (n+1) i (by grind)) (by grind)
   grind [zck]
theorem zkC{k:Nat}{σ0:zP}{j0:Inj}{M0:Mem}{w0:World}{M':Mem}{r r':AV}{v:Value}(hm0:MR own σ0 j0 M0 w0)(hk:M0.length=k)(hm:MR own σ j M w)(hst:za2 own k σ0 j0 M0 w0 σ j M w)
  (vC:∀id,id<k->∃b,M0[id]?=some (some b))
  (hv:AVR σ j r v) (h:finish k r M=some (r',M')) :
  ∃j',AVR σ j' r' v/\MR own σ j' M' w/\za2 own k σ0 j0 M0 w0 σ j' M' w:=by
 unfold finish at h;split at h
 ·grind
 ·split at h
  ·rename_i hb;cases h;simp only[jk]at hb;have hkb:zbs (zd3 (List.range k)) k:=fun id hid=>zve hid
   refine⟨_,zlR hm0 hk hm hst (nodup_range k) wD (zqH hkb hb.1) (znL (fun n id hn=>?_) ?_) hv⟩
   ·have hn':=zC hn;simp at hn';simp[hn']at hn;subst hn;obtain⟨b,hb0⟩:=vC n hn';obtain⟨b1,hb1,_⟩:=hst.ue n b hn' hb0;refine⟨b1,hb1,zqG hkb ?_,by grind⟩;have:=hb.2;simp only[zH,jw]at this;exact this (some b1) (kF (i:=n) (by grind))
   ·have:k<=M.length:=by
     rcases Nat.eq_zero_or_pos k with h0|h0
     ·omega
     ·obtain⟨b,hb0⟩:=vC (k-1) wA;obtain⟨b1,hb1,_⟩:=hst.ue (k-1) b wA hb0
      grind
    grind
  ·dsimp only at h;split at h
   ·rename_i hc;simp only[jk,beq_iff_eq]at hc;split at h
    ·rename_i r1 M1 h1 h2;cases h;exact⟨_,zlR hm0 hk hm hst (zgy hc.1) hc.2 h1 h2 hv⟩
    grind
   grind
def zu7{frz:Bool}{k:Nat}{σ0:zP}{j0:Inj}{M0:Mem}{w0:World}{M':Mem}{r r':AV}{v:Value}(hm0:MR own σ0 j0 M0 w0)(hk:M0.length=k)(hag:zM σ w)(hm:MR own σ j M w)(hst:za2 own k σ0 j0 M0 w0 σ j M w)
  (vC:∀id,id<k->∃b,M0[id]?=some (some b)) (hkM:k<=M.length)
  (hv:AVR σ j r v) (h:leave frz k r M=some (r',M')) :
  ∃σ' j',AVR σ' j' r' v/\zM σ' w/\MR own σ' j' M' w/\za2 own k σ0 j0 M0 w0 σ' j' M' w:=by
 unfold leave at h;split at h
 ·split at h
  ·rename_i r1 hr1;obtain⟨σ2,hle2,Cr,hm2,yD,hin2⟩:=zhe r.sls hm hag;have hr2:AVR σ2 j r1 v:=zwX hm hle2 Cr (fun id hid b L i row n cl hb hL hi hn=>hin2 id hid b L i row n cl hb hL hi hn) hr1 hv;obtain⟨j3,q1,q2,q3⟩:=zkC hm0 hk hm2 (hst.trans (yD.le hkM)) vC hr2 h
   grind
  grind
 grind [zkC]
end
end Go.Eng
namespace Go.Eng
open Go
variable[zb0]
def Ret(own:Nat->Prop)(σ:zP)(j:Inj)(M:Mem)(w:World)(res:AV)(M':Mem)(e:Ending)(w':World):Prop :=
 ∃v σ' j',e=.returned v/\AVR σ' j' res v/\zM σ' w'/\MR own σ' j' M' w'/\za2 own M.length σ j M w σ' j' M' w'
def Mem.full(M:Mem):Prop:=∀id,id<M.length->∃b,M[id]?=some (some b)
structure zhz(F:Fence):Prop where
 fn:∀f,F.fn f
 depth:F.depth=none
 alive:F.alive=false
def FnS(P:Program)(cf:za4):Prop :=
 ∀f args M res M',cf f args M=some (res,M')->Mem.full M ->
  (f<zb0.base->∃fn,P.funcs[f]?=some fn/\fn.body.isNone=false/\(fn.name == "runtime.NumGoroutine")=false /\
   ∀own σ j w (vs:Array Value),(∀b,w.heap.size<=b->own b)->zM σ w->MR own σ j M w->zac σ j args vs.toList ->
    Calls P f vs w (Ret own σ j M w res M')) /\
  (zb0.base<=f->∃id sh as,args=.c (.yld id f sh)::as /\
   ∀F n own σ j w l r (vs:Array Value),zhz F->(∀b,w.heap.size<=b->own b)->zM σ w->MR own σ j M w->j id 0=some (.rnd l r f sh)->zac σ j as vs.toList ->
    vs.size=r.params.size/\(∃s p,w.heap[l]?=some (.loop { r with state:=s,pending:=p })) /\
    RoundIn F n P l r.fn ((r.params.zip vs).foldl (fun tmps (t,a)=>tmps.setIfInBounds t a) r.tmps) r.assign r.body w (Ret own σ j M w res M'))
theorem Calls.yf{P:Program}{f:FuncId}{args:Array Value}{w:World}{R R':Ending->World->Prop}(h:Calls P f args w R)(hr:∀e w',R e w'->R' e w'):Calls P f args w R' :=
 fun cs=>let ⟨e,w',fr,r,s,x⟩:=h cs;⟨e,w',fr,hr _ _ r,s,x⟩
section
variable{own:Nat->Prop}{σ:zP}{j:Inj}{M:Mem}{w:World}{P:Program}{cf:za4}
def zr1{ρ:Nat->Option Nat}{ids:List Nat}{Ms:Mem}(h:zck M ρ ids=some Ms):Mem.full Ms:=by
 obtain⟨h1,h2,h3⟩:=zfp h;intro k hk;obtain⟨b,b',_,_,q⟩:=h2 k ids[k] (by grind)
 grind
def zpB{f:FuncId}{args:List WV}{r:AV}{M3:Mem}{fp:FP}(h:zcG cf f args M=some (r,M3,fp))(hag:zM σ w)(hm:MR own σ j M w)(hown:∀b,w.heap.size<=b->own b) :
  ∃ids as Ms r0 Ms',cf f as Ms=some (r0,Ms')/\Mem.full Ms/\ziU (zd3 ids) args=some as/\(∀b,w.heap.size<=b->zig ids j M w b)/\MR (zig ids j M w) σ (zdx ids j) Ms w /\
   (∀vs,zac σ j args vs->zac σ (zdx ids j) as vs) /\
   ∀e w',Ret (zig ids j M w) σ (zdx ids j) Ms w r0 Ms' e w'->Ret own σ j M w r M3 e w'/\(fp=.no->M3.length=M.length->∀(id:Nat) (b:Blk) (L:Nat),M[id]?=some (some b)->j.atk id b.gen=some L->w'.heap[L]?=w.heap[L]?):=by
 unfold zcG at h;dsimp only at h;split at h
 ·rename_i hnd;split at h
  ·rename_i as Ms has hMs;generalize hids:collect M zfj (args.flatMap WV.ids) []=ids at *;have hn:=zgy hnd;split at h
   ·grind
   ·rename_i r0 Ms' hc;refine⟨ids,as,Ms,r0,Ms',hc,zr1 hMs,has,fun b hb=>.inr hb,hm.sub hn hMs,fun vs hvs=>zlS (zkg ids j) has hvs,?_⟩;rintro e w' ⟨v,σ',j',rfl,hr,yK,hm',hst⟩;obtain⟨jn,p1,p2,p3,p4⟩:=zt1 hm hag hn hown hMs yK hm' hst hr h;exact⟨⟨v,σ',jn,rfl,p1,yK,p2,p3⟩,fun h1 h2=>(p4 h1 h2).2⟩
  grind
 grind
def zqA{ρ:Nat->Option Nat}{args as':List WV}{id:Nat}{f:FuncId}{sh:List (Nat×Bool×Nat)}(h:ziU ρ args=some (.c (.yld id f sh)::as')):∃id0 as,args=.c (.yld id0 f sh)::as/\ρ id0=some id/\ziU ρ as=some as':=by
 cases args with
 |nil=>grind [ziU]
 |cons x xs =>
  simp only[ziU]at h;split at h
  ·rename_i y ys h1 h2;cases h;cases x with
   |a cs=>grind [zpM,Option.map_eq_some_iff]
   |c c =>
    simp only[zpM,ja]at h1;obtain⟨c',h1,e⟩:=h1;cases e;cases c with
    |yld id0 g sh0 =>
     grind [zeS,qJ,Option.map_eq_some_iff]
    |fn g fi ca =>
     grind [zeS]
    |iface t a cs=>grind [zeS,Option.map_eq_some_iff]
    |ptr=>grind [zeS,qJ,Option.map_eq_some_iff]
    |slice=>grind [zeS,qJ,Option.map_eq_some_iff]
    |map=>grind [zeS,qJ,Option.map_eq_some_iff]
    |mit=>grind [zeS,qJ,Option.map_eq_some_iff]
    |bsl=>grind [zeS,qJ,Option.map_eq_some_iff]
    |_=>cases h1
  grind
def zvz(hcf:FnS P cf){f:FuncId}{args:List WV}{vs:Array Value}{r:AV}{M3:Mem}{fp:FP}(hhd:zl2 f args=true)(h:zcG cf f args M=some (r,M3,fp))(hag:zM σ w)(hm:MR own σ j M w)
  (hown:∀b,w.heap.size<=b->own b) (hvs:zac σ j args vs.toList) :
  (∃fn,P.funcs[f]?=some fn/\fn.body.isNone=false/\(fn.name == "runtime.NumGoroutine")=false) /\
  Calls P f vs w (fun e w'=>Ret own σ j M w r M3 e w'/\(fp=.no->M3.length=M.length->∀(id:Nat) (b:Blk) (L:Nat),M[id]?=some (some b)->j.atk id b.gen=some L->w'.heap[L]?=w.heap[L]?)):=by
 obtain⟨ids,as,Ms,r0,Ms',hc,vC,Bt,BF,hms,Cq,hland⟩:=zpB h hag hm hown;obtain⟨h1,h2⟩:=hcf f as Ms r0 Ms' hc vC;rcases qG f zb0.base with hlt|hge
 ·grind [Calls.yf,zig,zdx]
 ·obtain⟨id,sh,as',rfl,_⟩:=h2 hge;obtain⟨id0,as0,rfl,_,_⟩:=zqA Bt
  grind [zl2]
theorem RoundIn.yf{F:Fence}{n:Nat}{l:Nat}{f:FuncId}{tmps:Array Value}{assign body:Code}{R R':Ending->World->Prop}(h:RoundIn F n P l f tmps assign body w R)(hr:∀e w',R e w'->R' e w'):RoundIn F n P l f tmps assign body w R':=by
 obtain⟨hF,h⟩:=h;refine⟨hF,fun c cs kA=>?_⟩;obtain⟨e,w',q,s⟩:=h c cs kA
 grind
def zuj(hcf:FnS P cf){f:FuncId}{id:Nat}{sh:List (Nat×Bool×Nat)}{as:List WV}{A7:Value}{vs:Array Value}{r:AV}{M3:Mem}{fp:FP}(h:zcG cf f (.c (.yld id f sh)::as) M=some (r,M3,fp))(hag:zM σ w)(hm:MR own σ j M w)
  (hown:∀b,w.heap.size<=b->own b) (hf:VC σ j (.yld id f sh) A7) (hvs:zac σ j as vs.toList) :
  ∃l rc,A7=.func (.yield l) #[] #[]/\w.heap[l]?=some (.loop rc)/\vs.size=rc.params.size/\∀F n,zhz F->RoundIn F n P l rc.fn ((rc.params.zip vs).foldl (fun tmps (t,a)=>tmps.setIfInBounds t a) rc.tmps) rc.assign rc.body w
   (fun e w'=>Ret own σ j M w r M3 e w'/\(fp=.no->M3.length=M.length->∀(id:Nat) (b:Blk) (L:Nat),M[id]?=some (some b)->j.atk id b.gen=some L->w'.heap[L]?=w.heap[L]?)):=by
 cases hf with
 |yld _ _ _ _ l rr hj =>
  obtain⟨ids,as',Ms,r0,Ms',hc,vC,Bt,BF,hms,Cq,hland⟩:=zpB h hag hm hown;obtain⟨_,h2⟩:=hcf f as' Ms r0 Ms' hc vC;obtain⟨id',sh',as2,rfl,Ao⟩:=h2 (zb0.le _ _ _ _ _ (hm.okP _ _ _ hj:zb0.ok f rr));obtain⟨id0,as0,e,hid,AQ⟩:=zqA Bt;cases e;have ve:=Cq (.func (.yield l) #[] #[]::vs.toList) (zac.cons (show WVR σ j (.c (.yld id f sh)) _ from .yld _ _ _ _ l rr hj) hvs);obtain⟨v0,vs0,e,hv0,hvs0⟩:=ve.kP;cases e;have hj':zdx ids j id' 0=some (.rnd l rr f sh):=zkg ids j _ _ _ _ hid hj;obtain⟨q1,⟨s,p,q2⟩,_⟩:=Ao Fence.wide 0 (zig ids j M w) σ (zdx ids j) w l rr vs ⟨fun _=>trivial,rfl,rfl⟩ BF hag hms hj' hvs0;refine⟨l,_,rfl,q2,q1,fun F n hF=>?_⟩;exact RoundIn.yf (Ao F n (zig ids j M w) σ (zdx ids j) w l rr vs hF BF hag hms hj' hvs0).2.2 hland
def AVR.plain{σ σ':zP}{j j':Inj}{x:AV}{v:Value}(hp:x.plain=true)(h:AVR σ j x v):AVR σ' j' x v:=by
 have hW:∀{y:WV} {u:Value},y.plain=true->WVR σ j y u->WVR σ' j' y u:=by
  intro y u hy hu;cases y with
  |c x=>simp[WV.plain,WV.cells]at hy;exact VC.plain hy hu
  |a cs =>
   obtain⟨arr,rfl,hs⟩:=hu;simp only[WV.plain,WV.cells,jw]at hy;exact⟨arr,rfl,hs.1,fun n c v hc hv=>(hs.2 n c v hc hv).plain (hy c (kF hc))⟩
 cases x with
 |w x=>exact hW hp h
 |t xs =>
  obtain⟨arr,rfl,hs⟩:=h;simp only[AV.plain,jw]at hp;exact⟨arr,rfl,hs.1,fun n c v hc hv=>hW (hp c (kF hc)) (hs.2 n c v hc hv)⟩
 |u=>exact h
def MR.Cn{w':World}(hm:MR own σ j M w)(h:∀(id:Nat) (b:Blk) (L:Nat),M[id]?=some (some b)->j.atk id b.gen=some L->w'.heap[L]?=w.heap[L]?):MR own σ j M w':=by
 refine⟨fun id b hb=>?_,hm.vz,hm.dom,hm.okP⟩;obtain⟨pl,h1,h2,h3⟩:=hm.vF id b hb;exact⟨pl,h1,h2.mono (zP.le_refl _) (Inj.le_refl _) (fun L e=>h id b L hb (Inj.v7 h1 e)) (fun _ _ _ h _ _=>h),h3⟩
def zu3(ids:List Nat):∀{M:Mem} {k:Nat} {b:Blk},M[k]?=some (some b)->∃b',(zbg M ids)[k]?=some (some b')/\b'.gen=b.gen:=by
 induction ids with
 |nil=>intro M k b h;exact⟨b,h,rfl⟩
 |cons id ids ih =>
  intro M k b h;obtain⟨b1,hb1,_,_,_,e,_⟩:=zeu (id:=id) h;obtain⟨b2,hb2,e2⟩:=ih hb1;exact⟨b2,hb2,by grind⟩
def zmw(P:Program)(A7:Value)(vs:Array Value)(w:World)(R:Ending->World->Prop):Prop :=
 (∃f fi ca fn,A7=.func (.func f) fi ca/\P.funcs[f]?=some fn/\fn.body.isNone=false/\(fn.name == "runtime.NumGoroutine")=false/\Calls P f (fi++vs++ca) w R) \/
 (∃l rc,A7=.func (.yield l) #[] #[]/\w.heap[l]?=some (.loop rc)/\vs.size=rc.params.size/\∀F n,zhz F->RoundIn F n P l rc.fn ((rc.params.zip vs).foldl (fun tmps (t,a)=>tmps.setIfInBounds t a) rc.tmps) rc.assign rc.body w R)
theorem zmw.mono{A7:Value}{vs:Array Value}{R R':Ending->World->Prop}(h:zmw P A7 vs w R)(hr:∀e w',R e w'->R' e w'):zmw P A7 vs w R':=by
 rcases h with⟨f,fi,ca,fn,h1,h2,h3,h4,h5⟩ |⟨l,rc,h1,h2,h3,h4⟩
 ·exact .inl ⟨f,fi,ca,fn,h1,h2,h3,h4,Calls.yf h5 hr⟩
 ·exact .inr ⟨l,rc,h1,h2,h3,fun F n hF=>RoundIn.yf (h4 F n hF) hr⟩
def ups{cs:List Cl}:∀{us:List Value},VCs σ j cs us->zac σ j (cs.map .c) us:=by
 induction cs with
 |nil=>intro us h;have:=h.vQ;grind [zac.nil]
 |cons c cs ih=>intro us h;obtain⟨u,us',rfl,hu,hs⟩:=h.kP;grind [zac.cons,WVR]
def znz(hcf:FnS P cf){fv:WV}{f:FuncId}{fi ca as:List WV}{y:Bool}{A7:Value}{vs:Array Value}{r:AV}{M3:Mem}{fp:FP}(hce:callee fv=some (f,fi,ca,y))(hhd:(y||zl2 f (fi++as++ca))=true)
  (h:zcG cf f (fi++as++ca) M=some (r,M3,fp)) (hag:zM σ w) (hm:MR own σ j M w)
  (hown:∀b,w.heap.size<=b->own b) (hf:WVR σ j fv A7) (hvs:zac σ j as vs.toList) :
  zmw P A7 vs w (fun e w'=>Ret own σ j M w r M3 e w'/\(fp=.no->M3.length=M.length->∀(id:Nat) (b:Blk) (L:Nat),M[id]?=some (some b)->j.atk id b.gen=some L->w'.heap[L]?=w.heap[L]?)):=by
 unfold callee at hce;split at hce
 ·rename_i g gi ga;cases hce;cases hf with
  |fn _ _ _ _ fi' ca' l1 l2 h1 h2 =>
   have ve:zac σ j (gi.map .c++as++ga.map .c) (fi'++vs++ca').toList:=by
    simp only[Array.toList_append];exact((ups ⟨l1,h1⟩).append hvs).append (ups ⟨l2,h2⟩)
   obtain⟨⟨fn,q1,q2,q3⟩,qE⟩:=zvz hcf (by grind) h hag hm hown ve;exact .inl ⟨f,fi',ca',fn,rfl,q1,q2,q3,qE⟩
 ·cases hce;rw[ku]at h;obtain⟨l,rc,q1,q2,q3,q4⟩:=zuj hcf h hag hm hown hf hvs;exact .inr ⟨l,rc,q1,q2,q3,q4⟩
 grind
def zpA(hcf:FnS P cf){m:zbz}{fv:WV}{args:List WV}{r:AV}{M':Mem}{fp:FP}{A7:Value}{vs:Array Value}(h:zx cf m fv args M=some (r,M',fp))(hag:zM σ w)(hm:MR own σ j M w)
  (hown:∀b,w.heap.size<=b->own b) (hf:WVR σ j fv A7) (hvs:zac σ j args vs.toList) :
  zmw P A7 vs w (Ret own σ j M w r M'):=by
 unfold zx at h;split at h
 ·rename_i f fi ca y hce;split at h
  ·split at h
   ·grind
   ·rename_i as has;split at h
    ·rename_i hhd;dsimp only at h;obtain⟨σ1,Ck,CK,hm1,yE,hin1⟩:=zhe (args.flatMap WV.sls) hm hag;have has':zac σ1 j as vs.toList:=zl3 hm Ck CK (fun id hid b L i row n cl hb hL hi hn=>hin1 id hid b L i row n cl hb hL hi hn) has hvs;have hf1:=hf.mono Ck (Inj.le_refl _);split at h
     ·have Aw:args.flatMap WV.sls=[]:=by grind
      rw[Aw]at hm1 yE;refine(znz hcf hce hhd h CK hm1 hown hf1 has').mono ?_;rintro e w' ⟨⟨v,σ',j',rfl,hr,yK,hm',hst⟩,_⟩;exact⟨v,σ',j',rfl,hr,yK,hm',yE.trans hst⟩
     split at h
     ·grind
     ·rename_i r1 M2 fp2 hc;refine(znz hcf hce hhd hc CK hm1 hown hf1 has').mono ?_;split at h
      ·rename_i hpl;cases h;simp only[jk,beq_iff_eq]at hpl;obtain⟨⟨hno,hlen⟩,hplain⟩:=hpl;have hno:fp2=.no:=by cases fp2<;>first |rfl |cases hno
       rintro e w' ⟨⟨v,σ',j',rfl,hr,yK,hm',hst⟩,BM⟩;have hs:=BM hno (by rw[hlen,zgi]);have yA:∀(id:Nat) (b:Blk) (L:Nat),M[id]?=some (some b)->j.atk id b.gen=some L->w'.heap[L]?=w.heap[L]?:=by
        intro id b L hb hL;obtain⟨b',hb',e⟩:=zu3 (args.flatMap WV.sls) hb
        grind
       refine⟨v,σ,j,rfl,hr.plain hplain,⟨fun b o v hv=>yK.cells b o v (hst.sle _ _ _ (Ck _ _ _ hv)),hag.kZ⟩,hm.Cn yA,?_⟩;exact⟨zP.le_refl _,fun _ _ _ _ h=>h,hst.size,hst.frame,fun _ _ _ h=>.inl h,fun id b hid hb=>⟨b,hb,jm _,fun _=>⟨rfl,fun L hL=>yA id b L hb hL⟩⟩,yE.side.trans hst.side⟩
      ·cases h;rintro e w' ⟨⟨v,σ',j',rfl,hr,yK,hm',hst⟩,_⟩;exact⟨v,σ',j',rfl,hr,yK,hm',yE.trans (by grind [zgi])⟩
    grind
  ·split at h
   ·rename_i hhd;exact(znz hcf hce hhd h hag hm hown hf hvs).mono fun e w' h=>h.1
   grind
 grind
end
end Go.Eng
namespace Go.Eng
open Go
variable[zb0]
section
variable{M:Mem}{q:Nat}{b0:Blk}
theorem zhl{id:Nat}(h:id≠q):(M.set q (some b0))[id]?=M[id]?:=jz (ko h)
theorem zhd(hq:M[q]?=some none){id:Nat}{b:Blk}(h:M[id]?=some (some b)):id≠q:=by
 grind
theorem zei(hq:M[q]?=some none){id g:Nat}{b:Blk}(h:look M id g=some b):look (M.set q (some b0)) id g=some b:=by
 grind [zaz,look,zhl,zhd]
def zs7(hq:M[q]?=some none){c c':Cl}(h:zdR M c=some c'):zdR (M.set q (some b0)) c=some c':=by
 cases c with
 |slice id g es off len cap =>
  grind [zdR,zei]
 |_=>exact h
theorem zvk(hq:M[q]?=some none){c c':Cl}(h:zdR M c=some c'):q∉slC c:=by
 cases c with
 |slice id g es off len cap =>
  simp only[zdR]at h;split at h
  ·rename_i b hb;have:=zhd hq (zaz hb).1;simp[slC,ko this]
  grind
 |_=>simp[slC]
def zmJ(hq:M[q]?=some none):∀{cs cs':List Cl},yL M cs=some cs'->yL (M.set q (some b0)) cs=some cs'/\q∉cs.flatMap slC
 |[],cs',h=>by grind [yL]
 |c::cs,cs',h=>by
  simp only[yL]at h ⊢;split at h
  ·rename_i y ys h1 h2;obtain⟨e1,e2⟩:=zmJ hq h2;rw[zs7 hq h1,e1];exact⟨h,by grind [zvk]⟩
  grind
theorem zyU(hq:M[q]?=some none){x y:WV}(h:zn7 M x=some y):zn7 (M.set q (some b0)) x=some y/\q∉x.sls:=by
 cases x with
 |c x =>
  simp only[zn7,ja]at h ⊢;obtain⟨a,ha,rfl⟩:=h;exact⟨⟨a,zs7 hq ha,rfl⟩,by grind [WV.sls,WV.cells,zvk]⟩
 |a cs =>
  simp only[zn7,ja]at h ⊢;obtain⟨a,ha,rfl⟩:=h;exact⟨⟨a,(zmJ hq ha).1,rfl⟩,(zmJ (b0:=b0) hq ha).2⟩
def znt(hq:M[q]?=some none):∀{cs cs':List WV},zla M cs=some cs'->zla (M.set q (some b0)) cs=some cs'/\q∉cs.flatMap WV.sls
 |[],cs',h=>by grind [zla]
 |c::cs,cs',h=>by
  simp only[zla]at h ⊢;split at h
  ·rename_i y ys h1 h2;obtain⟨e1,e2⟩:=znt hq h2
   grind [zyU]
  grind
def ztW{id:Nat}(h:id≠q):zX (M.set q (some b0)) id=(zX M id).set q (some b0):=by
 grind [zX,zhl,List.set_comm]
theorem zkx:∀{ids:List Nat} {M:Mem},q∉ids->zbg (M.set q (some b0)) ids=(zbg M ids).set q (some b0)
 |[],M,_=>rfl
 |id::ids,M,h=>by
  simp only[jK,not_or]at h;show zbg (zX _ id) ids=(zbg (zX M id) ids).set q _;rw[ztW (ko h.1),zkx h.2]
def ztV{id:Nat}:(zX M id)[q]?=some none<->M[q]?=some none:=by
 grind [zX]
def zhW:∀{ids:List Nat} {M:Mem},(zbg M ids)[q]?=some none<->M[q]?=some none
 |[],M=>Iff.rfl
 |id::ids,M=>by
  show(zbg (zX M id) ids)[q]?=_<->_;rw[zhW,ztV]
end
structure Eff(M M':Mem)(fp:FP):Prop where
 len:M.length<=M'.length
 hole:∀q:Nat,M'[q]?=some none<->M[q]?=some none
 none:fp≠.bad->(∀l,fp≠.wr l)->∀id:Nat,id<M.length->M'[id]?=M[id]?
 wr:∀l,fp=.wr l->∀(id:Nat) (b:Blk),M[id]?=some (some b)->(∀k n,l.all (FP.Ag id k n)=true->∃b':Blk,M'[id]?=some (some b')/\b'.gen=b.gen /\
  ∀i:Nat,(b'.rows[i]?).bind (fun r=>cut r k n)=(b.rows[i]?).bind (fun r=>cut r k n))
theorem Eff.refl{M:Mem}{fp:FP}:Eff M M fp:=⟨jm _,fun _=>Iff.rfl,fun _ _ _ _=>rfl,fun _ _ _ b hb _ _ _=>⟨b,hb,rfl,fun _=>rfl⟩⟩
def Eff.load{M M':Mem}{fp fl:FP}{agg:Bool}{n:Nat}{p:Cl}{av:AV}(h:Eff M M' fp)(hl:zdZ M agg n p=some (av,M,fl))(ha:fl.apart fp=true):zdZ M' agg n p=some (av,M',fl):=by
 cases p with
 |uQ row k =>
  simp only[zdZ]at hl ⊢;split at hl
  ·simp_all
  grind
 |ptr id g i k =>
  simp only[zdZ]at hl;split at hl
  ·rename_i b hlk;obtain⟨hb,rfl⟩:=zaz hlk;split at hl
   ·rename_i row hrow;split at hl
    ·rename_i cs hc;simp only[ja,ju]at hl;obtain⟨x,hx,rfl,_,rfl⟩:=hl;have key:∃b',M'[id]?=some (some b')/\b'.gen=b.gen/\(b'.rows[i]?).bind (fun r=>cut r k n)=some cs:=by
      cases fp with
      |no=>exact⟨b,by rw[h.none wD wD id (zC hb)];exact hb,rfl,by simp[hrow,hc]⟩
      |bad=>simp[FP.apart]at ha
      |ld a b c=>exact⟨_,by rw[h.none wD wD id (zC hb)];exact hb,rfl,by simp[hrow,hc]⟩
      |mk l=>exact⟨_,by rw[h.none wD wD id (zC hb)];exact hb,rfl,by simp[hrow,hc]⟩
      |wr l =>
       obtain⟨b',h1,h2,h3⟩:=h.wr l rfl id b hb k n (by simpa [FP.apart]using ha);exact⟨b',h1,h2,by rw[h3 i];simp[hrow,hc]⟩
     obtain⟨b',h1,h2,h3⟩:=key;cases hr:b'.rows[i]? with
     |none=>rw[hr]at h3;cases h3
     |some r =>
      rw[hr]at h3;simp only[ug]at h3;simp[zdZ,look,h1,h2,hr,h3,hx]
    ·cases hl
   ·cases hl
  grind
 |_=>cases hl
def Eff.C6{M M':Mem}{fp fl:FP}{agg:Bool}{n base:Nat}{p:Cl}{av:AV}(h:Eff M M' fp)(hl:zdZ M' agg n p=some (av,M',fl))(ha:fp.apart fl=true)(ho:fl.old base=true)(AD:base<=M.length) :
  zdZ M agg n p=some (av,M,fl):=by
 cases p with
 |uQ row k =>
  simp only[zdZ]at hl ⊢;split at hl
  ·rename_i cs hc;simp only[ja,ju]at hl;obtain⟨x,hx,rfl,_,rfl⟩:=hl;simp[hx]
  ·cases hl
 |ptr id g i k =>
  simp only[zdZ]at hl;split at hl
  ·rename_i b' hlk;obtain⟨hb',rfl⟩:=zaz hlk;split at hl
   ·rename_i row hrow;split at hl
    ·rename_i cs hc;simp only[ja,ju]at hl;obtain⟨x,hx,rfl,_,rfl⟩:=hl;have hid:id<M.length:=by simp only[FP.old,decide_eq_true_eq]at ho;omega
     obtain⟨b,hb⟩:∃b,M[id]?=some (some b):=by
      cases hM:M[id]? with
      |none=>rw[jq hid]at hM;cases hM
      |some ob =>
       cases ob with
       |some b=>exact⟨b,rfl⟩
       |none=>rw[(h.hole id).2 hM]at hb';cases hb'
     have same:M'[id]?=M[id]?->b'=b:=fun e=>by rw[hb',hb]at e;cases e;rfl
     have key:b.gen=b'.gen/\(b.rows[i]?).bind (fun r=>cut r k n)=some cs:=by
      cases fp with
      |no=>have:=same (h.none wD wD id hid);subst this;exact⟨rfl,by simp[hrow,hc]⟩
      |bad=>simp[FP.apart]at ha
      |ld a b c=>have:=same (h.none wD wD id hid);subst this;exact⟨rfl,by simp[hrow,hc]⟩
      |mk l=>simp[FP.apart]at ha
      |wr l =>
       obtain⟨b1,h1,h2,h3⟩:=h.wr l rfl id b hb k n (by simpa [FP.apart]using ha);rw[hb']at h1;cases h1;exact⟨h2.symm,by rw[<-h3 i];simp[hrow,hc]⟩
     obtain⟨h2,h3⟩:=key;cases hr:b.rows[i]? with
     |none=>rw[hr]at h3;cases h3
     |some r =>
      rw[hr]at h3;simp only[ug]at h3;simp[zdZ,look,hb,h2,hr,h3,hx]
    ·cases hl
   ·cases hl
  ·cases hl
 |_=>cases hl
end Go.Eng
namespace Go.Eng
open Go
variable[zb0]
section
variable{M M':Mem}{q:Nat}{b0:Blk}
structure Hv(M:Mem)(run:Mem->Option (AV×Mem×FP)):Prop where
 eff:∀av M' fp,run M=some (av,M',fp)->Eff M M' fp
 fill:∀av M' fp (q:Nat) b0,run M=some (av,M',fp)->M[q]?=some none->run (M.set q (some b0))=some (av,M'.set q (some b0),fp)
def zl1{id:Nat}{b b':Blk}(hb:M[id]?=some (some b)){q:Nat}:(M.set id (some b'))[q]?=some none<->M[q]?=some none:=by
 grind
theorem zw4{row A6 cs:List Cl}{k k' n:Nat}(h:AS row k cs=some A6)(ha:k'+n<=k\/k+cs.length<=k'):cut A6 k' n=cut row k' n:=by
 obtain⟨h1,h2,h3⟩:=zng h;unfold cut;rw[h2];split
 ·congr 1
  apply qw
  grind
 simp
def FP.vg{l:List (Nat×Nat×Nat)}{id k n:Nat}(h:l.all (FP.Ag id k n)=true){id' k' n':Nat}(hm:(id',k',n')∈l):id≠id'\/(n'<whole/\(k+n<=k'\/k'+n'<=k)):=by
 grind [List.all_eq_true,FP.Ag]
theorem zhg{id g i k:Nat}{cs:List Cl}(h:storeAt M id g i k cs=some M'):Eff M M' (.wr [(id,k,cs.length)])/\(∀(q:Nat) b0,M[q]?=some none->storeAt (M.set q (some b0)) id g i k cs=some (M'.set q (some b0))):=by
 unfold storeAt at h;split at h
 ·rename_i b hlk;obtain⟨hb,rfl⟩:=zaz hlk;split at h
  ·grind
  ·split at h
   ·split at h
    ·cases h;refine⟨⟨wD,fun q=>zl1 hb,fun _ h=>absurd rfl (h _),fun l hl id' b' hb' k' n' ha=>?_⟩,fun q b0 hq=>?_⟩
     ·cases hl;rcases FP.vg ha (jB.2 rfl)with hne |⟨_,hne⟩
      ·grind
      ·by_cases hid:id'=id
       ·grind [List.getElem?_set_self,zC,zw4,List.getElem?_set_ne]
       grind
     grind [zhd,storeAt,zei,List.set_comm]
    grind
   grind
 grind
def zpr(ids:List Nat):Eff M (zbg M ids) (.wr (ids.map fun id=>(id,0,whole))):=by
 refine⟨by simp[zgi,jm],fun q=>zhW,fun _ h=>absurd rfl (h _),fun l hl id b hb k n ha=>?_⟩;cases hl;have hid:id∉ids:=by
  intro hid;rcases FP.vg ha (jW.2 ⟨id,hid,rfl⟩)with h |⟨h,_⟩
  ·grind
  grind
 have:∀(ids:List Nat) (M:Mem),id∉ids->(zbg M ids)[id]?=M[id]?:=by
  intro ids;induction ids with
  |nil=>intro M _;rfl
  |cons x xs ih =>
   intro M h;show(zbg (zX M x) xs)[id]?=_
   grind [zX]
 grind
theorem Eff.trans{M1 M2:Mem}{l l':List (Nat×Nat×Nat)}(h:Eff M M1 (.wr l))(h':Eff M1 M2 (.wr l')):Eff M M2 (.wr (l++l')):=by
 refine⟨jT h.len h'.len,fun q=>(h'.hole q).trans (h.hole q),fun _ h=>absurd rfl (h _),fun x hx id b hb k n ha=>?_⟩;cases hx;rw[List.all_append,jk]at ha;obtain⟨b1,h1,h2,h3⟩:=h.wr l rfl id b hb k n ha.1;obtain⟨b2,h1',h2',h3'⟩:=h'.wr l' rfl id b1 h1 k n ha.2
 grind
def Eff.DI{l l':List (Nat×Nat×Nat)}(h:Eff M M' (.wr l))(hs:∀x∈l,x∈l'):Eff M M' (.wr l') :=
 ⟨h.len,h.hole,fun _ h=>absurd rfl (h _),fun x hx id b hb k n ha=>by
   cases hx;exact h.wr l rfl id b hb k n (jw.2 fun y hy=>jw.1 ha y (hs y hy))⟩
def Eff.DM(h:Eff M M' .no)(l:List (Nat×Nat×Nat)):Eff M M' (.wr l) :=
 ⟨h.len,h.hole,fun _ h=>absurd rfl (h _),fun x hx id b hb k n ha=>⟨b,by rw[h.none wD wD id (zC hb)];grind,rfl,fun _=>rfl⟩⟩
def zzp{n:Nat}{p:Cl}{v:WV}:Hv M (fun M=>zhT M n p v):=by
 cases p with
 |ptr id g i k =>
  have Do:∀{r},zhT M n (.ptr id g i k) v=some r->v.cells.length=n/\((zfJ M id g=true/\((storeAt M id g i k v.cells).map fun M'=>(AV.u,M',FP.wr [(id,k,n)]))=some r) \/
    (zfJ M id g=false/\∃cs,yL M v.cells=some cs/\cs.all zcl=true/\((storeAt (zbg M v.sls) id g i k cs).map fun M'=>(AV.u,M',FP.wr ((id,k,n)::v.sls.map fun x=>(x,0,whole))))=some r)):=by
   grind [zhT]
  have boxSame:∀{q:Nat} {b0:Blk} {M1:Mem},M[q]?=some none->storeAt M id g i k v.cells=some M1->zfJ (M.set q (some b0)) id g=zfJ M id g:=by
   grind [storeAt,zfJ,zei]
  refine⟨fun av M' fp h=>?_,fun av M' fp q b0 h hq=>?_⟩
  ·obtain⟨hl,h |⟨_,cs,hcs,hn,h⟩⟩:=Do h
   ·simp only[ja,ju]at h
    grind [zhg]
   ·simp only[ja,ju]at h;obtain⟨M1,h1,rfl,rfl,rfl⟩:=h;have e1:=(zhg h1).1;have hlen:cs.length=n:=by
     have:∀{a b:List Cl},yL M a=some b->b.length=a.length:=by
      intro a;induction a with
      |nil=>grind [yL]
      |cons x xs ih =>
       grind [yL]
     grind
    exact((zpr v.sls).trans e1).DI fun x hx=>by
     grind
  ·obtain⟨hl,h |⟨hbx,cs,hcs,hn,h⟩⟩:=Do h
   ·obtain⟨hbx,h⟩:=h;simp only[ja,ju]at h;obtain⟨M1,h1,rfl,rfl,rfl⟩:=h
    simp_all [zhT,if_true,zhg]
   ·simp only[ja,ju]at h;obtain⟨M1,h1,rfl,rfl,rfl⟩:=h;obtain⟨f1,f2⟩:=zmJ (b0:=b0) hq hcs;have hq':(zbg M v.sls)[q]?=some none:=zhW.2 hq;have h2:=(zhg h1).2 q b0 hq';rw[<-zkx (show q∉v.sls from f2)]at h2;have hbx':zfJ (M.set q (some b0)) id g=false:=by
     have:∃b,(zbg M v.sls)[id]?=some (some b):=by
      grind [storeAt,zaz]
     grind [id,zhd,zfJ,look,zhl]
    simp_all [zhT,if_true]
 |_=>exact⟨fun av M' fp h=>(by cases h),fun av M' fp q b0 h _=>(by cases h)⟩
def zgE(hq:M[q]?=some none){esz:Nat}{c:Cl}{ys:List (List Cl)}(h:zeF M esz c=some ys):zeF (M.set q (some b0)) esz c=some ys:=by
 cases c with
 |slice id g e off len cap =>
  grind [zeF,zei]
 |_=>exact h
def zvI{b:Blk}{q:Nat}:(M++[some b])[q]?=some none<->M[q]?=some none:=by
 grind
def zpI{b:Blk}{q:Nat}(hq:M[q]?=some none):(M.set q (some b0))++[some b]=(M++[some b]).set q (some b0):=by
 grind
def zy4{esz bytes:Nat}{s x:Cl}:Hv M (fun M=>zcB M esz bytes s x):=by
 have key:∀{r},zcB M esz bytes s x=some r->∃ys,zeF M esz x=some ys /\
   ((∃v,r=(v,M,.no)/\∀M1:Mem,M1.length=M.length->zeF M1 esz x=some ys->zcB M1 esz bytes s x=some (v,M1,.no)) \/
    (∃v id b,r=(v,M,.wr [(id,0,whole)])/\M[id]?=some (some b)/\∀M1:Mem,M1.length=M.length->zeF M1 esz x=some ys->M1[id]?=some (some b)->zcB M1 esz bytes s x=some (v,M1,.wr [(id,0,whole)])) \/
    (∃v,r=(v,M++[some { box:=false,esz,rows:=ys,gen:=ys.length,fz:=false,ver:=ys.length }],.no)/\∀M1:Mem,M1.length=M.length->zeF M1 esz x=some ys->zcB M1 esz bytes s x=some (v,M1++[some { box:=false,esz,rows:=ys,gen:=ys.length,fz:=false,ver:=ys.length }],.no)) \/
    (∃v id b b',r=(v,M.set id (some b'),.wr [(id,0,whole)])/\M[id]?=some (some b)/\∀M1:Mem,M1.length=M.length->zeF M1 esz x=some ys->M1[id]?=some (some b)->zcB M1 esz bytes s x=some (v,M1.set id (some b'),.wr [(id,0,whole)]))):=by
  intro r h;unfold zcB at h;split at h
  ·grind
  ·rename_i ys hys;refine⟨ys,hys,?_⟩;dsimp only at h;split at h
   ·split at h
    ·rename_i hc;cases h;refine .inl ⟨_,rfl,fun M1 hl h1=>?_⟩;simp only[zcB,h1];rw[if_pos hc]
    ·rename_i hne;split at h
     ·rename_i hc;cases h;refine .inr (.inr (.inl ⟨_,rfl,fun M1 hl h1=>?_⟩));simp only[zcB,h1];rw[if_neg hne,if_pos hc,hl]
     ·cases h
   ·split at h
    ·rename_i hc;cases h;refine .inl ⟨_,rfl,fun M1 hl h1=>?_⟩;simp only[zcB,h1];rw[if_pos hc]
    ·cases h
   ·rename_i id g esz' off len cap;split at h
    ·rename_i b hlk;obtain⟨hb,rfl⟩:=zaz hlk;have hlk1:∀M1:Mem,M1[id]?=some (some b)->look M1 id b.gen=some b:=fun M1 h2=>by unfold look;rw[h2];simp
     split at h
     ·rename_i hc;split at h
      ·rename_i Af;cases h;refine .inr (.inl ⟨_,_,b,rfl,hb,fun M1 hl h1 h2=>?_⟩);simp only[zcB,h1,hlk1 M1 h2];rw[if_pos hc,if_pos Af]
      ·rename_i Af;cases h;refine .inr (.inr (.inr ⟨_,_,b,_,rfl,hb,fun M1 hl h1 h2=>?_⟩));simp only[zcB,h1,hlk1 M1 h2];rw[if_pos hc,if_neg Af]
     ·cases h
    ·cases h
   ·cases h
 refine⟨fun av M' fp h=>?_,fun av M' fp q b0 h hq=>?_⟩
 ·obtain⟨ys,hys,⟨v,hr,_⟩ |⟨v,id,b,hr,_,_⟩ |⟨v,hr,_⟩ |⟨v,id,b,b',hr,hb,_⟩⟩:=key h
  ·simp only[ju]at hr;obtain⟨rfl,rfl,rfl⟩:=hr;exact Eff.refl
  ·simp only[ju]at hr;obtain⟨rfl,rfl,rfl⟩:=hr;exact Eff.refl
  ·simp only[ju]at hr;obtain⟨rfl,rfl,rfl⟩:=hr;exact⟨wD,fun q=>zvI,fun _ _ id hid=>by rw[jo hid],fun l hl=>by cases hl⟩
  ·simp only[ju]at hr;obtain⟨rfl,rfl,rfl⟩:=hr;refine⟨wD,fun q=>zl1 hb,fun _ h=>absurd rfl (h _),fun l hl id' b' hb' k n ha=>?_⟩;cases hl;rcases FP.vg ha (jB.2 rfl)with hne |⟨hne,_⟩
   ·exact⟨b',by rw[jz (ko hne)];exact hb',rfl,fun _=>rfl⟩
   ·exact absurd hne (vG _)
 ·obtain⟨ys,hys,⟨v,hr,ui⟩ |⟨v,id,b,hr,hb,ui⟩ |⟨v,hr,ui⟩ |⟨v,id,b,b',hr,hb,ui⟩⟩:=key h
  ·simp only[ju]at hr;obtain⟨rfl,rfl,rfl⟩:=hr;exact ui _ wD (zgE hq hys)
  ·simp only[ju]at hr;obtain⟨rfl,rfl,rfl⟩:=hr;exact ui _ wD (zgE hq hys) (by rw[zhl (zhd hq hb)];exact hb)
  ·simp only[ju]at hr;obtain⟨rfl,rfl,rfl⟩:=hr;have:=ui (M.set q (some b0)) wD (zgE hq hys);rw[zpI hq]at this;exact this
  ·simp only[ju]at hr;obtain⟨rfl,rfl,rfl⟩:=hr;have hne:=zhd hq hb;have:=ui (M.set q (some b0)) wD (zgE hq hys) (by rw[zhl hne];exact hb);rw[qD _ _ hne.symm]at this;exact this
def zAz{zero:List Cl}{x:Cl}:Hv M (fun M=>zgI M zero x):=by
 cases x with
 |jc =>
  exact⟨fun av M' fp h=>(by obtain⟨_,rfl,rfl⟩:=h;exact Eff.refl),
   fun av M' fp q b0 h hq=>(by simp only[zgI,ji,ju]at h ⊢;obtain⟨rfl,rfl,rfl⟩:=h;simp)⟩
 |slice id g e off len cap =>
  refine⟨fun av M' fp h=>?_,fun av M' fp q b0 h hq=>?_⟩
  ·simp only[zgI]at h;split at h
   ·grind [Eff.refl]
   ·split at h
    ·rename_i b hlk;obtain⟨hb,rfl⟩:=zaz hlk;split at h
     ·cases h;refine⟨wD,fun q=>zl1 hb,fun _ h=>absurd rfl (h _),fun l hl id' b' hb' k n ha=>?_⟩;cases hl;rcases FP.vg ha (jB.2 rfl)with hne |⟨hne,_⟩
      ·grind
      grind
     grind
    grind
  ·simp only[zgI]at h ⊢;split at h
   ·grind
   ·rename_i h0;rw[if_neg h0];split at h
    ·rename_i b hlk;obtain⟨hb,rfl⟩:=zaz hlk;split at h
     ·rename_i hc;cases h;rw[zei hq hlk];simp only;rw[if_pos hc,qD _ _ (zhd hq hb).symm]
     grind
    grind
 |_=>exact⟨fun av M' fp h=>(by cases h),fun av M' fp q b0 h _=>(by cases h)⟩
def zkK:∀(f:Nat) (todo seen:List Nat),∀x∈seen,x∈collect M f todo seen
 |0,todo,seen,x,h=>h
 |f+1,[],seen,x,h=>h
 |f+1,id::todo,seen,x,h=>by
  simp only[collect];split
  ·exact zkK f _ _ x h
  ·exact zkK f _ _ x (kV _ h)
theorem zkL:∀(f:Nat) (todo seen:List Nat),q∉collect M f todo seen->collect (M.set q (some b0)) f todo seen=collect M f todo seen
 |0,todo,seen,h=>rfl
 |f+1,[],seen,h=>rfl
 |f+1,id::todo,seen,h=>by
  simp only[collect]at h ⊢;split
  ·rename_i hc;rw[if_pos hc]at h;exact zkL f _ _ h
  ·rename_i hc;rw[if_neg hc]at h;have hid:id≠q:=by
    rintro rfl;exact h (zkK f _ _ _ (qj _ (jB.2 rfl)))
   have e:zpw (M.set q (some b0)) id=zpw M id:=by grind [zpw,zhl]
   rw[e];exact zkL f _ _ h
theorem zm5{ρ:Nat->Option Nat}:∀{ids:List Nat},q∉ids->zck (M.set q (some b0)) ρ ids=zck M ρ ids
 |[],_=>rfl
 |id::ids,h=>by
  simp only[jK,not_or]at h;simp only[zck];rw[zhl (ko h.1),zm5 h.2]
def zo6{ρ:Nat->Option Nat}:∀{ids:List Nat} {Ms:Mem} {r:Mem×List Nat},q∉ids->back ρ ids Ms M=some r->back ρ ids Ms (M.set q (some b0))=some (r.1.set q (some b0),r.2)
 |[],Ms,r,_,h=>by grind [back,Option.some.injEq]
 |id::ids,[],r,_,h=>by grind [back]
 |id::ids,none::Ms,r,_,h=>by grind [back]
 |id::ids,some b::Ms,r,hn,h=>by
  simp only[jK,not_or]at hn;simp only[back]at h ⊢;rw[zhl (ko hn.1)];split at h
  ·split at h
   ·rename_i hv;simp only[if_pos hv];exact zo6 hn.2 h
   ·split at h
    ·rename_i b' M1 ch h1 h2;have:=zo6 hn.2 h2
     grind [List.set_comm]
    grind
  grind
def zom{ρ:Nat->Option Nat}:∀{ids:List Nat} {Ms:Mem} {r:Mem×List Nat},back ρ ids Ms M=some r->r.1.length=M.length/\(∀id,id∉r.2->r.1[id]?=M[id]?)/\∀q:Nat,r.1[q]?=some none<->M[q]?=some none
 |[],Ms,r,h=>by grind [back,Option.some.injEq]
 |id::ids,[],r,h=>by grind [back]
 |id::ids,none::Ms,r,h=>by grind [back]
 |id::ids,some b::Ms,r,h=>by
  simp only[back]at h;split at h
  ·split at h
   ·exact zom h
   ·split at h
    ·rename_i b' M1 ch h1 h2;obtain⟨e1,e2,e3⟩:=zom h2
     grind
    grind
  grind
theorem zs1{ids:List Nat}{Ms:Mem}{r:AV}:uC ids M r Ms=(match back (zeb ids M.length) ids Ms M,zgx (zeb ids M.length) (Ms.drop ids.length),znn (zeb ids M.length) r with
 |some (M',ch),some new,some r=>some (r,M'++new,if ch.isEmpty then .no else .wr (ch.map fun id=>(id,0,whole)))
 |_,_,_=>none):=rfl
theorem zyL{ids:List Nat}{Ms:Mem}{r av:AV}{fp:FP}(h:uC ids M r Ms=some (av,M',fp)):fp=.no\/∃l,fp=.wr l:=by
 grind [zs1]
def zy1{cf:za4}{f:FuncId}{args:List WV}{av:AV}{fp:FP}(h:zcG cf f args M=some (av,M',fp)):fp=.no\/∃l,fp=.wr l:=by
 grind [zcG,zyL]
def zs0{ids:List Nat}{Ms:Mem}{r:AV}:(∀av M' fp,uC ids M r Ms=some (av,M',fp)->Eff M M' fp) /\
  (∀av M' fp (q:Nat) b0,uC ids M r Ms=some (av,M',fp)->M[q]?=some none->q∉ids->uC ids (M.set q (some b0)) r Ms=some (av,M'.set q (some b0),fp)):=by
 have key:∀av M' fp,uC ids M r Ms=some (av,M',fp)->∃M1 ch new,back (zeb ids M.length) ids Ms M=some (M1,ch)/\zgx (zeb ids M.length) (Ms.drop ids.length)=some new/\znn (zeb ids M.length) r=some av /\
   M'=M1++new/\fp=if ch.isEmpty then .no else .wr (ch.map fun id=>(id,0,whole)):=by
  intro av M' fp h;simp only[uC]at h;split at h
  ·rename_i M1 ch new r1 h1 h2 h3;simp only[ji,ju]at h;obtain⟨rfl,rfl,rfl⟩:=h;exact⟨M1,ch,new,h1,h2,h3,rfl,rfl⟩
  grind
 refine⟨fun av M' fp h=>?_,fun av M' fp q b0 h hq hid=>?_⟩
 ·obtain⟨M1,ch,new,h1,h2,h3,rfl,rfl⟩:=key _ _ _ h;obtain⟨e1,e2,e3⟩:=zom h1;dsimp only at e1 e2 e3;have BF:∀k:Nat,new[k]?≠some none:=by
   have:∀{ρ:Nat->Option Nat} {Ms Ms':Mem},zgx ρ Ms=some Ms'->∀k:Nat,Ms'[k]?≠some none:=by
    intro ρ Ms;induction Ms with
    |nil=>intro Ms' h k;simp only[zgx,ji]at h;subst h;simp
    |cons x xs ih =>
     intro Ms' h k;cases x with
     |none=>grind [zgx]
     |some b =>
      grind [zgx]
   grind
  refine⟨by grind,fun q=>?_,fun hb hw id hid=>?_,fun l hl id b hb k n ha=>?_⟩
  ·grind
  ·grind
  ·rw[jo (by grind)];have hne:id∉ch:=by
    intro hm;split at hl
    ·grind
    ·cases hl;rcases FP.vg ha (jW.2 ⟨id,hm,rfl⟩)with h |⟨h,_⟩
     ·grind
     grind
   grind
 ·obtain⟨M1,ch,new,h1,h2,h3,rfl,rfl⟩:=key _ _ _ h;have h1':=zo6 (b0:=b0) hid h1;have e1:=(zom h1).1;have hl:(M.set q (some b0)).length=M.length:=wD
  grind [zs1,List.set_append_left,zC]
def zie{cf:za4}{f:FuncId}{args:List WV}:Hv M (fun M=>zcG cf f args M):=by
 have key:∀{r},zcG cf f args M=some r->∃ids Ms r0 Ms0,collect M zfj (args.flatMap WV.ids) []=ids/\zck M (zd3 ids) ids=some Ms/\uC ids M r0 Ms0=some r /\
   ∀M1:Mem,collect M1 zfj (args.flatMap WV.ids) []=ids->zck M1 (zd3 ids) ids=some Ms->zcG cf f args M1=uC ids M1 r0 Ms0:=by
  intro r h;unfold zcG at h;dsimp only at h;split at h
  ·split at h
   ·rename_i as Ms has hMs;split at h
    ·grind
    ·rename_i r1 Ms1 hc;refine⟨_,Ms,r1,Ms1,rfl,hMs,h,fun M1 h1 h2=>?_⟩
     simp_all [zcG,if_true]
   grind
  grind
 refine⟨fun av M' fp h=>?_,fun av M' fp q b0 h hq=>?_⟩
 ·obtain⟨ids,Ms,r0,Ms0,h1,h2,h3,h4⟩:=key h;exact zs0.1 _ _ _ h3
 ·obtain⟨ids,Ms,r0,Ms0,h1,h2,h3,h4⟩:=key h;have hid:q∉ids:=by
   intro hm;obtain⟨k,hk⟩:=j7 hm;obtain⟨b,_,hb,_⟩:=(zfp h2).2.1 k q hk
   grind
  have h5:=h4 (M.set q (some b0)) (by grind [zkL]) (by grind [zm5]);rw[h5];exact zs0.2 _ _ _ q b0 h3 hq hid
def zy0{cf:za4}{m:zbz}{fv:WV}{args:List WV}:Hv M (fun M=>zx cf m fv args M):=by
 have key:∀{r},zx cf m fv args M=some r->∃f fi ca y,callee fv=some (f,fi,ca,y)/\((m.fa=false/\(y||zl2 f (fi++args++ca))=true/\zcG cf f (fi++args++ca) M=some r) \/
   (m.fa=true/\∃as,zla M args=some as/\(y||zl2 f (fi++as++ca))=true/\(((args.flatMap WV.sls).isEmpty=true/\zcG cf f (fi++as++ca) M=some r) \/
    ((args.flatMap WV.sls).isEmpty=false/\∃r0 M2 fp,zcG cf f (fi++as++ca) (zbg M (args.flatMap WV.sls))=some (r0,M2,fp) /\
     (((fp.C8&&M2.length==M.length&&r0.plain)=false/\r=(r0,M2,match fp with |.wr l=>.wr ((args.flatMap WV.sls).map (fun id=>(id,0,whole))++l) |_=>.wr ((args.flatMap WV.sls).map fun id=>(id,0,whole)))) \/
      ((fp.C8&&M2.length==M.length&&r0.plain)=true/\r=(r0,M,.no))))))):=by
  intro r h;unfold zx at h;split at h
  ·rename_i f fi ca y hce;refine⟨f,fi,ca,y,hce,?_⟩;split at h
   ·rename_i hfa;split at h
    ·cases h
    ·rename_i as has;split at h
     ·rename_i hhd;dsimp only at h;refine .inr ⟨hfa,as,has,hhd,?_⟩;split at h
      ·rename_i Af;exact .inl ⟨Af,h⟩
      ·rename_i Af;split at h
       ·cases h
       ·rename_i r0 M2 fp hc;refine .inr ⟨by simpa using Af,r0,M2,fp,hc,?_⟩;split at h
        ·rename_i hp;cases h;exact .inr ⟨hp,rfl⟩
        ·rename_i hp;cases h;exact .inl ⟨by simpa using hp,rfl⟩
     ·cases h
   grind
  grind
 refine⟨fun av M' fp h=>?_,fun av M' fp q b0 h hq=>?_⟩
 ·obtain⟨f,fi,ca,y,hce,⟨_,_,h1⟩ |⟨_,as,has,_,⟨_,h1⟩ |⟨_,r0,M2,fp2,hc,⟨_,hr⟩ |⟨_,hr⟩⟩⟩⟩:=key h
  ·exact zie.eff _ _ _ h1
  ·exact zie.eff _ _ _ h1
  ·simp only[ju]at hr;obtain⟨rfl,rfl,rfl⟩:=hr;have e1:=zpr (M:=M) (args.flatMap WV.sls);have e2:=(zie (M:=zbg M (args.flatMap WV.sls))).eff _ _ _ hc;rcases zy1 hc with rfl |⟨l,rfl⟩
   ·have:=e1.trans (e2.DM []);grind
   ·exact e1.trans e2
  ·simp only[ju]at hr;obtain⟨rfl,rfl,rfl⟩:=hr;exact Eff.refl
 ·obtain⟨f,fi,ca,y,hce,⟨hfa,hhd,h1⟩ |⟨hfa,as,has,hhd,⟨Af,h1⟩ |⟨Af,r0,M2,fp2,hc,BT⟩⟩⟩:=key h
  ·have:=zie.fill _ _ _ q b0 h1 hq
   simp_all [zx,if_true,jI,if_false]
  ·obtain⟨f1,f2⟩:=znt (b0:=b0) hq has;have:=zie.fill _ _ _ q b0 h1 hq
   simp_all [zx,if_true]
  ·obtain⟨f1,f2⟩:=znt (b0:=b0) hq has;have hq':(zbg M (args.flatMap WV.sls))[q]?=some none:=zhW.2 hq;have hc':zcG cf f (fi++as++ca) ((zbg M (args.flatMap WV.sls)).set q (some b0))=_:=zie.fill _ _ _ q b0 hc hq';rw[<-zkx f2]at hc';rcases BT with⟨hp,hr⟩ |⟨hp,hr⟩
   ·simp only[ju]at hr;obtain⟨rfl,rfl,rfl⟩:=hr;simp only[zx,hce,hfa,if_true,f1,hc',Af,hhd,Ar,hp,jI,if_false];cases fp2<;>rfl
   ·simp only[ju]at hr;obtain⟨rfl,rfl,rfl⟩:=hr;simp only[zx,hce,hfa,if_true,f1,hc',Af,hhd,Ar,hp,jI,if_false]
end
end Go.Eng
namespace Go.Eng
open Go
variable[zb0]
section
variable{M M':Mem}{q:Nat}{b0:Blk}
theorem zg2(hq:M[q]?=some none){id:Nat}{x:Blk×Int×List (List Cl)}(h:zi4 M id=some x):zi4 (M.set q (some b0)) id=some x:=by
 grind [zi4,zei]
def zjH{id:Nat}{x:Blk×Int×List (List Cl)}(h:zi4 M id=some x):M[id]?=some (some x.1):=by
 grind [zi4,zaz]
def znc(hq:M[q]?=some none){id g i k n:Nat}{cs:List Cl}(h:ziB M id g i k n=some cs):ziB (M.set q (some b0)) id g i k n=some cs:=by
 grind [ziB,zei]
def Hv.read{f:Mem->Option AV}{run:Mem->Option (AV×Mem×FP)}(hr:∀M,run M=(f M).map fun v=>(v,M,.no))(hf:∀(v:AV) (q:Nat) (b0:Blk),f M=some v->M[q]?=some none->f (M.set q (some b0))=some v):Hv M run:=by
 refine⟨fun av M' fp h=>?_,fun av M' fp q b0 h hq=>?_⟩
 ·rw[hr]at h;simp only[ja,ju]at h;obtain⟨_,_,_,rfl,rfl⟩:=h;exact Eff.refl
 grind [Option.map_eq_some_iff,Prod.mk.injEq]
theorem zqu{id:Nat}{b b':Blk}{fp:List (Nat×Nat×Nat)}(hb:M[id]?=some (some b))(hfp:(id,0,whole)∈fp):Eff M (M.set id (some b')) (.wr fp):=by
 refine⟨wD,fun q=>zl1 hb,fun _ h=>absurd rfl (h _),fun l hl id' b1 hb' k n ha=>?_⟩;cases hl;rcases FP.vg ha hfp with hne |⟨hne,_⟩
 ·grind
 grind
def zyz{ok g:Bool}{z:WV}{vs:List WV}:Hv M fun M=>znp M ok g z vs:=by
 refine Hv.read (f:=fun M=>(znp M ok g z vs).map (·.1)) (fun M=>?_) (fun v q b0 h hq=>?_)
 ·unfold znp
  repeat' split
  all_goals first |rfl |(split<;>rfl)
 ·revert h;unfold znp;split
  ·split
   ·grind
   ·grind [zg2]
   grind
  grind
def zyy{vs:List WV}:Hv M fun M=>zno M vs:=by
 refine Hv.read (f:=fun M=>(zno M vs).map (·.1)) (fun M=>?_) (fun v q b0 h hq=>?_)
 ·unfold zno
  grind
 ·revert h;unfold zno
  grind [zg2]
def zu4{vs:List WV}:Hv M fun M=>zil M vs:=by
 refine Hv.read (f:=fun M=>(zil M vs).map (·.1)) (fun M=>?_) (fun v q b0 h hq=>?_)
 ·unfold zil
  repeat' split
  all_goals rfl
 ·revert h;unfold zil;split
  ·split
   ·rename_i b hb;rw[zei hq hb];split
    ·grind [zg2]
    grind
   grind
  grind
def zzk{vs:List WV}:Hv M fun M=>zkf M vs:=by
 refine Hv.read (f:=fun M=>(zkf M vs).map (·.1)) (fun M=>?_) (fun v q b0 h hq=>?_)
 ·unfold zkf
  grind
 ·revert h;unfold zkf;split
  ·split
   ·split
    ·rename_i hb;rw[znc hq hb];simp only;split<;>exact fun h=>h
    ·intro h;cases h
   ·exact fun h=>h
  ·split
   ·rename_i hy;rw[zgE hq hy];simp only;split<;>exact fun h=>h
   ·intro h;cases h
  ·exact fun h=>h
def zyx{g:Bool}{vs:List WV}:Hv M fun M=>zoJ M g vs:=by
 refine⟨fun av M' fp h=>?_,fun av M' fp q b0 h hq=>?_⟩
 ·unfold zoJ at h;split at h
  ·split at h
   ·split at h
    ·rename_i hat;split at h
     ·cases h;exact zqu (zjH hat) wD
     ·cases h;exact zqu (zjH hat) wD
     grind
    grind
   grind
  grind
 ·revert h;unfold zoJ;split
  ·split
   ·split
    ·rename_i hat;rw[zg2 hq hat];have hne:=(zhd hq (zjH hat)).symm;split
     ·grind [zlW,List.set_comm]
     ·grind [zlW,List.set_comm]
     grind
    grind
   grind
  grind
def ZlD{g:Bool}{vs:List WV}:Hv M fun M=>Zig M g vs:=by
 have inv:∀{r},Zig M g vs=some r->∃m k v v' a M' l,vs=[m,k,v]/\zn7 M v=some v'/\zoJ (zbg M v.sls) g [m,k,v']=some (a,M',.wr l)/\r=(a,M',.wr (v.sls.map (fun x=>(x,0,whole))++l)):=by
  intro r h;unfold Zig at h
  grind
 refine⟨fun av M' fp h=>?_,fun av M' fp q b0 h hq=>?_⟩
 ·obtain⟨m,k,v,v',a,M1,l,rfl,hf,hp,e⟩:=inv h;cases e;exact(zpr v.sls).trans (zyx.1 _ _ _ hp)
 ·obtain⟨m,k,v,v',a,M1,l,rfl,hf,hp,e⟩:=inv h;obtain⟨f1,f2⟩:=zyU (b0:=b0) hq hf;have h2:=zyx.2 _ _ _ q b0 hp (zhW.2 hq)
  grind [zkx,Zig]
def zyA{vs:List WV}:Hv M fun M=>zoK M vs:=by
 refine⟨fun av M' fp h=>?_,fun av M' fp q b0 h hq=>?_⟩
 ·unfold zoK at h;split at h
  ·split at h
   ·grind [Eff.refl]
   ·split at h
    ·rename_i hat;split at h
     ·cases h;exact zqu (zjH hat) wD
     ·grind [Eff.refl]
     grind
    grind
   grind
  grind
 ·revert h;unfold zoK;split
  ·split
   ·grind
   ·split
    ·rename_i hat;rw[zg2 hq hat];have hne:=(zhd hq (zjH hat)).symm
     grind [zlW,List.set_comm]
    grind
   grind
  grind
def zwH{vs:List WV}:Hv M fun M=>zmG M vs:=by
 refine⟨fun av M' fp h=>?_,fun av M' fp q b0 h hq=>?_⟩
 ·unfold zmG at h;split at h
  ·split at h
   ·split at h
    ·grind [Eff.refl]
    ·grind [Eff.refl,zqu,zaz]
    grind
   grind
  grind
 ·revert h;unfold zmG;split
  ·split
   ·rename_i b hb;rw[zei hq hb];have hne:=(zhd hq (zaz hb).1).symm;split
    ·grind
    ·split
     ·grind [zg2,List.set_comm]
     grind
    grind
   grind
  grind
def zwO(hq:M[q]?=some none){id g:Nat}(h:zfJ M id g=true):zfJ (M.set q (some b0)) id g=true:=by
 grind [zfJ,zei]
def zBP{es:Nat}{vs:List WV}:Hv M fun M=>zoY M es vs:=by
 refine⟨fun av M' fp h=>?_,fun av M' fp q b0 h hq=>?_⟩
 ·unfold zoY at h;split at h
  ·split at h
   ·split at h
    ·grind [Eff.refl]
    ·split at h
     ·split at h
      ·split at h
       ·simp only[ja,ju]at h;obtain⟨M1,hst,rfl,rfl,rfl⟩:=h;unfold storeAt at hst
        grind [zqu,zaz]
       grind
      grind
     grind
    grind
   grind
  grind
 ·revert h;unfold zoY;split
  ·split
   ·split
    ·grind
    ·split
     ·split
      ·rename_i hcs;rw[znc hq hcs];simp only;split
       ·rename_i hbx;rw[if_pos (zwO hq hbx)];intro h;simp only[ja,ju]at h ⊢;obtain⟨M1,hst,rfl,rfl,rfl⟩:=h;exact⟨_,(zhg hst).2 q b0 hq,rfl,rfl,rfl⟩
       ·intro h;cases h
      grind
     grind
    grind
   grind
  grind
def zCB{k:MK}{vs:List WV}:Hv M fun M=>zCC M k vs:=by
 cases k with
 |get ok g z=>exact zyz
 |set g=>exact ZlD
 |del=>exact zyA
 |len=>exact zyy
 |next=>exact zwH
 |entry=>exact zu4
 |copy es=>exact zBP
 |Dl=>exact zzk
end
end Go.Eng
namespace Go.Eng
open Go
variable[zb0]
abbrev zhy:=Nat->Option AV
def zjC(E:zhy)(dst:Option Nat)(v:AV):zhy:=fun n=>if dst=some n then some v else E n
theorem ztG{E:Env}{dst:Option Nat}{v:AV}:(E.put dst v).get=zjC E.get dst v:=by
 funext n;cases dst with
 |none=>simp[Env.put,zjC]
 |some d=>simp[Env.put,zjC,Env.get]
section
variable{E E':zhy}
theorem zad{o:Opd}(h:∀n∈o.slots,E n=E' n):o.ev E=o.ev E':=by
 cases o with
 |s n=>grind [Opd.ev,Opd.slots]
 |k v=>rfl
def zAJ{o:Opd}(h:∀n∈o.slots,E n=E' n):o.av E=o.av E':=by
 cases o with
 |s n=>grind [Opd.av,Opd.slots]
 |k v=>rfl
theorem zgm:∀{os:List Opd},(∀n∈os.flatMap Opd.slots,E n=E' n)->evs E os=evs E' os
 |[],_=>rfl
 |o::os,h=>by
  simp only[kG,jL]at h;simp only[evs,zad (fun n hn=>h n (.inl hn)),zgm (fun n hn=>h n (.inr hn))]
theorem zlb:∀{ps:List (Nat×Nat×Opd)} {cs:List Cl},(∀n∈ps.flatMap (fun p=>p.2.2.slots),E n=E' n)->zdv E cs ps=zdv E' cs ps
 |[],_,_=>rfl
 |(a,b,o)::ps,cs,h=>by
  simp only[kG,jL]at h;simp only[zdv,zad (o:=o) (fun n hn=>h n (.inl hn))];split
  ·split
   ·exact zlb fun n hn=>h n (.inr hn)
   simp
  simp
def zl4{M:Mem}{esz:Nat}:∀{ps:List (Nat×Opd)} {rs:List (List Cl)},(∀n∈ps.flatMap (fun p=>p.2.slots),E n=E' n)->zdS E M esz rs ps=zdS E' M esz rs ps
 |[],_,_=>rfl
 |(a,o)::ps,rs,h=>by
  simp only[kG,jL]at h;simp only[zdS,zad (o:=o) (fun n hn=>h n (.inl hn))];split
  ·split
   ·split
    ·exact zl4 fun n hn=>h n (.inr hn)
    simp
   simp
  simp
def zlV:∀{ps:List (Nat×Opd)},(∀n∈ps.flatMap (fun p=>p.2.slots),E n=E' n)->zcf E ps=zcf E' ps
 |[],_=>rfl
 |(a,o)::ps,h=>by
  simp only[kG,jL]at h;have:=zlV (ps:=ps) fun n hn=>h n (.inr hn)
  grind [zcf,zad]
def zjv{o:Option Opd}{d t:Nat}(h:∀n∈o.toList.flatMap Opd.slots,E n=E' n):zcy E o d t=zcy E' o d t:=by
 cases o with
 |none=>rfl
 |some o=>grind [zcy,zad]
def ztx{len:Nat}{cap:Option Nat}{lo hi mx:Option Opd}(h:∀n∈(lo.toList++hi.toList++mx.toList).flatMap Opd.slots,E n=E' n):sliceB E len cap lo hi mx=sliceB E' len cap lo hi mx:=by
 simp only[List.flatMap_append,jL]at h;have h1:∀d t,zcy E lo d t=zcy E' lo d t:=fun d t=>zjv fun n hn=>h n (.inl (.inl hn))
 have h2:∀d t,zcy E hi d t=zcy E' hi d t:=fun d t=>zjv fun n hn=>h n (.inl (.inr hn))
 have h3:∀d t,zcy E mx d t=zcy E' mx d t:=fun d t=>zjv fun n hn=>h n (.inr hn)
 simp_all [sliceB]
def ztw{es:Nat}{x:Cl}{lo hi mx:Option Opd}(h:∀n∈(lo.toList++hi.toList++mx.toList).flatMap Opd.slots,E n=E' n):znj E es x lo hi mx=znj E' es x lo hi mx:=by
 cases x<;>simp only[znj,ztx h]
theorem zyq{cf:za4}{n0:Nat}{M:Mem}{co:CO}(h:∀n∈co.slots,E n=E' n):opF cf n0 E M co=opF cf n0 E' M co:=by
 cases co<;>simp only[CO.slots,jL]at h
 case mv x=>simp only[opF,zAJ h]
 case kx q e=>rfl
 case pick c a b =>
  simp only[opF,zad (o:=c) (fun n hn=>h n (.inl (.inl hn)))];split
  ·rename_i t _;cases t
   ·simp only[jI,if_false,zad (o:=b) (fun n hn=>h n (.inr hn))]
   ·simp only[if_true,zad (o:=a) (fun n hn=>h n (.inl (.inr hn)))]
  ·rfl
 case box q n x=>simp only[opF,zad h]
 case build z ps=>grind [opF,zlb]
 case lit q e z ps=>simp only[opF,zl4 h,zlV h]
 case load a n p=>simp only[opF,zad h]
 case store n p v=>simp only[opF,zad (o:=p) (fun n hn=>h n (.inl hn)),zad (o:=v) (fun n hn=>h n (.inr hn))]
 case jH x=>simp only[opF,zad h]
 case bin op x y=>grind [opF,zad]
 case eqb op x y=>simp only[opF,zad (o:=x) (fun n hn=>h n (.inl hn)),zad (o:=y) (fun n hn=>h n (.inr hn))]
 case AA g x=>grind [opF,zad]
 case eqa g s x y=>simp only[opF,zad (o:=x) (fun n hn=>h n (.inl hn)),zad (o:=y) (fun n hn=>h n (.inr hn))]
 case un op x=>simp only[opF,zad h]
 case conv k x=>simp only[opF,zad h]
 case uR f a b=>simp only[opF,zgm (os:=a) (fun n hn=>h n (.inl hn)),zgm (os:=b) (fun n hn=>h n (.inr hn))]
 case Am q e b z l c=>simp only[opF,zad (o:=l) (fun n hn=>h n (.inl hn)),zad (o:=c) (fun n hn=>h n (.inr hn))]
 case slice e x lo hi mx =>
  simp only[opF,zad (o:=x) (fun n hn=>h n (.inl hn))];split
  ·rw[ztw (fun n hn=>h n (.inr hn))]
  ·rfl
 case BA f p=>grind [opF,zad]
 case field a f n x=>grind [opF,zad]
 case Bi e x y=>grind [opF,zad]
 case yB l e x y=>grind [opF,zad]
 case Dk a l e x y=>grind [opF,zad]
 case extract t i=>grind [opF]
 case len x=>grind [opF,zad]
 case slen x=>grind [opF,zad]
 case kr m xs=>grind [opF,zgm]
 case p1 k x=>grind [opF,zad]
 case p2 k x y=>grind [opF,zad]
 case append e b x y=>grind [opF,zad]
 case clear z x=>grind [opF,zad]
 case call m f as=>grind [opF,zad,zgm]
 case pop k xs=>grind [opF,zgm]
 case mop k xs=>grind [opF,zgm]
 case yV k q xs=>grind [opF,zgm]
 case bad=>rfl
def zph{cf:za4}{n0:Nat}{M:Mem}{o:zaG}(h:∀n∈o.slots,E n=E' n):zbm cf n0 o E M=zbm cf n0 o E' M:=by
 grind [zaG.slots,zbm,opF,zyq,zke]
end
abbrev Run:=Mem->Option (AV×Mem×FP)
def zld(R:Run):Prop:=∃g:Option AV,∀M,R M=g.map fun v=>(v,M,.no)
def zj4(R:Run):Prop:=∃agg n x,∀M,R M=zdZ M agg n x
def zkZ(R:Run):Prop:=(∀M,Hv M R)/\∀M av M' a b c,R M≠some (av,M',.ld a b c)
def ziE(R:Run):Prop:=∀M av M' fp,R M=some (av,M',fp)->fp≠.bad->(fp=.no/\∃(q:Nat) (b:Blk),M[q]?=some none/\M'=M.set q (some b)/\∀M1:Mem,M1[q]?=some none->R M1=some (av,M1.set q (some b),fp)) \/
 ∃l q b,fp=.mk l/\(zbg M l)[q]?=some none/\M'=(zbg M l).set q (some b)
def Zpj{M:Mem}{id k:Nat}(h:id≠k):(zX M id)[k]?=M[k]?:=by
 grind [zX,List.getElem?_set_ne]
theorem ZoZ:∀{ids:List Nat} {M:Mem} {k:Nat},k∉ids->(zbg M ids)[k]?=M[k]?
 |[],M,k,_=>rfl
 |id::ids,M,k,h=>by
  simp only[jK,not_or]at h;show(zbg (zX M id) ids)[k]?=_;rw[ZoZ h.2,Zpj (ko h.1)]
theorem zgj{M M':Mem}{agg:Bool}{n:Nat}{x:Cl}{av:AV}{fp:FP}(h:zdZ M agg n x=some (av,M',fp)):M'=M:=by
 unfold zdZ at h;split at h
 ·grind [Option.map_eq_some_iff,Prod.mk.injEq]
 ·grind [Option.map_eq_some_iff,Prod.mk.injEq]
 grind
def zDf{RA RB:Run}{M M1 M2:Mem}{va vb:AV}{fa fb:FP}{base:Nat}(hA:RA M=some (va,M1,fa))(hB:RB M1=some (vb,M2,fb))(AD:base<=M.length)
  (h:zld RA\/zld RB\/(zj4 RA/\zj4 RB)\/(fa.apart fb=true/\fb.old base=true/\((zj4 RA/\zkZ RB)\/(zkZ RA/\zj4 RB)\/(zj4 RA/\ziE RB)\/(zkZ RA/\ziE RB)\/(ziE RA/\ziE RB)))) :
  ∃M1',RB M=some (vb,M1',fb)/\RA M1'=some (va,M2,fa):=by
 have ne1:fa.apart fb=true->fb≠.bad:=by rintro h rfl;cases fa<;>simp[FP.apart]at h
 have ne2:fa.apart fb=true->fa≠.bad:=by grind [FP.apart]
 rcases h with⟨g,hg⟩ |⟨g,hg⟩ |⟨⟨_,_,x,hx⟩,⟨_,_,y,hy⟩⟩ |⟨hap,hold,h⟩
 ·rw[hg]at hA;simp only[ja,ju]at hA
  grind
 ·rw[hg]at hB;simp only[ja,ju]at hB
  grind
 ·grind [zgj]
 ·rcases h with⟨⟨_,_,x,hx⟩,hb⟩ |⟨ha,⟨_,_,y,hy⟩⟩ |⟨⟨_,_,x,hx⟩,hb⟩ |⟨ha,hb⟩ |⟨ha,hb⟩
  ·rw[hx]at hA;have:=zgj hA;subst this;exact⟨M2,hB,by rw[hx];exact((hb.1 _).eff _ _ _ hB).load hA hap⟩
  ·rw[hy]at hB;have:=zgj hB;subst this;exact⟨M,by rw[hy];exact((ha.1 _).eff _ _ _ hA).C6 hB hap hold AD,hA⟩
  ·rw[hx]at hA;have:=zgj hA;subst this;have key:∀(id:Nat) (b:Blk),M1[id]?=some (some b)->(∀k n,fa=.ld id k n->M2[id]?=some (some b)):=by
    rcases hb _ _ _ _ hB (ne1 hap)with⟨_,q,b,h1,rfl,h3⟩ |⟨l,q,b,rfl,h1,rfl⟩
    ·grind
    grind [id,FP.apart,ZoZ,zhl,zhd]
   refine⟨_,hB,?_⟩;rw[hx];unfold zdZ at hA ⊢;split at hA
   ·split at hA
    ·rename_i b' hlk;split at hA
     ·rename_i row hrow;split at hA
      ·rename_i cs Be;simp only[ja,ju]at hA;obtain⟨w,hw,rfl,_,rfl⟩:=hA;obtain⟨g1,g2⟩:=zaz hlk;have g3:=key _ _ g1 _ _ rfl;subst g2;simp[look,g3,hrow,Be,hw]
      grind
     grind
    grind
   ·split at hA
    ·simp only[ja,ju]at hA;obtain⟨w,hw,rfl,_,rfl⟩:=hA;simp[hw]
    ·cases hA
   grind
  ·rcases hb _ _ _ _ hB (ne1 hap)with⟨_,q,b,h1,rfl,h3⟩ |⟨l,q,b,rfl,h1,rfl⟩
   ·have hq:M[q]?=some none:=(((ha.1 _).eff _ _ _ hA).hole q).1 h1;exact⟨_,h3 M hq,(ha.1 M).fill _ _ _ q b hA hq⟩
   ·cases fa with
    |ld a b c=>exact absurd hA (ha.2 _ _ _ _ _ _)
    |_=>simp[FP.apart]at hap
  ·rcases ha _ _ _ _ hA (ne2 hap)with⟨rfl,qa,ba,a1,rfl,a3⟩ |⟨l,_,_,rfl,_,_⟩
   ·rcases hb _ _ _ _ hB (ne1 hap)with⟨_,qb,bb,b1,rfl,b3⟩ |⟨l,_,_,rfl,_,_⟩
    ·have hne:qa≠qb:=by
      rintro rfl;rw[jS (zC a1)]at b1;cases b1
     rw[jz hne]at b1;refine⟨_,b3 M b1,?_⟩;rw[a3 _ (by rw[jz hne.symm];exact a1),qD _ _ hne]
    ·simp[FP.apart]at hap
   ·cases fb<;>simp[FP.apart]at hap
theorem zjG{M:Mem}{q:Nat}{b:Blk}(h:M[q]?=some none):zg M q b=some (M.set q (some b)):=by simp[zg,h]
def ztJ{E:zhy}{a:Nat}{o:Opd}{ps:List (Nat×Opd)}(h:(zcf E ((a,o)::ps)).isEmpty=true):(∀v,o.ev E=some v->v.sls=[])/\(zcf E ps).isEmpty=true:=by
 grind [zcf,List.isEmpty_iff,List.append_eq_nil_iff]
def zs6{M M1:Mem}:∀{cs:List Cl},cs.flatMap slC=[]->yL M cs=yL M1 cs
 |[],_=>rfl
 |c::cs,h=>by
  simp only[kG,List.append_eq_nil_iff]at h;have:zdR M c=zdR M1 c:=by
   cases c<;>first |rfl |grind [slC]
  simp only[yL,this,zs6 (M:=M) (M1:=M1) h.2]
def zna{E:zhy}{M M1:Mem}{esz:Nat}:∀{ps:List (Nat×Opd)} {rs:List (List Cl)},(zcf E ps).isEmpty=true->zdS E M esz rs ps=zdS E M1 esz rs ps
 |[],_,_=>rfl
 |(a,o)::ps,rs,h=>by
  obtain⟨h1,h2⟩:=ztJ h;simp only[zdS];cases ho:o.ev E with
  |none=>rfl
  |some v =>
   simp only;rw[zs6 (M:=M) (M1:=M1) (h1 v ho)];split
   ·split
    ·exact zna h2
    simp
   simp
def zwN{cf:za4}{n0:Nat}{E:zhy}{co:CO}(h:co.cls=.alloc):ziE fun M=>opF cf n0 E M co:=by
 intro M av M' fp hr hbad;cases co<;>first |(cases h;done) |skip
 case box q n x =>
  simp only[opF]at hr ⊢;split at hr
  ·rename_i v hv;split at hr
   ·rename_i hc;simp only[ja,ju]at hr;obtain⟨M1,h1,rfl,rfl,rfl⟩:=hr;obtain⟨q1,q2,rfl⟩:=za1 h1;refine .inl ⟨rfl,_,_,q1,rfl,fun M1 hM1=>?_⟩
    simp_all [if_pos,zjG]
   grind
  grind
 case kx q e =>
  simp only[opF,ja,ju]at hr ⊢;obtain⟨M1,h1,rfl,rfl,rfl⟩:=hr;obtain⟨q1,q2,rfl⟩:=za1 h1;refine .inl ⟨rfl,_,_,q1,rfl,fun M1 hM1=>?_⟩;rw[zjG hM1];exact⟨_,rfl,rfl,rfl,rfl⟩
 case lit q e z ps =>
  simp only[opF]at hr ⊢;split at hr
  ·rename_i rows vl;split at hr
   ·rename_i hc;simp only[ja,ju]at hr;obtain⟨M1,h1,rfl,rfl,rfl⟩:=hr;by_cases Af:(zcf E ps).isEmpty=true
    case neg =>
     rw[if_neg Af];obtain⟨q1,q2,rfl⟩:=za1 h1
     grind
    rw[if_pos Af]at hbad ⊢;have Aw:zcf E ps=[]:=by grind
    rw[Aw]at h1;obtain⟨q1,q2,rfl⟩:=za1 h1;refine .inl ⟨rfl,_,_,q1,rfl,fun M1 hM1=>?_⟩
    ·rw[zna (M:=M1) (M1:=M) Af,vl,Aw];simp only;rw[if_pos hc];show Option.map _ (zg M1 _ _)=_
     grind [zjG]
   grind
  grind
 case Am q e b z l c =>
  simp only[opF]at hr ⊢;split at hr
  ·rename_i l1 n1 c1 n2 hl hc;split at hr
   ·rename_i yJ;simp only[ja,ju]at hr;obtain⟨M1,h1,rfl,rfl,rfl⟩:=hr;obtain⟨q1,q2,rfl⟩:=za1 h1;refine .inl ⟨rfl,_,_,q1,rfl,fun M1 hM1=>?_⟩;rw[if_pos yJ,zjG hM1];rfl
   grind
  grind
 case yV k q xs =>
  simp only[opF]at hr ⊢;split at hr
  ·rename_i vs hvs;cases k with
   |mk g =>
    cases vs with
    |cons=>cases hr
    |nil =>
     simp only[zi2,ja,ju]at hr;obtain⟨M1,h1,rfl,rfl,rfl⟩:=hr;obtain⟨q1,q2,rfl⟩:=za1 h1;refine .inl ⟨rfl,_,_,q1,rfl,fun M1 hM1=>?_⟩
     grind [zi2,zjG]
   |B5 n =>
    cases vs with
    |cons=>cases hr
    |nil =>
     simp only[zi2,ja,ju]at hr;obtain⟨M1,h1,rfl,rfl,rfl⟩:=hr;obtain⟨q1,q2,rfl⟩:=za1 h1;refine .inl ⟨rfl,_,_,q1,rfl,fun M1 hM1=>?_⟩
     grind [zi2,zjG]
   |C7 =>
    simp only[zi2]at hr ⊢;split at hr
    ·rename_i hc;simp only[ja,ju]at hr;obtain⟨M1,h1,rfl,rfl,rfl⟩:=hr;obtain⟨q1,q2,rfl⟩:=za1 h1;refine .inl ⟨rfl,_,_,q1,rfl,fun M1 hM1=>?_⟩
     simp_all [if_pos,zjG]
    grind
   |range =>
    exfalso;unfold zi2 at hr;split at hr<;>first
     |(rename_i e;cases e;done)
     |(simp only[ja,ju]at hr;grind)
     |(split at hr
       ·simp only[ja,ju]at hr;grind
       grind)
     |grind
  grind
def zyN{cf:za4}{n0:Nat}{E:zhy}{co:CO}(h:co.cls=.load):zld (fun M=>opF cf n0 E M co)\/zj4 (fun M=>opF cf n0 E M co):=by
 cases co<;>first |(cases h) |skip
 case load a n p =>
  simp only[opF];split
  ·exact .inr ⟨_,_,_,fun M=>rfl⟩
  ·exact .inl ⟨none,fun M=>rfl⟩
def ZpN{M M':Mem}{n:Nat}{p:Cl}{v:WV}{av:AV}{a b c:Nat}:zhT M n p v≠some (av,M',.ld a b c):=by
 unfold zhT storeAt;intro h
 (repeat' split at h)<;>simp_all
def ZpH{M M':Mem}{esz bytes:Nat}{s x:Cl}{av:AV}{a b c:Nat}:zcB M esz bytes s x≠some (av,M',.ld a b c):=by
 grind [zcB]
def ZpU{M M':Mem}{z:List Cl}{x:Cl}{av:AV}{a b c:Nat}:zgI M z x≠some (av,M',.ld a b c):=by
 unfold zgI
 grind
theorem Zph{cf:za4}{f:FuncId}{as:List WV}{M M':Mem}{av:AV}{a b c:Nat}:zcG cf f as M≠some (av,M',.ld a b c):=by
 grind [zcG,uC,Option.some.injEq,Prod.mk.injEq]
def ZpG{cf:za4}{m:zbz}{fv:WV}{as:List WV}{M M':Mem}{av:AV}{a b c:Nat}:zx cf m fv as M≠some (av,M',.ld a b c):=by
 unfold zx
 grind [Zph,Option.some.injEq,Prod.mk.injEq]
def Zqf{M M':Mem}{k:MK}{vs:List WV}{av:AV}{a b c:Nat}:zCC M k vs≠some (av,M',.ld a b c):=by
 intro h;cases k<;>simp only[zCC,zoY,zkf,znp,Zig,zoJ,zoK,zno,zmG,zil]at h
 all_goals(repeat' split at h)<;>simp_all
def zwM{cf:za4}{n0:Nat}{E:zhy}{co:CO}(h:co.cls=.yT):zld (fun M=>opF cf n0 E M co)\/zkZ (fun M=>opF cf n0 E M co):=by
 cases co<;>first |(cases h) |skip
 case store n p v =>
  simp only[opF];split
  ·exact .inr ⟨fun M=>zzp,fun M av M' a b c=>ZpN⟩
  ·exact .inl ⟨none,fun M=>rfl⟩
 case append e b x y =>
  simp only[opF];split
  ·exact .inr ⟨fun M=>zy4,fun M av M' a b c=>ZpH⟩
  ·exact .inl ⟨none,fun M=>rfl⟩
 case clear z x =>
  simp only[opF];split
  ·exact .inr ⟨fun M=>zAz,fun M av M' a b c=>ZpU⟩
  ·exact .inl ⟨none,fun M=>rfl⟩
 case call m f as =>
  simp only[opF];split
  ·exact .inr ⟨fun M=>zy0,fun M av M' a b c=>ZpG⟩
  ·exact .inl ⟨none,fun M=>rfl⟩
 case mop k xs =>
  simp only[opF];split
  ·exact .inr ⟨fun M=>zCB,fun M av M' a b c=>Zqf⟩
  ·exact .inl ⟨none,fun M=>rfl⟩
 case bad=>exact .inl ⟨none,fun M=>rfl⟩
def zyM{cf:za4}{n0:Nat}{E:zhy}{co:CO}(h:co.cls=.pure):zld fun M=>opF cf n0 E M co:=by
 have hp:∀c:Option Cl,zld fun M=>zhN c M:=fun c=>⟨c.map fun v=>.w (.c v),fun M=>by cases c<;>rfl⟩
 have h0:zld fun _=>(none:Option (AV×Mem×FP)):=⟨none,fun M=>rfl⟩
 have h1:∀v:AV,zld fun M=>some (v,M,FP.no):=fun v=>⟨some v,fun M=>rfl⟩
 cases co<;>first |(cases h) |skip
 case mv x=>simp only[opF];split<;>first |exact h0 |simp_all
 case pick c a b =>
  simp only[opF];split
  ·split<;>first |exact h0 |simp_all
  grind
 case build z ps=>exact⟨(zdv E z ps).map fun cs=>.w (.a cs),fun M=>by simp only[opF];cases zdv E z ps<;>rfl⟩
 case jH x=>simp only[opF];split<;>first |exact h0 |simp_all
 case bin op x y=>grind [opF]
 case eqb op x y=>grind [opF]
 case AA g x=>grind [opF]
 case eqa g s x y =>
  grind [opF]
 case un op x=>grind [opF]
 case conv k x=>simp only[opF];split<;>first |exact h0 |simp_all
 case uR f a b =>
  simp only[opF];split
  ·split<;>first |exact h0 |simp_all
  grind
 case slice e x lo hi mx=>grind [opF]
 case BA f p=>grind [opF]
 case field a f n x =>
  simp only[opF];split
  ·split
   ·rename_i cs' _;exact⟨(zaI a cs').map .w,fun M=>by cases zaI a cs'<;>rfl⟩
   grind
  grind
 case Bi e x y=>grind [opF]
 case yB l e x y=>grind [opF]
 case Dk a l e x y =>
  simp only[opF];split
  ·split
   ·split
    ·rename_i cs' _;exact⟨(zaI a cs').map .w,fun M=>by cases zaI a cs'<;>rfl⟩
    grind
   grind
  grind
 case extract t i =>
  simp only[opF];split
  ·split<;>first |exact h0 |simp_all
  grind
 case len x=>simp only[opF];split<;>first |exact h0 |simp_all
 case slen x=>simp only[opF];split<;>first |exact h0 |simp_all
 case kr m xs=>grind [opF]
 case p1 k x =>
  simp only[opF];split
  ·rename_i v _;exact⟨p1F k v,fun M=>by cases p1F k v<;>rfl⟩
  grind
 case p2 k x y =>
  simp only[opF];split
  ·rename_i v u _ _;exact⟨p2F k v u,fun M=>by cases p2F k v u<;>rfl⟩
  grind
 case pop k xs =>
  simp only[opF];split
  ·rename_i vs _;exact⟨ztH k vs,fun M=>by cases ztH k vs<;>rfl⟩
  grind
theorem zoP{cf:za4}{n0:Nat}{E:zhy}{o:zaG}:zld (fun M=>zbm cf n0 o E M)\/(o.cls=.load/\zj4 (fun M=>zbm cf n0 o E M))\/(o.cls=.yT/\zkZ (fun M=>zbm cf n0 o E M))\/(o.cls=.alloc/\ziE (fun M=>zbm cf n0 o E M)):=by
 have base:zld (fun M=>opF cf n0 E M o.op)\/(o.cls=.load/\zj4 (fun M=>opF cf n0 E M o.op))\/(o.cls=.yT/\zkZ (fun M=>opF cf n0 E M o.op))\/(o.cls=.alloc/\ziE (fun M=>opF cf n0 E M o.op)):=by
  cases hc:o.cls with
  |pure=>exact .inl (zyM hc)
  |load=>exact(zyN hc).imp id fun h=>.inl ⟨rfl,h⟩
  |yT=>exact(zwM hc).imp id fun h=>.inr (.inl ⟨rfl,h⟩)
  |alloc=>exact .inr (.inr (.inr ⟨rfl,zwN hc⟩))
 unfold zbm;split
 ·grind
 ·split
  ·grind
  ·exact .inl ⟨some .u,fun M=>rfl⟩
  ·exact .inl ⟨none,fun M=>rfl⟩
def z4L{cf:za4}{n0:Nat}{E:zhy}{o:zaG}{M M':Mem}{av:AV}{fp:FP}(h:zbm cf n0 o E M=some (av,M',fp)):M.length<=M'.length:=by
 rcases zoP (cf:=cf) (n0:=n0) (E:=E) (o:=o)with⟨g,hg⟩ |⟨_,_,_,x,hx⟩ |⟨_,hh⟩ |⟨hc,_⟩
 ·cases g with
  |none=>grind
  |some v=>grind
 ·grind [zgj]
 ·exact((hh.1 M).eff _ _ _ h).len
 ·
  have:∀{M av M' fp},opF cf n0 E M o.op=some (av,M',fp)->M.length<=M'.length:=by
   intro M av M' fp h;have hc:o.op.cls=.alloc:=hc;cases hop:o.op<;>rw[hop]at hc h<;>first |(cases hc) |skip
   ·simp only[opF,ja,ju]at h;obtain⟨M1,h1,_,rfl,_⟩:=h;obtain⟨_,_,rfl⟩:=za1 h1;simp
   ·simp only[opF]at h;split at h
    ·split at h
     ·simp only[ja,ju]at h;obtain⟨M1,h1,_,rfl,_⟩:=h;obtain⟨_,_,rfl⟩:=za1 h1;simp
     grind
    grind
   ·simp only[opF]at h;split at h
    ·split at h
     ·simp only[ja,ju]at h;obtain⟨M1,h1,_,rfl,_⟩:=h;obtain⟨_,_,rfl⟩:=za1 h1;simp[zgi]
     grind
    grind
   ·simp only[opF]at h;split at h
    ·split at h
     ·simp only[ja,ju]at h;obtain⟨M1,h1,_,rfl,_⟩:=h;obtain⟨_,_,rfl⟩:=za1 h1;simp
     grind
    grind
   ·simp only[opF]at h;split at h
    ·unfold zi2 at h;split at h
     ·simp only[ja,ju]at h;obtain⟨M1,h1,_,rfl,_⟩:=h;obtain⟨_,_,rfl⟩:=za1 h1;simp
     ·simp only[ja,ju]at h;obtain⟨M1,h1,_,rfl,_⟩:=h;obtain⟨_,_,rfl⟩:=za1 h1;simp
     ·split at h
      ·simp only[ja,ju]at h;obtain⟨M1,h1,_,rfl,_⟩:=h;obtain⟨_,_,rfl⟩:=za1 h1;simp
      grind
     ·split at h
      ·simp only[ja,ju]at h;obtain⟨M1,h1,_,rfl,_⟩:=h;obtain⟨_,_,rfl⟩:=za1 h1;simp
      grind
     ·simp only[ja,ju]at h;obtain⟨M1,h1,_,rfl,_⟩:=h;obtain⟨_,_,rfl⟩:=za1 h1;simp
     grind
    grind
  grind [zbm]
end Go.Eng
namespace Go.Eng
open Go
variable[zb0]
def zhz.fenced{F:Fence}(h:zhz F)(P:Program)(m:Machine):m.fenced P F:=by
 intro g _;refine⟨fun ha=>?_,.inl (h.fn _),fun f _=>h.fn f,fun d hd=>?_⟩
 ·rw[h.alive]at ha;grind
 ·rw[h.depth]at hd;grind
def zhz.calls{F:Fence}(h:zhz F){n:Nat}{P:Program}{f:FuncId}{args:Array Value}{w:World}{R:Ending->World->Prop}(hc:Calls P f args w R):CallsIn F n P f args w R:=by
 refine⟨h.fn f,fun cs _=>?_⟩;obtain⟨e,w',fr,r,s,x⟩:=hc cs;refine⟨e,w',fr,r,?_,x⟩;cases e with
 |returned v=>exact(StepsIn.of_steps s).mono fun m _=>h.fenced P m
 |panicked c=>exact(StepsIn.of_steps s).mono fun m _=>h.fenced P m
 |outgrown=>exact s
def zkw(r:Nat):Deferred:={ target:=.collected r,args:=#[] }
def zj3(own:Nat->Prop)(ds:List Deferred)(w:World):Prop:=∃rs:List Nat,ds=rs.map zkw/\rs.Nodup/\∀r∈rs,w.heap[r]?=some (.deferred (some []))/\¬own r
theorem zj3.nil{own:Nat->Prop}{w:World}:zj3 own [] w:=⟨[],rfl,List.nodup_nil,fun r h=>by grind⟩
def zj3.frame{own:Nat->Prop}{ds:List Deferred}{w w':World}(h:zj3 own ds w)(hf:∀b,b<w.heap.size->¬own b->w'.heap[b]?=w.heap[b]?):zj3 own ds w':=by
 obtain⟨rs,h1,h2,h3⟩:=h;exact⟨rs,h1,h2,fun r hr=>⟨by grind,(h3 r hr).2⟩⟩
def zj3.heap{own:Nat->Prop}{ds:List Deferred}{w w':World}(h:zj3 own ds w)(hf:w'.heap=w.heap):zj3 own ds w':=h.frame fun b _ _=>by rw[hf]
structure At(own:Nat->Prop)(σ:zP)(j:Inj)(E:zhy)(M:Mem)(ntmps:Nat)(a:Act)(w:World):Prop where
 env:zcs σ j E a.tmps
 size:a.tmps.size=ntmps
 marks:zj3 own a.defers w
 yq:zM σ w
 mem:MR own σ j M w
 own:∀b,w.heap.size<=b->own b
section
variable{own:Nat->Prop}{σ:zP}{j:Inj}{M:Mem}{w:World}{E:zhy}{a:Act}{P:Program}{cf:za4}{ntmps:Nat}{F:Fence}{n:Nat}{Q:Exit->Act->World->Prop}
def At.put{σ':zP}{j':Inj}{M':Mem}{w':World}{d:Option Nat}{av:AV}{v:Value}(h:At own σ j E M ntmps a w)(hd:∀x,d=some x->x<ntmps)(hv:AVR σ' j' av v)(hag:zM σ' w')(hm:MR own σ' j' M' w')
  (hst:za2 own M.length σ j M w σ' j' M' w'):At own σ' j' (zjC E d av) M' ntmps (a.put d v) w':=by
 have hj:=hst.jle' h.mem (jm _);have henv:=h.env.mono hst.sle hj;refine⟨?_,?_,by cases d<;>exact h.marks.frame hst.frame,hag,hm,fun b hb=>h.own b (jT hst.size hb)⟩
 ·intro m x hx;cases d with
  |none=>exact henv m x (by grind [zjC])
  |some d =>
   simp only[Act.put];by_cases hdm:d=m
   ·subst hdm;simp only[zjC,if_true,ji]at hx;subst hx;exact⟨v,by rw[uY (by rw[h.size];grind)],hv⟩
   ·have:E m=some x:=by grind [zjC]
    obtain⟨u,hu,hr⟩:=henv m x this
    grind
 ·cases d<;>simp[Act.put,h.size]
def zfX{d:Option Nat}{v:Value}:(a.put d v).defers=a.defers:=by cases d<;>rfl
theorem zjR{ops:Array Oper}{m:Oper->zbz}{i:Nat}{co:zaG}(h:zdT P ops.toList m ntmps i=some co) :
  ∃o,ops[i]?=some o/\co.ix=i/\co.op=(zA P (zgO ops.toList i) (m o) o).getD .bad/\zqf ops.toList o.guard=some co.guard/\co.dst=o.dst/\∀x,o.dst=some x->x<ntmps:=by
 grind [zdT]
theorem zsS{f:FuncId}{fn:Func}{args:Array Value}(hf:P.funcs[f]?=some fn)(hb:fn.body.isNone=false)(hn:(fn.name == "runtime.NumGoroutine")=false):(callFunc f args).run P w=.ok (.enter f args) w:=by
 unfold callFunc;rw[Sem.run_bind,run_program];simp only[Result.andThen_ok,hf,hn,hb,jI,if_false,Sem.run_pure]
def zrp{q:Nat}{m cm:zbz}{o:Oper}{fv:Opd}{as:List Opd}(h:zA P q m o=some (.call cm fv as)) :
  ∃c f,o.op=.call c/\c.callee=.value f/\za5 f=some fv/\zdB c.args.toList=some as:=by
 cases ho:o.op<;>simp only[zA,ho]at h
 case call c =>
  grind [callee,invoke,builtin,Option.map_eq_some_iff]
 case makeFunc fn fi ca =>
  grind
 case makeMap t r =>
  grind [Option.map_eq_some_iff]
 case buildSlice t len parts =>
  grind [ZlC,cSl,Option.map_eq_some_iff]
 case next x b =>
  grind [Option.map_eq_some_iff]
 all_goals((repeat' split at h)<;>first |(cases h) |(obtain⟨_,_,h⟩:=ja.1 h;cases h))
def zoz(hF:zhz F)(hcf:FnS P cf){ops:Array Oper}{m:Oper->zbz}{i n0:Nat}{co:zaG}{av:AV}{M':Mem}{fp:FP}(hc:zdT P ops.toList m ntmps i=some co)
  (hs:zbm cf n0 co E M=some (av,M',fp)) (hat:At own σ j E M ntmps a w) {K:Act->World->Prop}
  (hK:∀a' w' σ' j',At own σ' j' (zjC E co.dst av) M' ntmps a' w'->za2 own M.length σ j M w σ' j' M' w'->a'.defers=a.defers->K a' w') :
  wpOpIn F n P ops Q i K a w:=by
 obtain⟨o,ho,_,hop,hg,hdst,hd⟩:=zjR hc;unfold wpOpIn;simp only[ho];have habout:∀f,o.about P w a.eval=some f->F.fn f:=fun f _=>hF.fn f
 have skip:av=.u->M'=M->K (a.put o.dst undef) w:=by
  rintro rfl rfl;exact hK _ _ σ j (by rw[hdst];exact hat.put hd rfl hat.yq hat.mem za2.refl) za2.refl zfX
 have go:opF cf n0 E M co.op=some (av,M',fp)->o.wpIn F n P a w K Q:=by
  intro ui;rw[hop]at ui;cases Df:zA P (zgO ops.toList i) (m o) o with
  |none=>rw[Df]at ui;cases ui
  |some c =>
   rw[Df]at ui;simp only[uf]at ui;refine⟨habout,?_⟩;have hnd:∀c,o.op≠.defer c:=by
    intro c' hdef;simp only[zA,hdef]at Df;cases Df
   rw[Oper.semAt_eq _ _ _ hnd];cases hic:c.CA with
   |false =>
    rcases zBy (own:=own) hic Df ui hat.env hat.yq hat.mem hat.own with⟨v,w',σ',j',hr,hv,hag,hm,hst⟩ |⟨rfl,w',σ',hr,hag,hm,hst⟩
    ·rw[hr];exact hK _ _ σ' j' (by rw[hdst];exact hat.put hd hv hag hm hst) hst zfX
    ·rw[hr];exact hK _ _ σ' j (by rw[hdst];exact hat.put hd rfl hag hm hst) hst zfX
   |true =>
    cases c<;>first |(cases hic;done) |skip
    rename_i cm cfv cargs;obtain⟨c,f,ho1,CV,hfo,haso⟩:=zrp Df;obtain⟨callee,args,argTypes⟩:=c;dsimp only at CV haso;subst CV;simp only[opF]at ui;split at ui
    ·rename_i fv as hfv has;have hfw:=zWl hat.yq.kZ hat.env hfo hfv;have hvs:zac σ j as (args.map a.eval).toList:=by
      have:=zbr hat.yq.kZ hat.env haso has
      simp_all
     rcases zpA hcf ui hat.yq hat.mem hat.own hfw hvs with⟨g,fi,ca,fn,Bw,q1,q2,q3,qE⟩ |⟨l,rc,Bw,hl,hsz,Ao⟩
     ·have Cm:(execOp a.eval o).run P w=.ok (.enter g (fi++args.map a.eval++ca)) w:=by
       simp[execOp,ho1,resolve,Deferred.ofValue,Bw,invoke,zsS q1 q2 q3]
      rw[Cm];refine⟨fun h=>(by rw[hF.depth]at h;grind),hF.calls ?_⟩;refine Calls.yf qE ?_;rintro e w' ⟨v,σ',j',rfl,hv,hag,hm,hst⟩;exact hK _ _ σ' j' (by rw[hdst];exact hat.put hd hv hag hm hst) hst zfX
     ·have Cm:(execOp a.eval o).run P w=.ok (.round l rc.fn ((rc.params.zip (args.map a.eval)).foldl (fun tmps (t,a)=>tmps.setIfInBounds t a) rc.tmps) rc.assign rc.body) w:=by
       have:=run_yield (P:=P) hl hsz;simp[execOp,ho1,resolve,Deferred.ofValue,Bw,invoke,this]
      rw[Cm];refine⟨fun h=>(by rw[hF.depth]at h;cases h),RoundIn.yf (Ao F (n-1) hF) ?_⟩;rintro e w' ⟨v,σ',j',rfl,hv,hag,hm,hst⟩;exact hK _ _ σ' j' (by rw[hdst];exact hat.put hd hv hag hm hst) hst zfX
    grind
 cases hgd:o.guard with
 |none =>
  rw[hgd]at hg;simp only[zqf,ji]at hg;have hw:Region.wanted o (yielded ops a.tmps)=true:=by grind [Region.wanted]
  rw[if_pos hw]
  grind [zbm]
 |some g =>
  obtain⟨jj,want⟩:=g;rw[hgd]at hg;simp only[zqf]at hg;split at hg
  ·rename_i oj hoj;simp only[ja]at hg;obtain⟨d,hdj,hg⟩:=hg;have hoj:ops[jj]?=some oj:=by grind
   simp only[zbm,<-hg]at hs;split at hs
   ·rename_i Cg;unfold zke at Cg;split at Cg
    ·rename_i b hb;obtain⟨v,hv,hr⟩:=hat.env _ _ hb;have hr:VC σ j (.bool b) v:=hr;cases hr;have hw:Region.wanted o (yielded ops a.tmps)=true:=by
      grind [Region.wanted,yielded]
     grind
    ·grind
    grind
   ·rename_i Cg;cases hs;have hw:Region.wanted o (yielded ops a.tmps)=false:=by
     unfold zke at Cg;split at Cg
     ·rename_i b hb;obtain⟨v,hv,hr⟩:=hat.env _ _ hb;have hr:VC σ j (.bool b) v:=hr;cases hr
      grind [Region.wanted,yielded]
     ·rename_i hb;obtain⟨v,hv,hr⟩:=hat.env _ _ hb;have hr:v=undef:=hr
      grind [Region.wanted,yielded,undef]
     grind
    grind
   grind
  grind
end
end Go.Eng
namespace Go.Eng
open Go
variable[zb0]
def zlh(cf:za4)(n0:Nat):List zaG->zhy->Mem->Option (zhy×Mem×List FP)
 |[],E,M=>some (E,M,[])
 |o::os,E,M=>match zbm cf n0 o E M with
  |some (v,M',fp)=>match zlh cf n0 os (zjC E o.dst v) M' with
   |some (E2,M2,fs)=>some (E2,M2,fp::fs)
   |none=>none
  |none=>none
def zxv{cf:za4}{n0:Nat}:∀{os:List zaG} {E:Env} {M:Mem} {E2:Env} {M2:Mem} {fs:List FP},zks cf n0 os E M=some (E2,M2,fs)->zlh cf n0 os E.get M=some (E2.get,M2,fs)
 |[],E,M,E2,M2,fs,h=>by obtain⟨rfl,rfl,rfl⟩:=h;rfl
 |o::os,E,M,E2,M2,fs,h=>by
  simp only[zks]at h;split at h
  ·split at h
   ·rename_i E3 M3 fs3 h2;have:=zxv h2
    grind [ztG,zlh]
   grind
  grind
theorem zgh{cf:za4}{n0:Nat}{o:zaG}{os:List zaG}{E:zhy}{M:Mem}{E2:zhy}{M2:Mem}{fp:FP}{fs:List FP} :
  zlh cf n0 (o::os) E M=some (E2,M2,fp::fs)<->∃v M',zbm cf n0 o E M=some (v,M',fp)/\zlh cf n0 os (zjC E o.dst v) M'=some (E2,M2,fs):=by
 grind [zlh]
def zA7(base:Nat)(a:zaG)(fa:FP)(b:zaG)(fb:FP):Prop :=
 znW a b=true/\(a.cls=.pure\/b.cls=.pure\/(a.cls=.load/\b.cls=.load)\/(fa.apart fb=true/\fb.old base=true))
def zr9{a b:zaG}(h:znW a b=true):(∀d,a.dst=some d->d∉b.slots/\b.dst≠some d)/\(∀d,b.dst=some d->d∉a.slots) /\
  (a.cls=.pure\/b.cls=.pure\/(a.cls=.load/\b.cls=.load)\/(a.cls=.load/\b.cls=.alloc)\/(a.cls=.yT/\b.cls=.alloc)\/(a.cls=.alloc/\b.cls=.alloc)\/(a.cls=.load/\b.cls=.yT)\/(a.cls=.yT/\b.cls=.load)):=by
 simp only[znW,jk]at h
 grind
def zyh{E:zhy}{d e:Option Nat}{x v:AV}(h:∀x,d=some x->e≠some x):zjC (zjC E d x) e v=zjC (zjC E e v) d x:=by
 grind [zjC]
theorem swap{cf:za4}{n0 base:Nat}{a b:zaG}{r:List zaG}{E E2:zhy}{M M2:Mem}{fa fb:FP}{fr:List FP}(hf:zA7 base a fa b fb)(AD:base<=M.length)
  (h:zlh cf n0 (a::b::r) E M=some (E2,M2,fa::fb::fr)):zlh cf n0 (b::a::r) E M=some (E2,M2,fb::fa::fr):=by
 obtain⟨va,M1,h1,h⟩:=zgh.1 h;obtain⟨vb,M3,h2,h3⟩:=zgh.1 h;obtain⟨AC,hfree⟩:=hf;obtain⟨s1,s2,s3⟩:=zr9 AC;have eb:∀M,zbm cf n0 b (zjC E a.dst va) M=zbm cf n0 b E M:=fun M=>zph fun n hn=>by
  simp only[zjC];grind
 have ea:∀M,zbm cf n0 a (zjC E b.dst vb) M=zbm cf n0 a E M:=fun M=>zph fun n hn=>by
  simp only[zjC];grind
 rw[eb]at h2;have hK:zld (fun M=>zbm cf n0 a E M)\/zld (fun M=>zbm cf n0 b E M)\/(zj4 (fun M=>zbm cf n0 a E M)/\zj4 (fun M=>zbm cf n0 b E M)) \/
   (fa.apart fb=true/\fb.old base=true/\((zj4 (fun M=>zbm cf n0 a E M)/\zkZ (fun M=>zbm cf n0 b E M))\/(zkZ (fun M=>zbm cf n0 a E M)/\zj4 (fun M=>zbm cf n0 b E M))\/(zj4 (fun M=>zbm cf n0 a E M)/\ziE (fun M=>zbm cf n0 b E M))\/(zkZ (fun M=>zbm cf n0 a E M)/\ziE (fun M=>zbm cf n0 b E M))\/(ziE (fun M=>zbm cf n0 a E M)/\ziE (fun M=>zbm cf n0 b E M)))):=by
  grind [zoP]
 obtain⟨M1',q1,q2⟩:=zDf (base:=base) h1 h2 AD hK;refine zgh.2 ⟨vb,M1',q1,zgh.2 ⟨va,M3,by rw[ea];exact q2,?_⟩⟩;rw[<-zyh (fun x hx=>(s1 x hx).2)];exact h3
def zxo{cf:za4}{n0 base:Nat}{y:zaG×FP}{post:List (zaG×FP)}:∀{pre:List (zaG×FP)} {E E2:zhy} {M M2:Mem},(∀x∈pre,zA7 base x.1 x.2 y.1 y.2)->base<=M.length ->
  zlh cf n0 ((pre++y::post).map (·.1)) E M=some (E2,M2,(pre++y::post).map (·.2))->zlh cf n0 ((y::(pre++post)).map (·.1)) E M=some (E2,M2,(y::(pre++post)).map (·.2))
 |[],E,E2,M,M2,_,_,h=>h
 |x::pre,E,E2,M,M2,hf,hb,h=>by
  obtain⟨v,M',h1,h2⟩:=zgh.1 h;have:=zxo (pre:=pre) (fun z hz=>hf z (jE _ hz)) (jT hb (z4L h1)) h2
  grind [swap,List.mem_cons_self,zgh]
def zjn(ops:Array Oper)(i:Nat):List Nat:=match ops[i]? with
 |some o=>zkJ o
 |none=>[]
def Zf2{f:Nat->Nat}{a:Nat}:∀{l:List Nat} {s:Nat},(l.foldl (fun s j=>s ||| 2 ^ j ||| f j) s).testBit a=true->s.testBit a=true\/∃d∈l,d=a\/(f d).testBit a=true
 |[],s,h=>.inl h
 |d::l,s,h=>by
  simp only[j8]at h;rcases Zf2 h with h |⟨e,he,h⟩
  ·grind
  grind
theorem zkX:∀{os:List Oper} {acc:List Nat} {i:Nat},i<acc.length->(v6 os acc).getD i 0=acc.getD i 0
 |[],acc,i,h=>rfl
 |o::os,acc,i,h=>by
  simp only[v6];rw[zkX (by grind)]
  grind
def zol:∀{os:List Oper} {acc:List Nat} {k:Nat} {o:Oper} {a:Nat},os[k]?=some o->((v6 os acc).getD (acc.length+k) 0).testBit a=true ->
  ∃d∈zkJ o,d=a\/(d<acc.length+k/\((v6 os acc).getD d 0).testBit a=true)
 |[],acc,k,o,a,ho,h=>by grind
 |x::os,acc,0,o,a,ho,h=>by
  simp only[v6]at h;rw[zkX wD]at h;simp only[uL,List.getD,kJ (jm _),yF,vV,uf]at h;rcases Zf2 h with h |⟨d,hd,h⟩
  ·grind
  grind [id,Nat.lt_or_ge,List.getElem?_eq_none,v6,zkX,List.getD,List.getElem?_append_left]
 |x::os,acc,k+1,o,a,ho,h=>by
  simp only[List.getElem?_cons_succ]at ho;simp only[v6]at h ⊢;have e:acc.length+(k+1)=(acc++[(zkJ x).foldl (fun s j=>s ||| 2 ^ j ||| acc.getD j 0) 0]).length+k:=by grind
  rw[e]at h;obtain⟨d,hd,h'⟩:=zol ho h
  grind
def Dj{ops:Array Oper}{L:Nat->Prop}(hcl:∀i,i<ops.size->L i->∀d∈zjn ops i,L d):∀(i:Nat) {a:Nat},i<ops.size->(∀d∈zjn ops i,L d)->((v6 ops.toList []).getD i 0).testBit a=true->L a:=by
 intro i;induction i using Nat.strongRecOn with
 |_ i ih =>
  intro a hi hd h;have ho:ops.toList[i]?=some ops[i]:=by grind
  have hde:zjn ops i=zkJ ops[i]:=by grind [zjn]
  have:=zol (acc:=[]) ho (by simpa using h)
  grind
def zpZ(ops:Array Oper):(Nat->Prop)->List Nat->Prop
 |_,[]=>True
 |L,i::is=>(∀d∈zjn ops i,L d)/\zpZ ops (fun d=>L d\/d=i) is
theorem zpZ.mono{ops:Array Oper}:∀{is:List Nat} {L L':Nat->Prop},(∀d,L d->L' d)->zpZ ops L is->zpZ ops L' is
 |[],_,_,_,_=>trivial
 |i::is,L,L',h,ht=>⟨fun d hd=>h d (ht.1 d hd),zpZ.mono (fun d hd=>hd.imp (h d) id) ht.2⟩
def zpZ.remove{ops:Array Oper}{y:Nat}{B:List Nat}:∀{A:List Nat} {L:Nat->Prop},zpZ ops L (A++y::B)->zpZ ops (fun d=>L d\/d=y) (A++B)
 |[],L,h=>h.2
 |i::A,L,h=>⟨fun d hd=>.inl (h.1 d hd),(zpZ.remove (A:=A) h.2).mono fun d hd=>by
   grind⟩
def zpe{ops:Array Oper}:∀{is done:List Nat},ztq ops.toList is done=true->zpZ ops (fun d=>d∈done) is
 |[],_,_=>trivial
 |i::is,done,h=>by
  simp only[ztq,jk]at h;refine⟨fun d hd=>?_,(zpe h.2).mono fun d hd=>?_⟩
  ·grind [zjn,List.all_eq_true]
  grind
theorem zoF{ops:Array Oper}{listed:Array Bool}{i:Nat}:i∈Region.ready .any ops listed<->listed.getD i true=false/\i<ops.size/\∀d∈zjn ops i,listed.getD d false=true:=by
 grind [mem_ready,Array.getElem?_eq_some_iff,zjn,zkJ,Array.getElem?_eq_getElem]
section
variable{own:Nat->Prop}{P:Program}{cf:za4}{ntmps:Nat}{F:Fence}{n:Nat}{Q:Exit->Act->World->Prop}
def zAL(hF:zhz F)(hcf:FnS P cf){ops:Array Oper}{n0 base k:Nat}{σ0:zP}{j0:Inj}{M0:Mem}{w0:World}{E2:zhy}{M2:Mem}{ds:List Deferred}(hk:k<=base)
  (hQ:∀a' w' σ' j',At own σ' j' E2 M2 ntmps a' w'->za2 own k σ0 j0 M0 w0 σ' j' M2 w'->a'.defers=ds->Q .normal a' w') :
  ∀(fuel:Nat) (listed:Array Bool) (xs:List (zaG×FP)) (E:zhy) (M:Mem) (a:Act) (w:World) (σ:zP) (j:Inj),
   xs.length=fuel->listed.size=ops.size->(∀i,i<ops.size->(listed.getD i true=false<->i∈xs.map (·.1.ix)))->(xs.map (·.1.ix)).Nodup->(∀x∈xs,x.1.ix<ops.size/\∃m,zdT P ops.toList m ntmps x.1.ix=some x.1) ->
   xs.Pairwise (fun x y=>((v6 ops.toList []).getD y.1.ix 0).testBit x.1.ix=true\/zA7 base x.1 x.2 y.1 y.2) ->
   (∀i,i<ops.size->listed.getD i true=true->∀d∈zjn ops i,listed.getD d false=true)->zpZ ops (fun d=>listed.getD d false=true) (xs.map (·.1.ix)) ->
   zlh cf n0 (xs.map (·.1)) E M=some (E2,M2,xs.map (·.2))->base<=M.length ->
   At own σ j E M ntmps a w->za2 own k σ0 j0 M0 w0 σ j M w->a.defers=ds->wpAnyIn F n P .any ops Q fuel listed a w:=by
 intro fuel;induction fuel with
 |zero =>
  intro listed xs E M a w σ j hlen hsz hx hnd BQ hpw hcl Dq ui AD hat hst hds;have hxs:xs=[]:=jN hlen;subst hxs;simp only[qs,zlh,ji,ju]at ui;obtain⟨rfl,rfl,_⟩:=ui;refine⟨?_,hQ a w σ j hat hst hds⟩;apply qQ.2
  grind [zoF]
 |succ fuel ih =>
  intro listed xs E M a w σ j hlen hsz hx hnd BQ hpw hcl Dq ui AD hat hst hds;refine⟨fun Aw=>?_,fun i hi=>?_⟩
  ·exfalso;cases xs with
   |nil=>simp at hlen
   |cons x xs =>
    have hix:=(BQ x (js ..)).1;have:x.1.ix∈Region.ready .any ops listed:=zoF.2 ⟨(hx _ hix).2 wD,hix,Dq.1⟩;rw[Aw]at this;cases this
  ·obtain⟨h1,h2,h3⟩:=zoF.1 hi;obtain⟨y,hy,hyi⟩:=jW.1 ((hx i h2).1 h1);obtain⟨A,B,rfl⟩:=List.append_of_mem hy;have hfree:∀x∈A,zA7 base x.1 x.2 y.1 y.2:=by
    intro x hxA;have:=(kE.1 hpw).2.2 x hxA y (js ..);refine this.resolve_left fun hb=>?_
    rw[hyi]at hb;have hL:=Dj (L:=fun d=>listed.getD d false=true) (fun i hi hl=>by
     refine hcl i hi ?_;rw[show listed.getD i true=listed.getD i false from by simp[Array.getD,hsz,hi]];exact hl) i h2 h3 hb
    have hxl:=(hx x.1.ix (BQ x (kV _ hxA)).1).2 (jW.2 ⟨x,kV _ hxA,rfl⟩);have hxs:=(BQ x (kV _ hxA)).1;rw[show listed.getD x.1.ix true=listed.getD x.1.ix false from by simp[Array.getD,hsz,hxs]]at hxl;rw[hL]at hxl;cases hxl
   have hrun':=zxo hfree AD ui;simp only[kR]at hrun';obtain⟨v,M',q1,q2⟩:=zgh.1 hrun';obtain⟨_,m,hcm⟩:=BQ y (qj _ (js ..));rw[hyi]at hcm;refine zoz hF hcf hcm q1 hat fun a' w' σ' j' CJ Dc hds'=>?_
   have hMl:=z4L q1;have hperm:∀z,z∈A++B->z∈A++y::B:=fun z hz=>by
    rcases jL.1 hz with h|h
    ·exact kV _ h
    ·exact qj _ (jE _ h)
   have kY:∀d b,d≠i->(listed.setIfInBounds i true).getD d b=listed.getD d b:=fun d b hd=>by
    simp only[qn];rw[ye (ko hd)]
   have hgi:∀b,(listed.setIfInBounds i true).getD i b=true:=fun b=>by
    simp only[qn];rw[uY (by rw[hsz];exact h2)];rfl
   have hnd':((A++B).map (·.1.ix)).Nodup/\i∉(A++B).map (·.1.ix):=by
    simp only[uP,kR]at hnd ⊢;rw[hyi]at hnd;have hp:=(yl (a:=i) (l₁:=A.map (·.1.ix)) (l₂:=B.map (·.1.ix))).nodup_iff.1 hnd;rw[qK]at hp;exact⟨hp.2,hp.1⟩
   refine ih (listed.setIfInBounds i true) (A++B) _ M' a' w' σ' j' (by simp at hlen ⊢;omega) (by simp[hsz]) (fun d hd=>?_) hnd'.1 (fun z hz=>BQ z (hperm z hz)) ?_ (fun d hd hl e he=>?_) ?_ q2 (jT AD hMl) CJ ?_ (hds'.trans hds)
   ·by_cases hdi:d=i
    ·subst hdi;rw[hgi]
     grind
    ·rw[kY d true hdi,hx d hd];simp only[uP,kR,jL,jK,hyi,hdi,false_or]
   ·grind
   ·have hed:listed.getD e false=true:=by
     by_cases hdi:d=i
     ·subst hdi;exact h3 e he
     ·rw[kY d true hdi]at hl;exact hcl d hd hl e he
    by_cases hei:e=i
    ·subst hei;exact hgi false
    ·rw[kY e false hei];exact hed
   ·have:=zpZ.remove (A:=A.map (·.1.ix)) (y:=i) (B:=B.map (·.1.ix)) (by simpa [hyi]using Dq);simp only[uP];refine this.mono fun d hd=>?_
    rcases hd with hd|rfl
    ·by_cases hdi:d=i
     ·subst hdi;exact hgi false
     ·rw[kY d false hdi];simpa using hd
    ·exact hgi false
   ·exact hst.trans (Dc.le (jT hk AD))
end
end Go.Eng
namespace Go.Eng
open Go
variable[zb0]
def zqP:∀{N:Nat} {l:List Nat},l.Nodup->(∀x∈l,x<N)->l.length<=N
 |0,l,_,h=>by
  cases l with
  |nil=>grind
  |cons x xs=>exact absurd (h x (js ..)) (Nat.not_lt_zero _)
 |N+1,l,hn,h=>by
  by_cases hm:N∈l
  ·have h1:=zqP (N:=N) (hn.erase N) (fun x hx=>by
    grind)
   grind
  ·have:=zqP (N:=N) hn (fun x hx=>by
    grind)
   omega
def zCI{N:Nat}{l:List Nat}(hn:l.Nodup)(h:∀x∈l,x<N)(hl:l.length=N){i:Nat}(hi:i<N):i∈l:=by
 by_cases hm:i∈l
 ·grind
 ·have:=zqP (N:=N) (qK.2 ⟨hm,hn⟩) (fun x hx=>by
   grind)
  grind
section
variable{own:Nat->Prop}{P:Program}{cf:za4}{ntmps:Nat}{F:Fence}{n:Nat}{Q:Exit->Act->World->Prop}
def zgF{ops:List Oper}{m:Oper->zbz}:∀{is:List Nat} {cs:List zaG},zcL P ops m ntmps is=some cs->cs.length=is.length/\∀(p:Nat) (c:zaG),cs[p]?=some c->∃i,is[p]?=some i/\zdT P ops m ntmps i=some c
 |[],cs,h=>by simp only[zcL,ji]at h;subst h;exact⟨rfl,wD⟩
 |i::is,cs,h=>by
  simp only[zcL]at h;split at h
  ·rename_i c cs' h1 h2;obtain⟨e1,e2⟩:=zgF h2
   grind
  grind
theorem zgG{ops:Array Oper}{m:Oper->zbz}{i:Nat}{c:zaG}(h:zdT P ops.toList m ntmps i=some c):c.ix=i/\i<ops.size:=by
 grind [zjR,Array.getElem?_eq_some_iff]
def zpV{ops:Array Oper}{m:Oper->zbz}{is:List Nat}{cs:List zaG}(h:zcL P ops.toList m ntmps is=some cs):cs.map (·.ix)=is:=by
 obtain⟨e1,e2⟩:=zgF h;apply qw;intro p;rw[kO];cases hc:cs[p]? with
 |none =>
  grind
 |some c =>
  obtain⟨i,hi,hci⟩:=e2 p c hc;rw[hi];simp[(zgG hci).1]
def zsD(hF:zhz F)(hcf:FnS P cf){ops:Array Oper}{m:Oper->zbz}{n0 k:Nat}{σ0:zP}{j0:Inj}{M0:Mem}{w0:World}{E2:zhy}{M2:Mem}{ds:List Deferred}
  (hQ:∀a' w' σ' j',At own σ' j' E2 M2 ntmps a' w'->za2 own k σ0 j0 M0 w0 σ' j' M2 w'->a'.defers=ds->Q .normal a' w') :
  ∀{is:List Nat} {cs:List zaG} {fs:List FP} {E:zhy} {M:Mem} {a:Act} {w:World} {σ:zP} {j:Inj},zcL P ops.toList m ntmps is=some cs->zlh cf n0 cs E M=some (E2,M2,fs)->k<=M.length ->
   At own σ j E M ntmps a w->za2 own k σ0 j0 M0 w0 σ j M w->a.defers=ds->wpOpsIn F n P ops Q is a w
 |[],cs,fs,E,M,a,w,σ,j,hc,hr,hk,hat,hst,hds=>by
  simp only[zcL,ji]at hc;subst hc;obtain⟨rfl,rfl,_⟩:=hr;exact hQ a w σ j hat hst hds
 |i::is,cs,fs,E,M,a,w,σ,j,hc,hr,hk,hat,hst,hds=>by
  simp only[zcL]at hc;split at hc
  ·rename_i c cs' h1 h2;cases hc;cases fs with
   |nil =>
    grind [zlh]
   |cons fp fs =>
    obtain⟨v,M',q1,q2⟩:=zgh.1 hr;refine zoz hF hcf h1 q1 hat fun a' w' σ' j' CJ Dc hds'=>?_
    exact zsD hF hcf hQ h2 q2 (jT hk (z4L q1)) CJ (hst.trans (Dc.le hk)) (hds'.trans hds)
  grind
def zpo{bef:List Nat}{a:zaG}{i:Nat}:∀{r:List zaG} {j p:Nat} {b:zaG},r[p]?=some b->(bef.getD b.ix 0).testBit a.ix=false->¬(a.cls=.pure\/b.cls=.pure\/(a.cls=.load/\b.cls=.load))->(i,j+p)∈znU bef a i j r
 |[],j,p,b,h,_,_=>by grind
 |x::r,j,0,b,h,hb,hk=>by
  simp_all [vV,ji,znU,jI,if_false,not_or,not_and]
 |x::r,j,p+1,b,h,hb,hk=>by
  have:=zpo (i:=i) (r:=r) (j:=j+1) (p:=p) (by grind) hb hk
  grind [znU,List.mem_cons_of_mem]
def zuW{bef:List Nat}{base:Nat}{CW:List FP}:∀{cs:List zaG} {fs:List FP} {i:Nat},zqg bef cs=true->(zxr bef i cs).all (zyi base CW)=true->(∀p:Nat,fs[p]?=CW[i+p]?) ->
  (cs.zip fs).Pairwise (fun x y=>(bef.getD y.1.ix 0).testBit x.1.ix=true\/zA7 base x.1 x.2 y.1 y.2)
 |[],fs,i,_,_,_=>wD
 |a::r,[],i,_,_,_=>wD
 |a::r,f::fr,i,hc,hp,hfs=>by
  simp only[zqg,jk]at hc;simp only[zxr,List.all_append,jk]at hp;have hfr:∀p:Nat,fr[p]?=CW[(i+1)+p]?:=fun p=>by
   have:=hfs (p+1)
   grind
  refine jX.2 ⟨fun y hy=>?_,zuW hc.2 hp.2 hfr⟩;obtain⟨p,hp2⟩:=j7 hy;have hp2:(r.zip fr)[p]?=some y:=hp2;rw[List.getElem?_zip_eq_some]at hp2;obtain⟨hb,hfb⟩:=hp2;cases ht:(bef.getD y.1.ix 0).testBit a.ix with
  |true=>grind
  |false =>
   right;have h1:=jw.1 hc.1 y.1 (kF hb);simp only[ht,ux]at h1;refine⟨h1,?_⟩;by_cases hk:(a.cls=.pure\/y.1.cls=.pure\/(a.cls=.load/\y.1.cls=.load))
   ·grind
   ·have hm:=zpo (i:=i) (j:=i+1) hb ht hk;have:=jw.1 hp.1 _ hm;simp only[zyi]at this;have h0:CW[i]?=some f:=by have:=hfs 0;grind
    grind
def zuY{n0:Nat}:∀{os:List zaG} {E E2:zhy} {M M2:Mem} {fs:List FP},zlh cf n0 os E M=some (E2,M2,fs)->fs.length=os.length/\M.length<=M2.length
 |[],E,E2,M,M2,fs,h=>by obtain⟨_,rfl,rfl⟩:=h;exact⟨rfl,jm _⟩
 |o::os,E,E2,M,M2,fs,h=>by
  simp only[zlh]at h;split at h
  ·rename_i v M' fp h1;split at h
   ·rename_i E3 M3 fs3 h2;cases h;obtain⟨e1,e2⟩:=zuY h2;exact⟨by grind,jT (z4L h1) e2⟩
   grind
  grind
def za2.of_same{k:Nat}{σ:zP}{j:Inj}{M M':Mem}{w w':World}(hM:∀(id:Nat) (b:Blk),M[id]?=some (some b)->M'[id]?=some (some b))(hw:w'.heap=w.heap)(hs:zd9 w w'):za2 own k σ j M w σ j M' w' :=
 ⟨zP.le_refl _,fun _ _ _ _ h=>h,by grind,fun _ _ _=>by rw[hw],fun _ _ _ h=>.inl h,fun id b _ hb=>⟨b,hM id b hb,jm _,fun _=>⟨rfl,fun _ _=>by rw[hw]⟩⟩,hs⟩
def ziY(hF:zhz F)(hcf:FnS P cf)(u9:P.follows .mixedOrders=true){an:Ann}{id:Nat}{ops:Array Oper}{draw:Bool}{nA:Nat}{cs:List zaG}{prs:List (Nat×Nat)}
  (hc:zeP P an ntmps id ops.toList draw=some (nA,cs,prs)) {E E':Env} {M M':Mem} {fs:List FP} (hr:zks cf M.length cs E (M++qC nA)=some (E',M',fs)) (hp:prs.all (zyi (M.length+nA) fs)=true)
  {σ:zP} {j:Inj} {a:Act} {w:World} (hat:At own σ j E.get M ntmps a w)
  (hQ:∀a' w' σ' j',At own σ' j' E'.get M' ntmps a' w'->za2 own M.length σ j M w σ' j' M' w'->M.length<=M'.length->a'.defers=a.defers->Q .normal a' w'):(Code.region id ops draw).wpIn F n P Q a w:=by
 have hG:=zxv hr;obtain⟨hfl,hlen⟩:=zuY hG;simp only[jF]at hlen;have hholes:(qC nA).length=nA:=by simp[qC]
 have AE:∀w1:World,w1.heap=w.heap->At own σ j E.get (M++qC nA) ntmps a w1:=fun w1 hw =>
  ⟨hat.env,hat.size,hat.marks.heap hw,hat.yq.same hw,(hat.mem.qC nA).same hw,fun b hb=>hat.own b (by rw[<-hw];exact hb)⟩
 have yE:∀w1:World,w1.heap=w.heap->zd9 w w1->za2 own M.length σ j M w σ j (M++qC nA) w1:=fun w1 hw=>za2.of_same (fun id b hb=>by rw[jo (zC hb)];exact hb) hw
 have hQ':∀a' w' σ' j',At own σ' j' E'.get M' ntmps a' w'->za2 own M.length σ j M w σ' j' M' w'->a'.defers=a.defers->Q .normal a' w':=fun a' w' σ' j' h1 h2 h3=>hQ a' w' σ' j' h1 h2 wA h3
 unfold zeP at hc;dsimp only at hc;cases draw with
 |false =>
  simp only[jI,if_false]at hc;split at hc
  ·rename_i cs' hcs;cases hc;refine wpIn_region ?_;have hrange:List.range ops.toList.length=List.range ops.size:=wD
   rw[hrange]at hcs;exact zsD hF hcf hQ' hcs hG wD (AE w rfl) (yE w rfl (zd9.refl _)) rfl
  ·cases hc
 |true =>
  simp only[if_true]at hc;split at hc
  ·rename_i cs' hcs;split at hc
   ·rename_i hok;cases hc;simp only[jk,decide_eq_true_eq]at hok;obtain⟨⟨⟨o1,o2⟩,o3⟩,o4⟩:=hok;refine wpIn_region_any u9 ?_;obtain⟨l1,l2⟩:=zgF hcs;have hix:=zpV hcs;have hzl:(cs.zip fs).map (·.1)=cs:=by rw[List.map_fst_zip];omega
    have hzr:(cs.zip fs).map (·.2)=fs:=by rw[List.map_snd_zip];omega
    have hzi:(cs.zip fs).map (·.1.ix)=schedule ops.toList ops.toList.length []:=by
     have:(cs.zip fs).map (·.1.ix)=((cs.zip fs).map (·.1)).map (·.ix):=by rw[ya];rfl
     rw[this,hzl,hix]
    have hnd:=zgy o2;have Ac:∀c∈cs,∃i,i∈schedule ops.toList ops.toList.length []/\zdT P ops.toList an.mode ntmps i=some c:=fun c hcm=>by
     obtain⟨p,hp⟩:=j7 hcm;obtain⟨i,hi,hci⟩:=l2 p c hp;exact⟨i,kF hi,hci⟩
    have ve:∀i,i<ops.size->i∈schedule ops.toList ops.toList.length []:=by
     have B7:∀i∈schedule ops.toList ops.toList.length [],i<ops.size:=by
      intro i hi;rw[<-hix]at hi;obtain⟨c,hcm,rfl⟩:=jW.1 hi;obtain⟨i',_,hci⟩:=Ac c hcm;rw[(zgG hci).1];exact(zgG hci).2
     intro i hi;exact zCI hnd B7 (by grind) hi
    refine zAL hF hcf (base:=M.length+zgO ops.toList ops.toList.length) wA hQ' ops.size (Array.replicate ops.size false) (cs.zip fs) E.get _ a _ σ j ?_ wD (fun i hi=>?_) (by grind) (fun x hx=>?_) (zuW o4 hp (fun p=>wD)) (fun i hi h=>?_) ?_ (by rw[hzl,hzr];omega) (by simp[qC]) (AE _ rfl) (yE _ rfl ⟨rfl,rfl,rfl,by first |exact jm _ |exact fun _=>kL _⟩) rfl
    ·simp only[List.length_zip,hfl,Nat.min_self];rw[l1,o1];simp
    ·simp_all
    ·have hxm:x.1∈cs:=by grind
     obtain⟨i,_,hci⟩:=Ac _ hxm
     grind [zgG]
    ·simp_all
    ·rw[hzi];exact(zpe o3).mono fun d hd=>by grind
   grind
  grind
end
end Go.Eng
namespace Go.Eng
open Go
variable[zb0]
section
variable{own:Nat->Prop}{P:Program}{σ:zP}{j:Inj}{M:Mem}{a:Act}{w:World}{ntmps:Nat}
def zjB{id l:Nat}{r:Loop}{f:FuncId}{sh:List (Nat×Bool×Nat)}{b:Blk}(hm:MR own σ j M w)(hj:j id 0=some (.rnd l r f sh))(hl:look M id 0=some b):M[id]?=some (some b)/\b.gen=0/\RB σ j b l r f sh w:=by
 obtain⟨h1,h2⟩:=zaz hl;obtain⟨pl,h3,h4,_⟩:=hm.vF id b h1;rw[<-h2,hj]at h3;cases h3;exact⟨h1,h2.symm,h4⟩
def zsJ{id:Nat}{s:Int}(h:kM M id=some s):∃b cells,look M id 0=some b/\b.rows=[.int .i64 s::cells]/\zxb M id=some cells:=by
 grind [kM,zxb]
def zg0{id:Nat}{s s':Int}{M':Mem}(h:zsR M id s s'=some M'):∃b cells,look M id 0=some b/\b.rows=[.int .i64 s::cells]/\M'=M.set id (some { b with rows:=[.int .i64 s'::cells],ver:=b.ver+1 }):=by
 grind [zsR]
def znk{id l:Nat}{r:Loop}{f:FuncId}{sh:List (Nat×Bool×Nat)}{s s':Int}{M':Mem}{pd:Option Code}(hag:zM σ w)(hm:MR own σ j M w)(hj:j id 0=some (.rnd l r f sh))(h:zsR M id s s'=some M')(hpd:s'≠-1->pd=zqM s') :
  zM σ (w.putObj l (.loop { r with state:=zfS s',pending:=pd }))/\MR own σ j M' (w.putObj l (.loop { r with state:=zfS s',pending:=pd })) /\
  za2 own M.length σ j M w σ j M' (w.putObj l (.loop { r with state:=zfS s',pending:=pd })):=by
 obtain⟨b,cells,hlk,vl,rfl⟩:=zg0 h;obtain⟨hb,hg,hrb⟩:=zjB hm hj hlk;obtain⟨s0,DH,pd0,vs,h1,h2,h3,h4,h5⟩:=hrb.st;rw[vl]at h1;cases h1;have hll:l<w.heap.size:=(jV.1 h2).1;have AX:∀k,k≠l->(w.putObj l (.loop { r with state:=zfS s',pending:=pd })).heap[k]?=w.heap[k]?:=fun k hk=>World.putObj_heap_other hk
 have hjb:j id b.gen=some (.rnd l r f sh):=by grind
 have hne:∀k x q,k≠id->M[k]?=some (some x)->j.atk k x.gen=some q->q≠l:=fun k x q hk hx hq e=>hk (hm.vz k id x b q hx hb hq (by grind [Inj.CX]))
 have get:∀k x,(M.set id (some { b with rows:=[.int .i64 s'::cells],ver:=b.ver+1 }))[k]?=some (some x)->(k=id/\x={ b with rows:=[.int .i64 s'::cells],ver:=b.ver+1 })\/(k≠id/\M[k]?=some (some x)):=by
  grind
 refine⟨?_,⟨fun k x hx=>?_,fun k k' x x' q hx hx' hq hq'=>?_,fun k g pl hk=>?_,hm.okP⟩,?_⟩
 ·refine⟨?_,hag.kZ⟩;intro k o v hv;have hold:=hag.cells k o v hv
  grind [World.cell?]
 ·rcases get k x hx with⟨rfl,rfl⟩ |⟨hk,hx⟩
  ·obtain⟨pl,hpl,_,ho⟩:=hm.vF k b hb;rw[hjb]at hpl;cases hpl;exact⟨_,hjb,(⟨hrb.box,hrb.ok,s',cells,pd,vs,rfl,World.putObj_heap_same hll,hpd,h4,h5⟩:RB σ j { b with rows:=[.int .i64 s'::cells],ver:=b.ver+1 } l r f sh _),ho⟩
  ·obtain⟨pl,hpl,hbr,ho⟩:=hm.vF k x hx;exact⟨pl,hpl,hbr.mono (zP.le_refl _) (Inj.le_refl _) (fun q e=>AX q (hne k x q hk hx (Inj.v7 hpl e))) (fun _ _ _ h _ _=>h),ho⟩
 ·rcases get k x hx with⟨rfl,rfl⟩ |⟨hk,hx1⟩<;>rcases get k' x' hx' with⟨rfl,rfl⟩ |⟨hk',B6⟩
  ·rfl
  ·exact hm.vz k k' b x' q hb B6 hq hq'
  ·exact hm.vz k k' x b q hx1 hb hq hq'
  ·exact hm.vz k k' x x' q hx1 B6 hq hq'
 ·obtain⟨x,hx,hgx⟩:=hm.dom k g pl hk
  grind
 ·have hown:own l:=hm.Cy hb (Inj.CX hjb);refine⟨zP.le_refl _,fun _ _ _ _ h=>h,wD,fun k _ ho=>AX k (fun e=>ho (e ▸ hown)),fun _ _ _ h=>.inl h,fun k x hk hx=>?_,⟨rfl,rfl,rfl,fun _=>jm _⟩⟩
  grind
def zvy{tmps:Array Value}:∀{sh:List (Nat×Bool×Nat)} {cells:List Cl} {vs:List Value} {E0:Env},AI sh cells=some E0->VCs σ j cells vs->zCb tmps sh vs->zcs σ j E0.get tmps
 |[],cells,vs,E0,h,hv,hc=>by
  simp only[AI,ji]at h;intro n x hx
  grind [Env.get]
 |(n,g,k)::sh,cells,vs,E0,h,hv,hc=>by
  simp only[AI]at h;split at h
  ·rename_i v E h1 h2;cases h;obtain⟨hc1,hc2⟩:=hc;have ih:=zvy h2 (hv.drop k) hc2;intro m x hx;simp only[Env.get]at hx;split at hx
   ·rename_i hm;cases hx;subst hm;cases g with
    |true =>
     simp only[zaI,if_true,ji]at h1;subst h1;exact⟨_,hc1,_,rfl,by simpa using hv.take k⟩
    |false =>
     obtain⟨rfl,hc1⟩:=hc1;simp only[zaI,jI,if_false]at h1;cases cells with
     |nil=>grind
     |cons y ys =>
      cases h1;obtain⟨u,us,rfl,hu,_⟩:=hv.kP;exact⟨u,by grind,hu⟩
   ·exact ih m x hx
  grind
def zrw{tmps:Array Value}{E:Env}(hE:zcs σ j E.get tmps):∀caps:List Nat,∃vs,VCs σ j (zeN E caps).2 vs/\zCb tmps (zeN E caps).1 vs
 |[]=>⟨[],VCs.nil,trivial⟩
 |n::ns=>by
  obtain⟨vs,h1,h2⟩:=zrw hE ns;simp only[zeN];split
  ·rename_i x hx;obtain⟨u,hu,hr⟩:=hE n _ hx;exact⟨u::vs,VCs.cons hr h1,⟨rfl,by grind⟩,by grind⟩
  ·rename_i cs hx;obtain⟨u,hu,arr,rfl,hr⟩:=hE n _ hx;have hl:cs.length=arr.toList.length:=hr.1;refine⟨arr.toList++vs,hr.append h1,?_,?_⟩
   ·simp_all
   grind
  grind
def zqN{E0:Env}:∀{ps:List Nat} {as:List WV} {vs:List Value} {tmps:Array Value},ps.Nodup->(∀p∈ps,p<tmps.size)->as.length=ps.length->zac σ j as vs->zcs σ j E0.get tmps ->
  zcs σ j (zv3 ps as++E0).get ((ps.zip vs).foldl (fun t (x:Nat×Value)=>t.setIfInBounds x.1 x.2) tmps)/\((ps.zip vs).foldl (fun t (x:Nat×Value)=>t.setIfInBounds x.1 x.2) tmps).size=tmps.size /\
   ∀k,k∉ps->((ps.zip vs).foldl (fun t (x:Nat×Value)=>t.setIfInBounds x.1 x.2) tmps)[k]?=tmps[k]?
 |[],as,vs,tmps,hn,hp,hl,hv,hE=>by
  simp_all [zv3]
 |p::ps,as,vs,tmps,hn,hp,hl,hv,hE=>by
  cases as with
  |nil=>grind
  |cons x as =>
   obtain⟨v,vs',rfl,h1,h2⟩:=hv.kP;obtain⟨hnp,hn'⟩:=qK.1 hn;have key:∀(E1:Env),zcs σ j E1.get (tmps.setIfInBounds p v)->zcs σ j (zv3 ps as++E1).get ((ps.zip vs').foldl (fun t (x:Nat×Value)=>t.setIfInBounds x.1 x.2) (tmps.setIfInBounds p v)) /\
     ((ps.zip vs').foldl (fun t (x:Nat×Value)=>t.setIfInBounds x.1 x.2) (tmps.setIfInBounds p v)).size=(tmps.setIfInBounds p v).size/\∀k,k∉ps->((ps.zip vs').foldl (fun t (x:Nat×Value)=>t.setIfInBounds x.1 x.2) (tmps.setIfInBounds p v))[k]?=(tmps.setIfInBounds p v)[k]? :=
    fun E1 hE1=>zqN hn' (fun q hq=>by grind) (by grind) h2 hE1
   have hpt:p<tmps.size:=hp p (js ..);have hE1:zcs σ j (Env.get (E0.filter (fun(x:Nat×AV)=>x.1 !=p))) (tmps.setIfInBounds p v):=by
    intro m y hy;have:m≠p/\E0.get m=some y:=by
     clear key hE;induction E0 with
     |nil=>grind [Env.get]
     |cons e E0 ih =>
      simp only[uh]at hy;split at hy
      ·rename_i hep;simp only[Env.get]at hy ⊢
       grind
      ·rename_i hep;obtain⟨q1,q2⟩:=ih hy;refine⟨q1,?_⟩;simp only[Env.get];rw[if_neg]
       ·exact q2
       grind
    obtain⟨u,hu,hr⟩:=hE m y this.2
    grind
   obtain⟨q1,q2,q3⟩:=key _ hE1;refine⟨?_,by simp_all,fun k hk=>?_⟩
   ·intro m y hy;simp only[zv3,jh,Env.get]at hy;simp only[List.zip_cons_cons,j8];split at hy
    ·rename_i hm;cases hy;subst hm;exact⟨v,by grind,h1⟩
    ·rename_i hm;refine q1 m y ?_;have gen:∀(Z:Env),Env.get (Z++E0) m=some y->Env.get (Z++E0.filter (fun(x:Nat×AV)=>x.1 !=p)) m=some y:=by
      intro Z;induction Z with
      |nil =>
       simp only[je];clear key q1 q2 q3 hE hE1 hy;induction E0 with
       |nil=>grind
       |cons e E0 ih =>
        intro h;simp only[Env.get]at h;simp only[uh];split at h
        ·simp_all [ko,if_pos,Env.get]
        ·rename_i hem;split
         ·simp_all [Env.get,if_neg]
         grind
      |cons z Z ih =>
       intro h;simp only[jh,Env.get]at h ⊢
       grind
     grind
   simp_all [jK,not_or,List.zip_cons_cons,j8,ye,ko]
def zxR(ps:Array Nat)(vs:Array Value)(tmps:Array Value):(ps.zip vs).foldl (fun(tmps:Array Value) (x:Nat×Value)=>tmps.setIfInBounds x.1 x.2) tmps=(ps.toList.zip vs.toList).foldl (fun t (x:Nat×Value)=>t.setIfInBounds x.1 x.2) tmps:=by
 rw[<-Array.foldl_toList];simp
def zd9.Cc{w w':World}{o:Obj}(h:w'.heap=w.heap.push o)(ho:w'.os=w.os)(hp:w'.output=w.output)(hno:∀C T f,o≠.cells C T f)(ht:w'.tape=w.tape:=by rfl)(hd:w.drawn<=w'.drawn:=by first |exact jm _ |exact kL _):zd9 w w':=by
 exact⟨ho,hp,ht,fun _=>hd⟩
def zBE{r:Loop}{f:FuncId}{caps:List Nat}{E:Env}(hst:r.state=.ready)(hpd:r.pending=none)(hok:zb0.ok f r)(hE:zcs σ j E.get r.tmps)(hag:zM σ w)(hm:MR own σ j M w)(hown:∀b,w.heap.size<=b->own b) :
  ∃j',j' M.length 0=some (.rnd (w.heap.size+1) r f (zeN E caps).1)/\zM σ ((w.alloc (.deferred (some []))).alloc (.loop r))/\MR (fun k=>own k/\k≠w.heap.size) σ j' (M++[some (ghost (zeN E caps).2)]) ((w.alloc (.deferred (some []))).alloc (.loop r)) /\
   za2 own M.length σ j M w σ j' (M++[some (ghost (zeN E caps).2)]) ((w.alloc (.deferred (some []))).alloc (.loop r)):=by
 generalize hw1:(w.alloc (.deferred (some []))).alloc (.loop r)=w1;have yA:w1.heap=(w.heap.push (.deferred (some []))).push (.loop r):=by rw[<-hw1];rfl
 have hold:∀k,k<w.heap.size->w1.heap[k]?=w.heap[k]?:=fun k hk=>by
  grind
 have hl:w1.heap[w.heap.size+1]?=some (.loop r):=by
  grind
 have BK:zd9 w w1:=by
  rw[<-hw1];exact(zd9.Cc (w':=w.alloc (.deferred (some []))) rfl rfl rfl (by grind)).trans (zd9.Cc (w':=(w.alloc (.deferred (some []))).alloc (.loop r)) rfl rfl rfl (by grind))
 have Bj:(M++qC 1)[M.length]?=some none:=by simp[qC]
 have hlt:M.length<(M++qC 1).length:=by grind
 have AP:(M++qC 1).set M.length (some (ghost (zeN E caps).2))=M++[some (ghost (zeN E caps).2)]:=by simp[qC]
 obtain⟨vs,hvs,hcv⟩:=zrw hE caps;have hm0:MR (fun k=>own k/\k≠w.heap.size) σ j (M++qC 1) w:=(hm.BI (fun b hb ho=>⟨ho,wA⟩)).qC 1;have u4:j M.length 0=none:=by
  cases h:j M.length 0 with
  |none=>rfl
  |some pl=>exact absurd (hm.lt h) (vG _)
 have hle:=Inj.An (pl:=.rnd (w.heap.size+1) r f (zeN E caps).1) u4;obtain⟨_,hm1⟩:=hm0.renew (w':=w1) (id:=M.length) (b':=ghost (zeN E caps).2) (pl':=.rnd (w.heap.size+1) r f (zeN E caps).1) hlt (fun b hb=>by grind)
  (fun k b q _ hb hq=>by
   have:=hm0.qY hb hq;exact⟨hold q this,fun e=>by cases e;omega⟩)
  (⟨rfl,hok,0,(zeN E caps).2,none,vs,rfl,by rw[hl];obtain⟨st,pd,_⟩:=r;cases hst;cases hpd;rfl,fun _=>rfl,hvs.mono (zP.le_refl _) hle,hcv⟩:RB σ _ (ghost (zeN E caps).2) _ r f _ w1)
  (fun k e=>by cases e;grind)
 rw[AP]at hm1;refine⟨_,Inj.uZ _ _ _ _,hag.AM (fun b o v hv=>hold b (hag.lt hv)),hm1,zP.le_refl _,fun id g pl _ h=>hle id g pl h,by grind,fun k hk _=>hold k hk,fun _ _ _ h=>.inl h,fun id b hid hb=>⟨b,?_,jm _,fun _=>⟨rfl,fun q hq=>hold q (hm.qY hb hq)⟩⟩,BK⟩
 grind
end
end Go.Eng
namespace Go.Eng
open Go
section
variable[GlobP]
def zae(K:FuncId->Array Tmp->Code->Code->Nat->Prop)(P:Program)(an:Ann)(ntmps:Nat):Code->CC->Prop
 |.skip,.skip=>True
 |.region id ops draw,.region nA cs prs _=>zeP P an ntmps id ops.toList draw=some (nA,cs,prs)
 |.seq a b,.seq a' b'=>zae K P an ntmps a a'/\zae K P an ntmps b b'
 |.cond c a b,.cond c' a' b'=>za5 c=some c'/\zae K P an ntmps a a'/\zae K P an ntmps b b'
 |.block id b,.block id' b'=>id=id'/\zae K P an ntmps b b'
 |.loop b,.loop _ b'=>zae K P an ntmps b b'
 |.exit id,.exit id'=>id=id'
 |.ret,.ret=>True
 |.label _,.skip=>True
 |.scope b,.seq b' c'=>c'=.skip/\zae K P an ntmps b b'
 |.rangeFunc g ps a b,.rng f v _=>za5 g=some f/\K v ps a b ntmps
 |_,_=>False
def noK:FuncId->Array Tmp->Code->Code->Nat->Prop:=fun _ _ _ _ _=>False
def zAN(P:Program)(T:FuncId->Option CFn)(v:FuncId)(ps:Array Tmp)(a b:Code)(n:Nat):Prop :=
 ∃c pre an,T v=some c/\c.rnd=some (ps.toList,pre)/\zae noK P an n a pre/\zae noK P an n b c.code/\ps.toList.Nodup/\∀p∈ps.toList,p<n
end
variable[zb0]
theorem zae.mono{K K':FuncId->Array Tmp->Code->Code->Nat->Prop}{P:Program}{an:Ann}{ntmps:Nat}(hK:∀v ps a b,K v ps a b ntmps->K' v ps a b ntmps):∀{c:Code} {cc:CC},zae K P an ntmps c cc->zae K' P an ntmps c cc
 |.skip,cc,h=>by cases cc<;>simp only[zae]at h ⊢
 |.region ..,cc,h=>by cases cc<;>simp only[zae]at h ⊢;grind
 |.seq a b,cc,h=>by cases cc<;>simp only[zae]at h ⊢;exact⟨zae.mono hK h.1,zae.mono hK h.2⟩
 |.cond c a b,cc,h=>by cases cc<;>simp only[zae]at h ⊢;exact⟨h.1,zae.mono hK h.2.1,zae.mono hK h.2.2⟩
 |.block id b,cc,h=>by cases cc<;>simp only[zae]at h ⊢;exact⟨h.1,zae.mono hK h.2⟩
 |.loop b,cc,h=>by cases cc<;>simp only[zae]at h ⊢;exact zae.mono hK h
 |.exit id,cc,h=>by cases cc<;>simp only[zae]at h ⊢;grind
 |.ret,cc,h=>by cases cc<;>simp only[zae]at h ⊢
 |.label l,cc,h=>by cases cc<;>simp only[zae]at h ⊢
 |.rangeFunc g ps a b,cc,h=>by cases cc<;>simp only[zae]at h ⊢;grind
 |.goto l,cc,h=>by cases cc<;>simp only[zae]at h
 |.scope b,cc,h=>by cases cc<;>simp only[zae]at h ⊢;exact⟨h.1,zae.mono hK h.2⟩
theorem zfr:∀c:Code,(rfs c).length=zeV c
 |.seq a b=>by simp[rfs,zeV,zfr a,zfr b]
 |.cond c a b=>by simp[rfs,zeV,zfr a,zfr b]
 |.block id b=>by simp[rfs,zeV,zfr b]
 |.loop b=>by simp[rfs,zeV,zfr b]
 |.scope b=>by simp[rfs,zeV,zfr b]
 |.rangeFunc g ps a b=>by simp[rfs,zeV]
 |.skip=>rfl
 |.region ..=>rfl
 |.exit _=>rfl
 |.ret=>rfl
 |.label _=>rfl
 |.goto _=>rfl
 |.refuse _=>rfl
theorem zdt{K:FuncId->Array Tmp->Code->Code->Nat->Prop}{P:Program}{an:Ann}{ntmps:Nat}:∀{vf:Option FuncId} {c:Code} {cc:CC},zbj P an ntmps vf c=some cc ->
  (∀v i x,vf=some v->(rfs c)[i]?=some x->K (v+i) x.1 x.2.1 x.2.2 ntmps)->zae K P an ntmps c cc
 |vf,.skip,cc,h,hK=>by simp only[zbj,ji]at h;subst h;trivial
 |vf,.region id ops draw,cc,h,hK=>by
  simp only[zbj]at h;split at h
  ·rename_i h1;cases h;exact h1
  grind
 |vf,.seq a b,cc,h,hK=>by
  simp only[zbj]at h;split at h
  ·rename_i a' b' h1 h2;cases h;refine⟨zdt h1 fun v i x hv hx=>hK v i x hv (by grind [rfs,List.getElem?_append_left,zC]),zdt h2 fun v i x hv hx=>?_⟩;simp only[ja]at hv;obtain⟨v0,hv0,rfl⟩:=hv
   simp_all [zeV,rfs,kJ,zfr,qf]
  grind
 |vf,.cond c a b,cc,h,hK=>by
  simp only[zbj]at h;split at h
  ·rename_i c' a' b' h0 h1 h2;cases h;refine⟨h0,zdt h1 fun v i x hv hx=>hK v i x hv (by grind [rfs,List.getElem?_append_left,zC]),zdt h2 fun v i x hv hx=>?_⟩;simp only[ja]at hv;obtain⟨v0,hv0,rfl⟩:=hv
   simp_all [zeV,rfs,kJ,zfr,qf]
  grind
 |vf,.block id b,cc,h,hK=>by
  simp only[zbj,ja]at h;obtain⟨b',h1,rfl⟩:=h;exact⟨rfl,zdt h1 hK⟩
 |vf,.loop b,cc,h,hK=>by
  simp only[zbj,ja]at h;obtain⟨b',h1,rfl⟩:=h;have:=zdt h1 hK;exact this
 |vf,.exit id,cc,h,hK=>by simp only[zbj,ji]at h;subst h;exact rfl
 |vf,.ret,cc,h,hK=>by simp only[zbj,ji]at h;subst h;trivial
 |vf,.label l,cc,h,hK=>by simp only[zbj,ji]at h;subst h;trivial
 |vf,.goto l,cc,h,hK=>by simp[zbj]at h
 |vf,.scope b,cc,h,hK=>by
  simp only[zbj,ja]at h;obtain⟨b',h1,rfl⟩:=h;exact⟨rfl,zdt h1 hK⟩
 |vf,.refuse b,cc,h,hK=>by simp[zbj]at h
 |vf,.rangeFunc g ps a b,cc,h,hK=>by
  simp only[zbj]at h;split at h
  ·rename_i v f a' b' hf h1 h2;cases h;have:=hK v 0 (ps,a,b) rfl rfl;exact⟨hf,this⟩
  grind
theorem zfQ{K:FuncId->Array Tmp->Code->Code->Nat->Prop}{P:Program}{an:Ann}{ntmps:Nat}:∀{c:Code} {cc:CC} {l:List Nat} {ex:List (Nat×List Nat)} {rt:List Nat},zae K P an ntmps c cc->zae K P an ntmps c (annot cc l ex rt)
 |c,.skip,l,ex,rt,h=>by grind [annot]
 |c,.region nA cs prs k,l,ex,rt,h=>by cases c<;>simp only[zae,annot]at h ⊢;grind
 |c,.seq a b,l,ex,rt,h=>by
  cases c<;>simp only[zae,annot]at h ⊢
  ·exact⟨zfQ h.1,zfQ h.2⟩
  ·obtain⟨rfl,h⟩:=h;exact⟨rfl,zfQ h⟩
 |c,.cond x a b,l,ex,rt,h=>by cases c<;>simp only[zae,annot]at h ⊢;exact⟨h.1,zfQ h.2.1,zfQ h.2.2⟩
 |c,.block i b,l,ex,rt,h=>by cases c<;>simp only[zae,annot]at h ⊢;exact⟨h.1,zfQ h.2⟩
 |c,.loop k b,l,ex,rt,h=>by cases c<;>simp only[zae,annot]at h ⊢;exact zfQ h
 |c,.exit i,l,ex,rt,h=>by grind [annot]
 |c,.ret,l,ex,rt,h=>by grind [annot]
 |c,.rng f v caps,l,ex,rt,h=>by grind [annot]
def zn1{E:Env}{n:Nat}{v:AV}:∀{l:List Nat},(E.ue l).get n=some v->E.get n=some v
 |[],h=>by grind [Env.ue,Env.get]
 |m::l,h=>by
  simp only[Env.ue]at h;split at h
  ·simp only[Env.get]at h;split at h
   ·grind
   ·exact zn1 h
  ·exact zn1 h
def zAg{E:Env}{n:Nat}{v:AV}{k:Option (List Nat)}(h:(E.kept k).get n=some v):E.get n=some v:=by
 cases k with
 |none=>exact h
 |some l=>exact zn1 h
def zBK{E:Env}{n:Nat}{v:AV}(h:E.get n=some v):(n,v)∈E:=by
 induction E with
 |nil=>grind [Env.get]
 |cons x E ih =>
  grind [Env.get,List.mem_cons_self,List.mem_cons_of_mem]
section
variable{own:Nat->Prop}{P:Program}{cf:za4}{ntmps:Nat}{F:Fence}{n:Nat}{Q:Exit->Act->World->Prop}{σ:zP}{j:Inj}{M:Mem}{a:Act}{w:World}
def At.sub{E E':zhy}(h:At own σ j E M ntmps a w)(hs:∀n v,E' n=some v->E n=some v):At own σ j E' M ntmps a w :=
 ⟨fun n x hx=>h.env n x (hs n x hx),h.size,h.marks,h.yq,h.mem,h.own⟩
def zw5(k:Nat)(j:Inj):Inj:=fun id g=>if id<k then j id g else none
def zw3{E:Env}{k:Nat}(h:At own σ j E.get M ntmps a w)(hk:k<=M.length):∃j',At own σ j' E.get (km k E M) ntmps a w/\za2 own k σ j M w σ j' (km k E M) w/\k<=(km k E M).length:=by
 unfold km;split
 ·grind [za2.refl]
 ·split
  ·rename_i hb;simp only[jk]at hb;let ρ:Nat->Option Nat:=fun id=>if id<k then some id else none
   have hkb:zbs ρ k:=fun id hid=>by grind
   have Bt:zi8 ρ j (zw5 k j):=by
    intro id id' g pl h1 h2
    grind [zw5]
   have get:∀(id:Nat) (b:Blk),(M.take k)[id]?=some (some b)->id<k/\M[id]?=some (some b):=by
    grind
   have put:∀(id:Nat) (b:Blk),id<k->M[id]?=some (some b)->(M.take k)[id]?=some (some b):=by
    grind
   have cutk:∀id g,id<k->zw5 k j id g=j id g:=fun id g hid=>by grind [zw5]
   refine⟨zw5 k j,⟨fun m x hx=>?_,h.size,h.marks,h.yq,⟨fun id b hb'=>?_,fun id id' b b' q hb1 hb2 hL hL'=>?_,fun id g pl hj=>?_,fun id g pl hj=>by
    simp only[zw5]at hj;split at hj
    ·exact h.mem.okP _ _ _ hj
    grind⟩,h.own⟩,?_,by grind⟩
   ·obtain⟨v,hv,hr⟩:=h.env m x hx;refine⟨v,hv,znm Bt (zqH hkb ?_) hr⟩;have:=jw.1 hb.1 _ (zBK hx)
    grind
   ·obtain⟨hid,hb1⟩:=get id b hb';obtain⟨pl,h1,h2,h3⟩:=h.mem.vF id b hb1;refine⟨pl,by grind,zkp Bt (zqG hkb ?_) h2,h3⟩;have:=hb.2;simp only[zH,jw]at this;exact this (some b) (kF hb')
   ·obtain⟨hid,hb1⟩:=get id b hb1;obtain⟨yI,hb2⟩:=get id' b' hb2;have hL:j.atk id b.gen=some q:=by grind [Inj.atk]
    have hL':j.atk id' b'.gen=some q:=by grind [Inj.atk]
    exact h.mem.vz id id' b b' q hb1 hb2 hL hL'
   ·simp only[zw5]at hj;split at hj
    ·obtain⟨b,hb1,hg⟩:=h.mem.dom id g pl hj
     grind
    grind
   ·exact⟨zP.le_refl _,fun id g pl hid hj=>by grind,jm _,fun _ _ _=>rfl,fun _ _ _ h=>.inl h,fun id b hid hb1=>⟨b,put id b hid hb1,jm _,fun _=>⟨rfl,fun _ _=>rfl⟩⟩,zd9.refl _⟩
  grind [za2.refl]
def zrx{E:Env}{k:Nat}{live:Option (List Nat)}(h:At own σ j E.get M ntmps a w)(hk:k<=M.length) :
  ∃j',At own σ j' (canon k live E M).1.get (canon k live E M).2 ntmps a w/\za2 own k σ j M w σ j' (canon k live E M).2 w/\k<=(canon k live E M).2.length:=by
 cases live with
 |none=>exact⟨j,h,za2.refl,hk⟩
 |some l=>exact zw3 (E:=E.ue l) (h.sub fun n v hv=>zn1 hv) hk
def zrk:EX->Exit
 |.normal=>.normal
 |.exit id=>.exit id
 |.ret=>.ret
def zzd(own:Nat->Prop)(k:Nat)(σ:zP)(j:Inj)(M:Mem)(w:World)(ntmps:Nat)(ds:List Deferred)(ex:EX)(E':Env)(M':Mem):Exit->Act->World->Prop :=
 fun e a' w'=>e=zrk ex/\∃AN σ' j',(∀b,AN b->own b)/\(∀d∈a'.defers,d∈ds\/∃r,d=zkw r/\own r/\w.heap.size<=r)/\At AN σ' j' E'.get M' ntmps a' w'/\za2 own k σ j M w σ' j' M' w'/\k<=M'.length
def least{p:Nat->Prop}(h:∃n,p n):∃n,p n/\∀m,p m->n<=m:=by
 obtain⟨n,hn⟩:=h;induction n using Nat.strongRecOn with
 |_ n ih =>
  grind
open Classical in
noncomputable def zqb(p:Nat->Prop):Nat:=if h:∃n,p n then(least h).choose else 0
def znY{p:Nat->Prop}{n:Nat}(h:p n):p (zqb p)/\zqb p<=n:=by
 have hx:∃n,p n:=⟨n,h⟩
 grind [zqb]
def zqk{c:Code}(J:Nat->Act->World->Prop){m:Nat}(h:J m a w)
  (round:∀m a w,J m a w->∃m',m=m'+1/\c.wpIn F n P (Exit.then (J m') Q) a w):(Code.loop c).wpIn F n P Q a w:=by
 refine wpIn_loop (fun a w=>∃m,J m a w) (fun a w=>zqb fun m=>J m a w) ⟨m,h⟩ ?_;rintro a w ⟨m,hm⟩;obtain⟨h1,_⟩:=znY (p:=fun m=>J m a w) hm;obtain⟨m',he,hw⟩:=round _ a w h1;refine wpIn_mono hw fun e a' w' hq=>?_
 cases e with
 |normal =>
  refine⟨⟨m',hq⟩,?_⟩;have:=(znY (p:=fun m=>J m a' w') hq).2;omega
 |_=>exact hq
def zgd{P:Program}{b:Frame}{a:Act}{k:List Item}{cs:List Frame}{w:World}{c:Code}:step P (lone (b.atR a (.code (.scope c)::k)) cs w)=.next (lone (b.atR a (.code c::.inScope c::k)) cs w) :=
 step_lone_go (by simp[stepG,stepG.exec,Frame.atR])
def zr3{P:Program}{b:Frame}{a:Act}{k:List Item}{cs:List Frame}{w:World}{c:Code}:step P (lone (b.atR a (.inScope c::k)) cs w)=.next (lone (b.atR a k) cs w) :=
 step_lone_go (by simp[stepG,stepG.exec,Frame.atR])
def zv5{F:Fence}{n:Nat}{P:Program}{Q:Exit->Act->World->Prop}{a:Act}{w:World}{c:Code}(h:c.wpIn F n P (fun e a w=>(∀l,e≠.goto l)/\Q e a w) a w):(Code.scope c).wpIn F n P Q a w:=by
 intro b k cs hro hb hr;have h0:(lone (b.atR a (.code (.scope c)::k)) cs w).fenced P F:=fenced_calm hb hr rfl;obtain⟨e,a₁,w₁,⟨hg,hq⟩,B9⟩:=h b (.inScope c::k) cs hro hb hr;cases e with
 |normal=>exact⟨.normal,a₁,w₁,hq,.head h0 zgd (StepsIn.trans B9 (.one (fenced_calm hb hr rfl) zr3))⟩
 |exit id =>
  have hx:exitTo id (.inScope c::k)=exitTo id k:=by simp[exitTo]
  exact⟨_,a₁,w₁,hq,fun k' hk=>.head h0 zgd (B9.1 k' (by grind)),
   fun hr' hk=>let ⟨k₁,h1,h2⟩:=B9.2 hr' (by grind);⟨k₁,h1,.head h0 zgd h2⟩⟩
 |goto l=>grind
 |ret=>exact⟨_,a₁,w₁,hq,.of_steps (.one h0 zgd) B9⟩
 |panic ch=>exact⟨_,a₁,w₁,hq,.of_steps (.one h0 zgd) B9⟩
 |outgrown=>exact⟨_,a₁,w₁,hq,.of_steps (.one h0 zgd) B9⟩
theorem zzd.trans{own BY:Nat->Prop}{k:Nat}{σ σ1:zP}{j j1:Inj}{M M1:Mem}{w w1:World}{ds ds1:List Deferred}{ex:EX}{E':Env}{M':Mem}{e:Exit}{a':Act}{w':World}(ho:∀b,BY b->own b)(hd:∀d∈ds1,d∈ds\/∃r,d=zkw r/\own r/\w.heap.size<=r)
  (hst:za2 own k σ j M w σ1 j1 M1 w1) (hk:k<=M1.length) (h:zzd BY M1.length σ1 j1 M1 w1 ntmps ds1 ex E' M' e a' w'):zzd own k σ j M w ntmps ds ex E' M' e a' w':=by
 obtain⟨rfl,own2,σ2,j2,q1,q2,q3,q4,q5⟩:=h;refine⟨rfl,own2,σ2,j2,fun b hb=>ho b (q1 b hb),fun d hd'=>?_,q3,hst.trans ((q4.uB ho).le hk),jT hk q5⟩;rcases q2 d hd' with h |⟨r,h1,h2,h3⟩
 ·grind
 ·exact .inr ⟨r,h1,ho r h2,jT hst.size h3⟩
def noR:CC->Bool
 |.seq a b |.cond _ a b=>noR a&&noR b
 |.block _ b |.loop _ b=>noR b
 |.rng ..=>false
 |_=>true
def zkv{P:Program}{an:Ann}:∀{c:Code} {cc:CC},zae noK P an ntmps c cc->noR cc=true
 |c,.skip,h=>rfl
 |c,.region ..,h=>rfl
 |c,.seq a b,h=>by
  cases c<;>simp only[zae,noR,jk]at h ⊢
  ·exact⟨zkv h.1,zkv h.2⟩
  ·obtain⟨rfl,h⟩:=h;exact⟨zkv h,rfl⟩
 |c,.cond x a b,h=>by cases c<;>simp only[zae,noR,jk]at h ⊢;exact⟨zkv h.2.1,zkv h.2.2⟩
 |c,.block i b,h=>by cases c<;>simp only[zae,noR]at h ⊢;exact zkv h.2
 |c,.loop k b,h=>by cases c<;>simp only[zae,noR]at h ⊢;exact zkv h
 |c,.exit i,h=>rfl
 |c,.ret,h=>rfl
 |c,.rng ..,h=>by cases c<;>simp only[zae,noK,and_false]at h
def zzE(hF:zhz F)(hcf:FnS P cf)(hro:F.round=none){g:Operand}{ps:Array Tmp}{x b:Code}{f:Opd}{v:FuncId}{caps:List Nat}{E E':Env}{M':Mem}{ex:EX}(hg:za5 g=some f)(hK:zb0.okc v ps x b ntmps)
  (hx:zaV cf 0 (.rng f v caps) E M=some (ex,E',M')) (hat:At own σ j E.get M ntmps a w):(Code.rangeFunc g ps x b).wpIn F n P (zzd own M.length σ j M w ntmps a.defers ex E' M') a w:=by
 simp only[zaV]at hx;split at hx
 ·rename_i g0 gi ga hfv;split at hx
  ·rename_i r M1 fp qE;split at hx
   ·rename_i s hs;split at hx
    ·rename_i ex' M2 Bv AP;simp only[ji,ju]at hx;obtain⟨rfl,rfl,rfl⟩:=hx;refine wpIn_rangeFunc fun fn hfn=>?_
     rw[hro];generalize hrec:({ state:=.ready,pending:=none,fn,tmps:=a.tmps,params:=ps,assign:=x,body:=b,defers:=w.heap.size }:Loop)=rc;obtain⟨j1,hj1,CK,hm1,yE⟩:=zBE (r:=rc) (f:=v) (caps:=caps) (E:=E) (by grind) (by grind) (by rw[<-hrec];show zb0.okc v ps x b a.tmps.size;rw[hat.size];grind) (by rw[<-hrec];exact hat.env) hat.yq hat.mem hat.own;generalize hw1:(w.alloc (.deferred (some []))).alloc (.loop rc)=w1 at *;have BJ:w1.heap.size=w.heap.size+2:=by rw[<-hw1];simp
     have hmark:w1.heap[w.heap.size]?=some (.deferred (some [])):=by
      rw[<-hw1];show((w.heap.push _).push _)[w.heap.size]?=_
      grind
     have Ck:=yE.jle' hat.mem (jm _);have hfw:WVR σ j1 (.c (.fn g0 gi ga)) (a.eval g):=zWl hat.yq.kZ (hat.env.mono (zP.le_refl _) Ck) hg hfv;have hyv:zac σ j1 [.c (.yld M.length v (zeN E caps).1)] (#[Value.func (.yield (w.heap.size+1)) #[] #[]]:Array Value).toList :=
      zac.cons (show WVR σ j1 (.c (.yld M.length v (zeN E caps).1)) _ from .yld _ _ _ _ _ rc hj1) zac.nil
     have hown1:∀b,w1.heap.size<=b->(own b/\b≠w.heap.size):=fun b hb=>⟨hat.own b wA,wA⟩
     rcases zpA hcf qE CK hm1 hown1 hfw hyv with⟨h,fi,ca,fnn,Bw,q1,q2,q3,hc⟩ |⟨l,rc',Bw,hl,hsz,Ao⟩
     ·have DC:=run_enterLoop_outer (P:=P) (w:=w) fn a.tmps ps x b;rw[hrec,hw1]at DC;refine⟨w.heap.size+1,_,w1,{ target:=.fn (.func h) ca,args:=fi ++ #[.func (.yield (w.heap.size+1)) #[] #[]] },w1,h,fi ++ #[.func (.yield (w.heap.size+1)) #[] #[]]++ca,w1,DC,?_,fun f' _=>hF.fn f',?_,fun h=>(by rw[hF.depth]at h;grind),hF.calls ?_⟩
      ·show(Deferred.ofValue (a.eval g) (#[Operand.const (.func (.yield (w.heap.size+1)) #[] #[])].map a.eval)).run P w1=_;rw[Bw];simp[Deferred.ofValue,Act.eval]
      ·grind [invoke,zsS]
      ·refine Calls.yf hc ?_;rintro e w2 ⟨vv,σ2,j2,rfl,hr,Cr,hm2,yD⟩;have hlen:M.length<(M++[some (ghost (zeN E caps).2)]).length:=wD
       have hj2:j2 M.length 0=some (.rnd (w.heap.size+1) rc v (zeN E caps).1):=yD.jle _ _ _ hlen hj1;obtain⟨bb,cells,hlk,vl,_⟩:=zsJ hs;obtain⟨_,_,hrb⟩:=zjB hm2 hj2 hlk;obtain⟨s0,DH,pd,vs,h1,h2,h3,h4,h5⟩:=hrb.st;rw[vl]at h1;cases h1;have hne:s≠-1:=by rintro rfl;grind [znr]
       have hs1:s≠1:=by rintro rfl;grind [znr]
       have hpd:=h3 hne;obtain⟨hag3,hm3,Cj⟩:=znk (pd:=pd) Cr hm2 hj2 AP (fun h=>absurd rfl h);have A0:=run_endLoop (P:=P) h2 (by
        grind [zfS])
       have e0:zfS (-1)=.exhausted:=by simp[zfS]
       rw[e0]at hag3 hm3 Cj;have hmarkw:∀r,w1.heap[r]?=some (.deferred (some []))->¬(own r/\r≠w.heap.size)->(w2.putObj (w.heap.size+1) (.loop { rc with state:=.exhausted,pending:=pd })).heap[r]?=some (.deferred (some [])):=by
        intro r hr1 hr2;have hlt:=(jV.1 hr1).1;rw[Cj.frame r (vM hlt yD.size) hr2,yD.frame r hlt hr2];grind
       have CJ:At (fun k=>own k/\k≠w.heap.size) σ2 j2 E.get M2 ntmps { a with defers:=[zkw w.heap.size]++a.defers } (w2.putObj (w.heap.size+1) (.loop { rc with state:=.exhausted,pending:=pd })):=by
        have hjle:=yD.jle' hm1 (jm _);refine⟨hat.env.mono yD.sle (Inj.le_trans Ck hjle),hat.size,?_,hag3,hm3,fun k hk=>?_⟩
        ·obtain⟨rs,e1,e2,e3⟩:=hat.marks;have hrlt:∀r∈rs,r<w.heap.size:=fun r hr=>(jV.1 (e3 r hr).1).1
         refine⟨w.heap.size::rs,by grind,qK.2 ⟨fun h=>vG _ (hrlt _ h),e2⟩,fun r hr=>?_⟩;rcases jK.1 hr with rfl|hr
         ·grind
         ·have hlt:=hrlt r hr;have hold:w1.heap[r]?=w.heap[r]?:=yE.frame r hlt (e3 r hr).2
          grind
        ·have hk:w2.heap.size<=k:=by simp_all
         grind
       have Du:∀ee,ee=zrk ex'->zzd own M.length σ j M w ntmps a.defers ex' E M2 ee { a with defers:=[zkw w.heap.size]++a.defers } (w2.putObj (w.heap.size+1) (.loop { rc with state:=.exhausted,pending:=pd })):=by
        rintro ee rfl;refine⟨rfl,_,σ2,j2,fun k hk=>hk.1,fun d hd=>?_,CJ,yE.trans (((yD.trans (Cj.le (by
          grind))).uB (fun k hk=>hk.1)).le wD),?_⟩
        ·rcases jL.1 hd with h|h
         ·exact .inr ⟨_,jB.1 h,hat.own _ (jm _),jm _⟩
         grind
        ·have:=zC (zaz hlk).1;obtain⟨_,_,_,_,rfl⟩:=zg0 AP
         grind
       refine⟨pd,_,A0,?_⟩;unfold znr at Bv;split at Bv
       ·rename_i h0;cases Bv;have:pd=none:=by rw[hpd,h0];rfl
        subst this;exact Du _ rfl
       ·split at Bv
        ·rename_i h0;cases Bv;have:pd=some .ret:=by rw[hpd,h0];rfl
         subst this;exact wpIn_ret (Du _ rfl)
        ·split at Bv
         ·rename_i h0 h2' h3';cases Bv;have:pd=some (.exit (s-3).toNat):=by
           simp_all [zqM,znr,if_neg,if_pos]
          subst this;exact wpIn_exit (Du _ rfl)
         grind
     ·
      exfalso;have hfw:VC σ j1 (.fn g0 gi ga) (a.eval g):=hfw;rw[Bw]at hfw;cases hfw
    grind
   grind
  grind
 grind
def zdw(hF:zhz F)(hcf:FnS P cf)(u9:P.follows .mixedOrders=true){an:Ann}:∀{c:Code} {cc:CC} {fuel:Nat} {E E':Env} {M M':Mem} {ex:EX} {own:Nat->Prop} {σ:zP} {j:Inj} {a:Act} {w:World},zae zb0.okc P an ntmps c cc->(F.round=none\/noR cc=true) ->
  zaV cf fuel cc E M=some (ex,E',M')->At own σ j E.get M ntmps a w->c.wpIn F n P (zzd own M.length σ j M w ntmps a.defers ex E' M') a w
 |.skip,cc,fuel,E,E',M,M',ex,own,σ,j,a,w,hc,hro,hx,hat=>by
  cases cc<;>simp only[zae]at hc;simp only[zaV,ji,ju]at hx;obtain⟨rfl,rfl,rfl⟩:=hx;exact wpIn_skip ⟨rfl,own,σ,j,fun _ h=>h,fun d h=>.inl h,hat,za2.refl,jm _⟩
 |.region id ops draw,cc,fuel,E,E',M,M',ex,own,σ,j,a,w,hc,hro,hx,hat=>by
  cases cc<;>simp only[zae]at hc;rename_i nA cs prs ue;simp only[zaV]at hx;split at hx
  ·rename_i E1 M1 fs hr;split at hx
   ·rename_i hp;simp only[ji,ju]at hx;obtain⟨rfl,rfl,rfl⟩:=hx;refine ziY hF hcf u9 hc hr hp hat fun a' w' σ' j' h1 h2 h3 h4=>⟨rfl,own,σ',j',fun _ h=>h,fun d h=>.inl (h4 ▸ h),h1.sub fun n v hv=>zAg hv,h2,h3⟩
   grind
  grind
 |.seq x y,cc,fuel,E,E',M,M',ex,own,σ,j,a,w,hc,hro,hx,hat=>by
  cases cc<;>simp only[zae]at hc;rename_i x' y';simp only[zaV]at hx;refine wpIn_seq ?_;split at hx
  ·rename_i E1 M1 h1;refine wpIn_mono (zdw hF hcf u9 hc.1 (hro.imp (fun h=>h) fun h=>(by simp_all [noR,jk])) h1 hat) fun e a1 w1 hq=>?_
   obtain⟨rfl,BY,σ1,j1,ho1,hd1,AE,yE,hk1⟩:=hq;refine wpIn_mono (zdw hF hcf u9 hc.2 (hro.imp (fun h=>h) fun h=>(by simp_all [noR,jk])) hx AE) fun e a2 w2 hq=>?_
   exact hq.trans ho1 hd1 yE hk1
  ·rename_i hne;refine wpIn_mono (zdw hF hcf u9 hc.1 (hro.imp (fun h=>h) fun h=>(by simp_all [noR,jk])) hx hat) fun e a1 w1 hq=>?_
   obtain⟨rfl,hq⟩:=hq;cases ex with
   |normal=>grind
   |exit i=>exact⟨rfl,hq⟩
   |ret=>exact⟨rfl,hq⟩
 |.cond c x y,cc,fuel,E,E',M,M',ex,own,σ,j,a,w,hc,hro,hx,hat=>by
  cases cc<;>simp only[zae]at hc;obtain⟨hco,hca,hcb⟩:=hc;simp only[zaV]at hx;split at hx
  ·rename_i t ht;have hv:VC σ j (.bool t) (a.eval c):=zWl hat.yq.kZ hat.env hco ht;have he:a.eval c=.bool t:=by
    generalize a.eval c=v at hv;cases hv;rfl
   refine wpIn_cond he ?_;cases t with
   |true=>simp only[if_true]at hx ⊢;exact zdw hF hcf u9 hca (hro.imp (fun h=>h) fun h=>(by simp_all [noR,jk])) hx hat
   |false=>simp only[jI,if_false]at hx ⊢;exact zdw hF hcf u9 hcb (hro.imp (fun h=>h) fun h=>(by simp_all [noR,jk])) hx hat
  grind
 |.block id b,cc,fuel,E,E',M,M',ex,own,σ,j,a,w,hc,hro,hx,hat=>by
  cases cc<;>simp only[zae]at hc;rename_i id' b';obtain⟨rfl,hc⟩:=hc;simp only[zaV]at hx;refine wpIn_block ?_;split at hx
  ·rename_i i1 E1 M1 h1;refine wpIn_mono (zdw hF hcf u9 hc (hro.imp (fun h=>h) fun h=>(by grind [noR])) h1 hat) fun e a1 w1 hq=>?_
   obtain⟨rfl,hq⟩:=hq;split at hx
   ·rename_i hid;simp only[ji,ju]at hx;obtain⟨rfl,rfl,rfl⟩:=hx;simp only[zrk,Exit.inBlock,hid,if_true];exact⟨rfl,hq⟩
   ·rename_i hid;simp only[ji,ju]at hx;obtain⟨rfl,rfl,rfl⟩:=hx;simp only[zrk,Exit.inBlock,hid,if_false];exact⟨rfl,hq⟩
  ·rename_i hne;refine wpIn_mono (zdw hF hcf u9 hc (hro.imp (fun h=>h) fun h=>(by grind [noR])) hx hat) fun e a1 w1 hq=>?_
   obtain⟨rfl,hq⟩:=hq;cases ex with
   |exit i=>grind
   |normal=>exact⟨rfl,hq⟩
   |ret=>exact⟨rfl,hq⟩
 |.loop b,cc,fuel,E,E',M,M',ex,own,σ,j,a,w,hc,hro,hx,hat=>by
  cases cc<;>simp only[zae]at hc;rename_i live b';simp only[zaV]at hx;obtain⟨j0,hat0,hst0,hk0⟩:=zrx (live:=live) hat (jm _);refine zqk (fun m a1 w1=>∃E1 M1 BY σ1 j1,(∀b,BY b->own b)/\(∀d∈a1.defers,d∈a.defers\/∃r,d=zkw r/\own r/\w.heap.size<=r)/\iter (zaV cf fuel b') live M.length m E1 M1=some (ex,E',M')/\At BY σ1 j1 E1.get M1 ntmps a1 w1/\za2 own M.length σ j M w σ1 j1 M1 w1/\M.length<=M1.length)
   (m:=fuel) ⟨_,_,own,σ,j0,fun _ h=>h,fun d h=>.inl h,hx,hat0,hst0,hk0⟩ ?_
  rintro m a1 w1 ⟨E1,M1,BY,σ1,j1,ho1,hd1,hit,AE,yE,hk1⟩;cases m with
  |zero=>grind [iter]
  |succ m =>
   refine⟨m,rfl,?_⟩;simp only[iter]at hit;split at hit
   ·rename_i E2 M2 h2;refine wpIn_mono (zdw hF hcf u9 hc (hro.imp (fun h=>h) fun h=>(by grind [noR])) h2 AE) fun e a2 w2 hq=>?_
    obtain⟨rfl,own2,σ2,j2,ho2,hd2,Bm,yD,hk2⟩:=hq.trans ho1 hd1 yE hk1;obtain⟨j3,BH,Cj,hk3⟩:=zrx (live:=live) Bm hk2;exact⟨_,_,own2,σ2,j3,ho2,hd2,hit,BH,yD.trans (Cj.uB ho2),hk3⟩
   ·rename_i hne;refine wpIn_mono (zdw hF hcf u9 hc (hro.imp (fun h=>h) fun h=>(by grind [noR])) hit AE) fun e a2 w2 hq=>?_
    have hq:=hq.trans ho1 hd1 yE hk1;have he:=hq.1;subst he;cases ex with
    |normal=>grind
    |exit i=>exact hq
    |ret=>exact hq
 |.exit id,cc,fuel,E,E',M,M',ex,own,σ,j,a,w,hc,hro,hx,hat=>by
  cases cc<;>simp only[zae]at hc;subst hc;simp only[zaV,ji,ju]at hx;obtain⟨rfl,rfl,rfl⟩:=hx;exact wpIn_exit ⟨rfl,own,σ,j,fun _ h=>h,fun d h=>.inl h,hat,za2.refl,jm _⟩
 |.ret,cc,fuel,E,E',M,M',ex,own,σ,j,a,w,hc,hro,hx,hat=>by
  cases cc<;>simp only[zae]at hc;simp only[zaV,ji,ju]at hx;obtain⟨rfl,rfl,rfl⟩:=hx;exact wpIn_ret ⟨rfl,own,σ,j,fun _ h=>h,fun d h=>.inl h,hat,za2.refl,jm _⟩
 |.label l,cc,fuel,E,E',M,M',ex,own,σ,j,a,w,hc,hro,hx,hat=>by
  cases cc<;>simp only[zae]at hc;simp only[zaV,ji,ju]at hx;obtain⟨rfl,rfl,rfl⟩:=hx;exact wpIn_label ⟨rfl,own,σ,j,fun _ h=>h,fun d h=>.inl h,hat,za2.refl,jm _⟩
 |.goto l,cc,fuel,E,E',M,M',ex,own,σ,j,a,w,hc,hro,hx,hat=>by cases cc<;>simp only[zae]at hc
 |.scope b,cc,fuel,E,E',M,M',ex,own,σ,j,a,w,hc,hro,hx,hat=>by
  cases cc<;>simp only[zae]at hc;rename_i b' c';obtain⟨rfl,hc⟩:=hc;simp only[zaV]at hx;have hx':zaV cf fuel b' E M=some (ex,E',M'):=by
   grind
  refine zv5 (wpIn_mono (zdw hF hcf u9 hc (hro.imp (fun h=>h) fun h=>(by simp_all [noR,jk])) hx' hat) fun e a1 w1 hq=>⟨?_,hq⟩);obtain⟨rfl,_⟩:=hq;intro l;cases ex<;>simp[zrk]
 |.refuse b,cc,fuel,E,E',M,M',ex,own,σ,j,a,w,hc,hro,hx,hat=>by cases cc<;>simp only[zae]at hc
 |.rangeFunc f p x b,cc,fuel,E,E',M,M',ex,own,σ,j,a,w,hc,hro,hx,hat=>by
  cases cc<;>simp only[zae]at hc;rename_i f' v caps;have hro:F.round=none:=hro.resolve_right (by simp[noR]);exact zzE hF hcf hro hc.1 hc.2 (by simpa only[zaV]using hx) hat
end
end Go.Eng
