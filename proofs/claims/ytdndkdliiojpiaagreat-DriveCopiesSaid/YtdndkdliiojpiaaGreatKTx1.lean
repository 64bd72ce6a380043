/- This text proves what functions of this seat's program answer, run by the evaluator; no condition. -/
import Derived.Test.YtdndkdliiojpiaaGreatKTb10
set_option maxHeartbeats 8000000
set_option linter.unusedVariables false
set_option linter.unusedSimpArgs false
set_option linter.unusedSectionVars false
set_option maxRecDepth 10000
namespace Go.TrRun
open Go Go.Eng
theorem zL{α:Type}{l r:List α}{i:Nat}{x:α}(h:l.drop i=x::r):∃hi:i<l.length,l[i]=x/\l.drop (i+1)=r:=by
 have hi:i<l.length:=by
  have:=congrArg List.length h;simp at this;omega
 rw[js hi]at h;exact⟨hi,(jU h).1,(jU h).2⟩
theorem zUb{α:Type}{l:List α}{i:Nat}(h:l.drop i=[])(hi:i<=l.length):i=l.length:=by
 have:=congrArg List.length h;simp at this;omega
theorem zB{i:Nat}(h:i<4000000000000000000):IntKind.i64.wrap ((i:Int)+1)=((i+1:Nat):Int):=by
 rw[zTd _ (by omega) (by omega)];simp
def zu(l:List Int):List (List Cl):=l.map fun x=>[I x]
@[simp] theorem zfq(l:List Int):(zu l).length=l.length:=by simp[zu]
@[simp] theorem zBj(l m:List Int):zu (l++m)=zu l++zu m:=by simp[zu]
@[simp] theorem zay:zu []=[]:=rfl
@[simp] theorem zaP(x:Int)(l:List Int):zu (x::l)=[I x]::zu l:=rfl
@[simp] theorem zCt(l:List Int):(zu l).take l.length=zu l:=jx (by simp)
@[simp] theorem zBd{l:List Int}{i:Nat}(h:i<(zu l).length):(zu l)[i]=[I (l[i]'(by simpa using h))]:=by simp[zu]
@[simp] theorem zCu(t:List Int):(∀x,x∈zu t->x.length=1)<->True:=by simp[zu]
structure zk where
 lane:Int
 lo:Int
 hi:Int
 vlo:Int
 vhi:Int
 hold:Int
 deriving DecidableEq
structure Ego where
 slo:Int
 shi:Int
 vlo:Int
 vhi:Int
 deriving DecidableEq
structure zci where
 tick:Int
 jR:List zk
 ego:Ego
def ze(b:zk):List Cl:=[I b.lane,I b.lo,I b.hi,I b.vlo,I b.vhi,I b.hold]
def zI(l:List zk):List (List Cl):=l.map ze
def zG(k:zci):List Cl:=[I k.tick,.jb (zI k.jR),I k.ego.slo,I k.ego.shi,I k.ego.vlo,I k.ego.vhi]
@[simp] theorem zgg(l:List zk):(zI l).length=l.length:=by simp[zI]
@[simp] theorem znQ(l m:List zk):zI (l++m)=zI l++zI m:=by simp[zI]
@[simp] theorem zic:zI []=[]:=rfl
@[simp] theorem zCy(x:zk)(l:List zk):zI (x::l)=ze x::zI l:=rfl
@[simp] theorem zCw(l:List zk):(zI l).take l.length=zI l:=jx (by simp)
@[simp] theorem zBe{l:List zk}{i:Nat}(h:i<(zI l).length):(zI l)[i]=ze (l[i]'(by simpa using h)):=by simp[zI]
@[simp] theorem zDd(b:zk):(ze b).length=6:=rfl
@[simp] theorem zCF(b:zk):(ze b).take 6=ze b:=rfl
@[simp] theorem zDb(t:List zk):(∀x,x∈zI t->x.length=6)<->True:=by simp[zI]
theorem zvv(l:List zk)(hl:l.length<=100000000000):R L Cs zmP [.c (.jb (zI l))] []=some (.w (.c (sl 0 6 (zI l))),[some (own 6 (zI l))]):=by
 have hr:l.length*48<=140737488355328:=by omega
 have hL:Cs.lookup zmP=some (6,48,false):=by kernel_rfl
 rw[zrP rfl];simp[uw,hL,zuh,hr]
theorem z1I(k:zci)(hl:k.jR.length<=100000000000):R L Cs zZq [.a (zG k)] []=some (.w (.a (zG k)),[]):=by
 have hc:=zvv k.jR hl;rw[zUa zZz rfl];simp[zul,zG,hc]
abbrev mkB(rows:List (List Cl))(g:Nat):Option Blk:=some { box:=false,esz:=1,rows:=rows,gen:=g,fz:=true,ver:=g+1 }
abbrev byE(a g:Nat)(n:Nat)(x94:AV)(m k v i:Int):Env:=[(7,.w (.c (.slice a g 1 0 n none))),(10,.w (W i)),(94,x94),(95,.w (W m)),(96,.w (W k)),(9,.w (W v))]
def byS(v:Int)(k:Nat):Int:=IntKind.u8.wrap ((IntKind.u64.wrap v).fdiv (2 ^ min k IntKind.u64.bits))
theorem ZsA{n:Int}(h0:0<=n)(h1:n<18446744073709551616):IntKind.u64.wrap n=n:=by
 show IntKind.wrap .u64 n=n;simp only[IntKind.wrap,IntKind.bits,IntKind.signed];simp;omega
theorem ZsQ(A:Mem)(hA:zH (A.length+1) A=true)(rows:List (List Cl))(g n:Nat)(x94:AV)(hx:x94.below (A.length+1)=true)(m k v i:Int)(x:Option Blk)(hr:(rows.all fun r=>r.all (Eng.below (A.length+1)))=true):kD (A.length+1) (byE A.length g n x94 m k v i) (A++[mkB rows g,x])=A++[mkB rows g]:=by
 unfold kD;have ht:(A++[mkB rows g,x]).take (A.length+1)=A++[mkB rows g]:=by
  rw[List.take_append,jx (by omega)];simp
 rw[if_neg (by simp),ht,if_pos];simp only[jl];refine⟨?_,?_⟩
 ·simp only[byE,qz,List.all_nil,hx,Bool.and_true];simp[AV.below,WV.below,WV.cells,Eng.below,yq]
 ·unfold zH at hA ⊢;rw[qO,hA];simp[Blk.below]
theorem ZsP(A:Mem)(hA:zH (A.length+1) A=true)(rows:List (List Cl))(hr:rows.length+1<=100000000000)(hrb:(rows.all fun r=>r.all (Eng.below (A.length+1)))=true)(x94:AV)(hx:x94.below (A.length+1)=true)(m k v:Int)(i:Nat)(h1:i<=56) :
  Y L Cs ZrK (some [7,10,94,95,96,9]) (A.length+1) (byE A.length rows.length rows.length x94 m k v i) (A++[mkB rows rows.length]) =
    Y L Cs ZrK (some [7,10,94,95,96,9]) (A.length+1) (byE A.length (rows.length+1) (rows.length+1) x94 m k v (i-8)) (A++[mkB (rows++[[.int .u8 (byS v i)]]) (rows.length+1)]):=by
 have hw:IntKind.i64.wrap ((i:Int)-8)=i-8:=zTd _ (by omega) (by omega);have hu:IntKind.u64.wrap (i:Int)=i:=ZsA (by omega) (by omega);have h0:¬(i:Int)<0:=by omega
 have hrm:rows.length<=140737488355327:=by omega
 unfold byS;generalize hz:IntKind.u8.wrap ((IntKind.u64.wrap v).fdiv (2 ^ min i IntKind.u64.bits))=z;have hd:=fun x=>ZsQ A hA (rows++[[.int .u8 z]]) (rows.length+1) (rows.length+1) x94 hx m k v (i-8) x (by rw[qO,hrb];rfl)
 rw[ZfM ZrK.eq_1];simp only[byE]at hd ⊢;simp[-kD,hd,h0,hw,hu,hrm,hz,zX,zg]
def byL(v:Int):Nat->List (List Cl)
 |0=>[]
 |f+1=>[.int .u8 (byS v (8*f))]::byL v f
theorem Zsy(v:Int):∀f,(byL v f).length=f
 |0=>rfl
 |f+1=>by simp[byL,Zsy v f]
theorem Zsg(v:Int)(n:Nat):∀f,((byL v f).all fun r=>r.all (Eng.below n))=true
 |0=>rfl
 |f+1=>by rw[byL,qz,Zsg v n f];rfl
abbrev byX(a g:Nat)(n:Nat)(x94:AV)(m k v:Int):Env:=[(101,.w (Bo false)),(7,.w (.c (.slice a g 1 0 n none))),(10,.w (W (-8))),(94,x94),(95,.w (W m)),(96,.w (W k)),(9,.w (W v))]
theorem Zsx(A:Mem)(hA:zH (A.length+1) A=true)(x94:AV)(hx:x94.below (A.length+1)=true)(m k v:Int):∀(f:Nat) (rows:List (List Cl)),f<=8->rows.length+f<=100000000000->(rows.all fun r=>r.all (Eng.below (A.length+1)))=true ->
  Y L Cs ZrK (some [7,10,94,95,96,9]) (A.length+1) (byE A.length rows.length rows.length x94 m k v (8*f-8)) (A++[mkB rows rows.length]) =
    some (.exit 4,byX A.length (rows++byL v f).length (rows++byL v f).length x94 m k v,A++[mkB (rows++byL v f) (rows++byL v f).length])
 |0,rows,_,_,_=>by
  rw[ZfM ZrK.eq_1];simp[byL]
 |f+1,rows,hf,hl,hb=>by
  have e:8*((f+1:Nat):Int)-8=((8*f:Nat):Int):=by push_cast;omega
  have e2:((8*f:Nat):Int)-8=8*(f:Int)-8:=by push_cast;rfl
  rw[e,ZsP A hA rows (by omega) hb x94 hx m k v (8*f) (by omega),e2];have hlen:(rows++[[Cl.int .u8 (byS v (8*f))]]).length=rows.length+1:=by simp
  have ih:=Zsx A hA x94 hx m k v f (rows++[[Cl.int .u8 (byS v (8*f))]]) (by omega) (by rw[hlen];omega) (by rw[qO,hb];rfl);rw[hlen]at ih;rw[ih,jJ];rfl
abbrev bnE(a g:Nat)(n:Nat)(b gl:Nat)(l:List Int)(k:Nat):Env:=[(7,.w (.c (.slice a g 1 0 n none))),(95,.w (W l.length)),(94,.w (.c (.slice b gl 1 0 l.length none))),(96,.w (W k))]
theorem ZsE(E:Env)(A:Mem)(x:Option Blk):kD (A.length+1) E (A++[x])=A++[x]:=by
 unfold kD;rw[if_pos (by simp)]
def Zse:List Int->List (List Cl)
 |[]=>[]
 |v::l=>byL v 8++Zse l
theorem Zsj(A:Mem)(hA:zH (A.length+1) A=true)(b:Nat)(l:List Int)(hl:l.length<=10000000000)(bl:Blk)(hb:A[b]?=some (some bl))(hrl:bl.rows=zu l):∀(r:List Int) (k:Nat) (rows:List (List Cl)),l.drop k=r->k<=l.length->rows.length+8*r.length<=100000000000->(rows.all fun r=>r.all (Eng.below (A.length+1)))=true ->
  Y L Cs ZrO (some [7,95,94,96]) (A.length+1) (bnE A.length rows.length rows.length b bl.gen l k) (A++[mkB rows rows.length]) =
    some (.exit 2,(97,.w (Bo false))::[(7,.w (.c (.slice A.length (rows++Zse r).length 1 0 (rows++Zse r).length none))),(94,.w (.c (.slice b bl.gen 1 0 l.length none))),(95,.w (W l.length)),(96,.w (W l.length))],A++[mkB (rows++Zse r) (rows++Zse r).length])
 |[],k,rows,hd,hk,hr,hbl=>by
  have:k=l.length:=by
   have:=congrArg List.length hd;simp at this;omega
  subst this;rw[ZfM ZrO.eq_1];simp[Zse]
 |v::r,k,rows,hd,hk,hr,hbl=>by
  have hk1:k<l.length:=by
   have:=congrArg List.length hd;simp at this;omega
  have hkv:l[k]=v:=by
   rw[js hk1]at hd;exact(jU hd).1
  have hd':l.drop (k+1)=r:=by
   rw[js hk1]at hd;exact(jU hd).2
  have hbA:b<A.length:=(jK.1 hb).1;have hw:IntKind.i64.wrap ((k:Int)+1)=((k+1:Nat):Int):=by rw[zTd _ (by omega) (by omega)];push_cast;rfl
  have hci:(k:Int)<l.length:=by omega
  simp only[jk]at hr;have h2:=Zsx A hA (.w (.c (.slice b bl.gen 1 0 l.length none))) (by simp[AV.below,WV.below,WV.cells,Eng.below,yq];omega) l.length k v 8 rows (jm _) (by omega) hbl;have hbl2:((rows++byL v 8).all fun r=>r.all (Eng.below (A.length+1)))=true:=by rw[qO,hbl,Zsg];rfl
  have hlen:(rows++byL v 8).length=rows.length+8:=by rw[jv,Zsy]
  have ih:=Zsj A hA b l hl bl hb hrl r (k+1) (rows++byL v 8) hd' (by omega) (by rw[hlen];omega) hbl2;have e0:Zse (v::r)=byL v 8++Zse r:=rfl;rw[e0,<-jJ,<-ih];rw[show 8*((8:Nat):Int)-8=56 from rfl]at h2;generalize rows++byL v 8=vH at *;have hbM:(A++[mkB rows rows.length])[b]?=some (some bl):=by rw[jq hbA];exact hb
  have hrow:bl.rows[k]?=some [I v]:=by rw[hrl];simp[zu,hk1,hkv]
  rw[ZfM ZrO.eq_1];simp only[byE,byX,bnE]at h2 ⊢;simp[-kD,ZsE,hci,hbM,hrow,hw,h2]
def z9f(k:zci)(st lo hi:Int):zci×Bool :=
 if st≠k.tick then(k,true) else
 if max k.ego.vlo lo>min k.ego.vhi hi then(k,false) else({ k with ego:={ k.ego with vlo:=max k.ego.vlo lo,vhi:=min k.ego.vhi hi } },true)
def Zag(k:zci)(st lo hi:Int):zci×Bool :=
 if st≠k.tick then(k,true) else
 if max k.ego.slo lo>min k.ego.shi hi then(k,false) else({ k with ego:={ k.ego with slo:=max k.ego.slo lo,shi:=min k.ego.shi hi } },true)
def zM5(r:zci×Bool):AV:=.t [.a (zG r.1),Bo r.2]
theorem Za4(k:zci)(hl:k.jR.length<=100000000000)(st lo hi:Int):R L Cs z9X [.a (zG k),.a [I st,I lo,I hi]] []=some (zM5 (z9f k st lo hi),[]):=by
 have hc:=z1I k hl;simp only[zG]at hc;rw[zUa z90 rfl];by_cases h:st=k.tick
 ·by_cases h2:min k.ego.vhi hi<max k.ego.vlo lo
  ·simp[z8l,zG,hc,h,h2,z9f,zM5]
  ·simp[z8l,zG,hc,h,h2,z9f,zM5]
 ·simp[z8l,zG,hc,h,z9f,zM5]
theorem Zbi(k:zci)(hl:k.jR.length<=100000000000)(st lo hi:Int):R L Cs Zz [.a (zG k),.a [I st,I lo,I hi]] []=some (zM5 (Zag k st lo hi),[]):=by
 have hc:=z1I k hl;simp only[zG]at hc;rw[zUa ZI rfl];by_cases h:st=k.tick
 ·by_cases h2:min k.ego.shi hi<max k.ego.slo lo
  ·simp[z8p,zG,hc,h,h2,Zag,zM5]
  ·simp[z8p,zG,hc,h,h2,Zag,zM5]
 ·simp[z8p,zG,hc,h,Zag,zM5]
def Zr2(b:zk):List Int:=[b.lane,b.lo,b.hi,b.vlo,b.vhi,b.hold]
abbrev nbE(a:Nat)(l:List Int)(n:Nat)(bs:List zk)(k:Nat):Env:=[(4,.w (.c (.slice a n 1 0 n none))),(72,.w (W k)),(71,.w (W bs.length)),(70,.w (.c (.jb (zI bs))))]
abbrev nbB(rows:List (List Cl))(n:Nat):Blk:={ box:=false,esz:=1,rows:=rows,gen:=n,fz:=false,ver:=n }
theorem ZsJ(A:Mem)(hA:zH (A.length+2) A=true)(z b:Blk)(hz:z.box=false)(hb:b.box=false)(x y:Option Blk)(n:Nat)(m k:Int)(rs:List (List Cl)):kD (A.length+2) [(4,.w (.c (.slice A.length n 1 0 n none))),(72,.w (W k)),(71,.w (W m)),(70,.w (.c (.jb rs)))] (A++[some b,some z,x,y])=A++[some b,some z]:=by
 unfold kD;have ht:(A++[some b,some z,x,y]).take (A.length+2)=A++[some b,some z]:=by
  rw[List.take_append,jx (by omega)];simp
 rw[if_neg (by simp),ht,if_pos];simp only[jl];refine⟨?_,?_⟩
 ·simp[AV.below,WV.below,WV.cells,Eng.below,yq]
 ·unfold zH at hA ⊢;rw[qO,hA];simp[Blk.below,hz,hb]
theorem ZsI(A:Mem)(hA:zH (A.length+2) A=true)(z:Blk)(hz:z.box=false)(bs:List zk)(hbs:bs.length<=1000000000)(k:Nat)(hk:k<bs.length)(l:List Int)(hl:l.length+6<=10000000000) :
  Y L Cs ZrL (some [4,72,71,70]) (A.length+2) (nbE A.length l l.length bs k) (A++[some (nbB (zu l) l.length),some z]) =
    Y L Cs ZrL (some [4,72,71,70]) (A.length+2) (nbE A.length l (l.length+6) bs (k+1)) (A++[some (nbB (zu (l++Zr2 bs[k])) (l.length+6)),some z]):=by
 have hw:IntKind.i64.wrap ((k:Int)+1)=((k+1:Nat):Int):=by rw[zTd _ (by omega) (by omega)];push_cast;rfl
 have hrm:(l.length+6)*8<=140737488355328:=by omega
 have hci:(k:Int)<bs.length:=by omega
 have hd:=fun b hb x y=>ZsJ A hA z b hz hb x y (l.length+6) bs.length (k+1) (zI bs)
 have u6:zu (l++Zr2 bs[k])=zu l++[[I bs[k].lane],[I bs[k].lo],[I bs[k].hi],[I bs[k].vlo],[I bs[k].vhi],[I bs[k].hold]]:=by simp[zu,Zr2]
 rw[u6,ZfM ZrL.eq_1];simp only[zI]at hd;simp[-kD,hci,hw,hrm,hk,zI,ze,zX,zg,hd];rfl
theorem Zsi(A:Mem)(hA:zH (A.length+2) A=true)(z:Blk)(hz:z.box=false)(bs:List zk)(hbs:bs.length<=1000000000):∀(r:List zk) (k:Nat) (l:List Int),bs.drop k=r->k<=bs.length->l.length+6*r.length<=10000000000 ->
  Y L Cs ZrL (some [4,72,71,70]) (A.length+2) (nbE A.length l l.length bs k) (A++[some (nbB (zu l) l.length),some z]) =
    some (.exit 0,(73,.w (Bo false))::nbE A.length l (l++r.flatMap Zr2).length bs bs.length,A++[some (nbB (zu (l++r.flatMap Zr2)) (l++r.flatMap Zr2).length),some z])
 |[],k,l,hd,hk,hl=>by
  have:k=bs.length:=by
   have:=congrArg List.length hd;simp at this;omega
  subst this;rw[ZfM ZrL.eq_1];simp
 |b::r,k,l,hd,hk,hl=>by
  have hk1:k<bs.length:=by
   have:=congrArg List.length hd;simp at this;omega
  rw[js hk1]at hd;obtain⟨hb,hd'⟩:=jU hd;simp only[jk]at hl;have hlen:(l++Zr2 b).length=l.length+6:=by simp[Zr2]
  have ih:=Zsi A hA z hz bs hbs r (k+1) (l++Zr2 b) hd' (by omega) (by rw[hlen];omega);rw[ZsI A hA z hz bs hbs k hk1 l (by omega),hb];rw[hlen]at ih;rw[ih,j9,jJ]
def zgQ(a b:Int):Int:=if a<b then -1 else if b<a then 1 else 0
theorem zpH(a:Int):R L Cs zlc [W a] []=some (.w (Bo false),[]):=by
 rw[zUa zle rfl];simp[zfU]
theorem zjw(a:Int):R L Cs zi5 [W a] []=some (.w (Bo false),[]):=by
 rw[zUa zi9 rfl];simp[ze6]
theorem zsr(a b:Int):R L Cs zi6 [W a,W b] []=some (.w (W (zgQ a b)),[]):=by
 rw[zUa zja rfl];have h1:=zpH a;have h2:=zpH b;by_cases h:a<b
 ·simp[zb3,h1,h2,h,zgQ]
 ·by_cases h':b<a
  ·simp[zb3,h1,h2,h,h',zgQ]
  ·simp[zb3,h1,h2,h,h',zgQ]
theorem zp1(a b:Int):R L Cs zhQ [W a,W b] []=some (.w (W (zgQ a b)),[]):=by
 rw[zUa zhS rfl];have h1:=zjw a;have h2:=zjw b;by_cases h:a<b
 ·simp[zbq,h1,h2,h,zgQ]
 ·by_cases h':b<a
  ·simp[zbq,h1,h2,h,h',zgQ]
  ·simp[zbq,h1,h2,h,h',zgQ]
theorem zBq(l:List Int)(hl:l.length<=1000):Y L Cs zab (some [7,6,3,8]) 0 [(7,.w (W l.length)),(6,.w (.c (.jb (zu l)))),(3,.w (W 0)),(8,.w (W (0:Nat)))] [] =
  some (match l.findIdx? (fun x=>x !=0)with |some i=>(.ret,[(2,.w (W ((l[i]?).getD 0)))],[]) |none=>(.exit 0,[(9,.w (Bo false)),(3,.w (W 0)),(6,.w (.c (.jb (zu l)))),(7,.w (W l.length)),(8,.w (W l.length))],[])):=by
 refine zxf l (fun i=>[(7,.w (W l.length)),(6,.w (.c (.jb (zu l)))),(3,.w (W 0)),(8,.w (W i))]) _ _ _ _ ?_ ?_ ?_
 ·intro i h hp;have hw:=zB (i:=i) (by omega);simp at hp;rw[ZfM zab.eq_1];simp[h,hw,hp]
 ·intro i h hp;rw[ZfM zab.eq_1];simp[h,hp]
 ·rw[ZfM zab.eq_1];simp
theorem zA0(x y:Int):R L Cs zob [.c (.jb (zu [x,y]))] []=some (.w (W (if x≠0 then x else y)),[]):=by
 have h:=zBq [x,y] (by simp);simp only[jg,zaP,zay,jk,jo]at h;rw[zUa zow rfl];by_cases hx:x=0
 ·by_cases hy:y=0
  ·simp[hx,hy,vX]at h;simp[zfw,h,hx,hy]
  ·have hb:(y !=0)=true:=by simp[hy]
   simp[hx,hy,hb,vX]at h;simp[zfw,h,hx,hy]
 ·have hb:(x !=0)=true:=by simp[hx]
  simp[hx,hb,vX]at h;simp[zfw,h,hx]
def ziK(a b:zk):Int:=if zgQ a.lane b.lane≠0 then zgQ a.lane b.lane else zgQ a.lo b.lo
theorem zrR(b:zk):R L Cs zct [.a (ze b)] []=some (.w (Bo (decide (b.hi<b.lo))),[]):=by
 rw[zUa zp6 rfl];simp[zhH,ze]
theorem zop(a b:zk):R L Cs zdc [.a (ze a),.a (ze b)] []=some (.w (W (ziK a b)),[]):=by
 have h:=zA0 (zgQ a.lane b.lane) (zgQ a.lo b.lo);have h1:=zsr a.lane b.lane;have h2:=zp1 a.lo b.lo;simp only[zaP,zay]at h;rw[zUa zp5 rfl];simp[zhG,ze,h1,h2,h,ziK,zX]
theorem zpv(l:List Int)(x:Int)(hl:l.length<=100000):∀(r:List Int) (i:Nat),l.drop i=r->i<=l.length ->
  (x∉r->∃E',Y L Cs za7 (some [7,1,0,8]) 0 [(7,.w (W l.length)),(1,.w (W x)),(0,.w (.c (.jb (zu l)))),(8,.w (W i))] []=some (.exit 0,E',[])) /\
  (x∈r->∃k:Nat,Y L Cs za7 (some [7,1,0,8]) 0 [(7,.w (W l.length)),(1,.w (W x)),(0,.w (.c (.jb (zu l)))),(8,.w (W i))] []=some (.ret,[(4,.w (W k))],[])/\l[k]?=some x/\∀m,i<=m->m<k->l[m]?≠some x):=by
 intro r;induction r with
 |nil =>
  intro i hd hi;obtain rfl:=zUb hd hi;refine⟨fun _=>⟨_,zhJ (r:=(.exit 0,[(9,.w (Bo false)),(0,.w (.c (.jb (zu l)))),(1,.w (W x)),(7,.w (W l.length)),(8,.w (W l.length))],[])) ?_ (by simp)⟩,fun h=>by simp at h⟩;simp[za7]
 |cons y r ih =>
  intro i hd hi;obtain⟨hil,hy,hd'⟩:=zL hd;obtain⟨ih1,ih2⟩:=ih (i+1) hd' hil;have hw:=zB (i:=i) (by omega);by_cases hxy:x=y
  ·refine⟨fun h=>by simp[hxy]at h,fun _=>⟨i,zhJ ?_ (by simp),?_,?_⟩⟩
   ·have hb:(x==y)=true:=by simp[hxy]
    simp[za7,hil,hy,hb]
   ·rw[jr hil,hy,hxy]
   ·intro m h1 h2;omega
  ·have hb:(x==y)=false:=by simp[hxy]
   have AH:Y L Cs za7 (some [7,1,0,8]) 0 [(7,.w (W l.length)),(1,.w (W x)),(0,.w (.c (.jb (zu l)))),(8,.w (W i))] []=Y L Cs za7 (some [7,1,0,8]) 0 [(7,.w (W l.length)),(1,.w (W x)),(0,.w (.c (.jb (zu l)))),(8,.w (W (i+1:Nat)))] []:=by
    rw[zrL];simp[za7,hil,hy,hb,hw]
   rw[AH];refine⟨fun h=>ih1 (fun h'=>h (jI _ h')),fun h=>?_⟩;have h:x∈r:=by rcases jQ.1 h with h |h;exact absurd h hxy;exact h
   obtain⟨k,h1,h2,h3⟩:=ih2 h;refine⟨k,h1,h2,fun m h4 h5=>?_⟩;rcases Nat.eq_or_lt_of_le h4 with rfl|h6
   ·rw[jr hil,hy];intro h;exact hxy (Option.some.inj h).symm
   ·exact h3 m h6 h5
theorem znC(l:List Int)(x:Int)(hl:l.length<=100000):R L Cs zli [.c (.jb (zu l)),W x] []=some (.w (Bo (decide (x∈l))),[]):=by
 obtain⟨h1,h2⟩:=zpv l x hl l 0 rfl (jp _);simp only[jg]at h1 h2;have key:∃k:Int,R L Cs zf1 [.c (.jb (zu l)),W x] []=some (.w (W k),[])/\(decide (0<=k)=decide (x∈l)):=by
  by_cases h:x∈l
  ·obtain⟨k,hk,_,_⟩:=h2 h;refine⟨k,?_,by simp[h]⟩;rw[zUa zeL rfl];simp[zcI,hk]
  ·obtain⟨E',hE⟩:=h1 h;refine⟨-1,?_,by simp[h]⟩;rw[zUa zeL rfl];simp[zcI,hE]
 obtain⟨k,hk,hd⟩:=key;rw[zUa zlu rfl];simp[zeW,hk,hd]
structure zfn where
 kind:Int
 pts:List (Int×Int)
 half:Int
 yd:Int
 next:List Int
 len:Int
structure zCP where
 lane:Int
 lo:Int
 hi:Int
 Cd:Int
 ends:Int
 yd:Int
structure zD where
 version:Int
 jd:List zfn
 qV:List (List Cl)
 signals:List (List Cl)
 kW:List zCP
def zo(l:zfn):List Cl:=[I l.kind,.jb (l.pts.map fun p=>[I p.1,I p.2]),I l.half,I l.yd,.jb (zu l.next)]
def zaL(w:zCP):List Cl:=[I w.lane,I w.lo,I w.hi,I w.Cd,I w.ends,I w.yd]
def zf(m:zD):List Cl:=[I m.version,.jb (m.jd.map zo),.jb m.qV,.jb m.signals,.jb (m.kW.map zaL)]
def zes(x:Int):Nat->List zfn->List Int
 |_,[]=>[]
 |k,l::ls=>if x∈l.next then(k:Int)::zes x (k+1) ls else zes x (k+1) ls
theorem zvG(m:zD)(x:Int)(hn:m.jd.length<=100)(hx:∀l∈m.jd,l.next.length<=1000):∀(r:List zfn) (i:Nat) (out:List Int),m.jd.drop i=r->i<=m.jd.length->out.length<=i ->
  Y L Cs zdU (some [5,11,10,9,1]) 3 [(5,.w (.c (sl 2 1 (zu out)))),(11,.w (W i)),(10,.w (W m.jd.length)),(9,.w (.c (.jb (m.jd.map zo)))),(1,.w (W x))] [some { box:=true,esz:=5,rows:=[zf m],gen:=0,fz:=false,ver:=0 },some { box:=false,esz:=1,rows:=[],gen:=0,fz:=false,ver:=0 },some (own 1 (zu out))] =
    some (.exit 0,[(12,.w (Bo false)),(5,.w (.c (sl 2 1 (zu (out++zes x i r))))),(11,.w (W m.jd.length)),(10,.w (W m.jd.length)),(9,.w (.c (.jb (m.jd.map zo)))),(1,.w (W x))],[some { box:=true,esz:=5,rows:=[zf m],gen:=0,fz:=false,ver:=0 },some { box:=false,esz:=1,rows:=[],gen:=0,fz:=false,ver:=0 },some (own 1 (zu (out++zes x i r)))]):=by
 intro r;induction r with
 |nil =>
  intro i out hd hi ho;obtain rfl:=zUb hd hi;refine zhJ ?_ (by simp);simp[zdU,zes]
 |cons l r ih =>
  intro i out hd hi ho;obtain⟨hil,hl,hd'⟩:=zL hd;have hw:=zB (i:=i) (by omega);have hc:=znC l.next x (by have:=hx l (by rw[<-hl];exact jf hil);omega);have ku:(out.length+1)*8<=140737488355328:=by omega
  by_cases hb:x∈l.next
  ·have y8:=ih (i+1) (out++[(i:Int)]) hd' hil (by simp;omega);rw[zes,if_pos hb,show out++(i:Int)::zes x (i+1) r=(out++[(i:Int)])++zes x (i+1) r by simp,<-y8,zrL];simp[hb]at hc;simp[zdU,hil,hl,zo,zf,hc,hw,ku]
  ·have y8:=ih (i+1) out hd' hil (by omega);rw[zes,if_neg hb,<-y8,zrL];simp[hb]at hc;simp[zdU,hil,hl,zo,zf,hc,hw]
theorem zvT(m:zD)(x:Int)(hn:m.jd.length<=100)(hx:∀l∈m.jd,l.next.length<=1000):R L Cs zrg [.a (zf m),W x] []=some (.w (.c (.jb (zu (zes x 0 m.jd)))),[]):=by
 have h:=zvG m x hn hx m.jd 0 [] rfl (jp _) (jp _);simp only[jg,je,zf,zay,sl,own,jo,zfq]at h;rw[zUa zrW rfl];simp[zis,zf,h]
theorem zAo(l:List Int)(x:Int)(hl:l.length<=100000):∀(r:List Int) (i:Nat),l.drop i=r->i<=l.length ->
  (x∉r->Y L Cs zaT (some [0,1,5]) 0 [(0,.w (.c (.jb (zu l)))),(1,.w (W x)),(5,.w (W i))] []=some (.exit 0,[(9,.w (Bo false)),(1,.w (W x)),(0,.w (.c (.jb (zu l)))),(5,.w (W l.length))],[])) /\
  (x∈r->Y L Cs zaT (some [0,1,5]) 0 [(0,.w (.c (.jb (zu l)))),(1,.w (W x)),(5,.w (W i))] []=some (.ret,[(4,.w (Bo true))],[])):=by
 intro r;induction r with
 |nil =>
  intro i hd hi;obtain rfl:=zUb hd hi;refine⟨fun _=>zhJ ?_ (by simp),fun h=>by simp at h⟩;simp[zaT]
 |cons y r ih =>
  intro i hd hi;obtain⟨hil,hy,hd'⟩:=zL hd;obtain⟨ih1,ih2⟩:=ih (i+1) hd' hil;have hw:=zB (i:=i) (by omega);by_cases hxy:y=x
  ·refine⟨fun h=>by simp[hxy]at h,fun _=>zhJ ?_ (by simp)⟩;have hb:(y==x)=true:=by simp[hxy]
   simp[zaT,hil,hy,hb]
  ·have hb:(y==x)=false:=by simp[hxy]
   have AH:Y L Cs zaT (some [0,1,5]) 0 [(0,.w (.c (.jb (zu l)))),(1,.w (W x)),(5,.w (W i))] []=Y L Cs zaT (some [0,1,5]) 0 [(0,.w (.c (.jb (zu l)))),(1,.w (W x)),(5,.w (W (i+1:Nat)))] []:=by
    rw[zrL];simp[zaT,hil,hy,hb,hw]
   rw[AH];refine⟨fun h=>ih1 (fun h'=>h (jI _ h')),fun h=>ih2 ?_⟩;rcases jQ.1 h with h|h
   ·exact absurd h.symm hxy
   ·exact h
theorem zAX(l:List Int)(x:Int)(hl:l.length<=100000):R L Cs zmb [.c (.jb (zu l)),W x] []=some (.w (Bo (decide (x∈l))),[]):=by
 obtain⟨h1,h2⟩:=zAo l x hl l 0 rfl (jp _);simp only[jg]at h1 h2;rw[zUa zmu rfl];by_cases h:x∈l
 ·simp[zdY,h2 h,h]
 ·simp[zdY,h1 h,h]
theorem zqI(m:zD)(x:Int)(hn:m.jd.length<=100)(hx:∀l∈m.jd,l.next.length<=1000):∀(r:List zfn) (i:Nat) (out:List Int),m.jd.drop i=r->i<=m.jd.length->out.length<=i ->
  Y L Cs zbI (some [5,6,2,1]) 3 [(5,.w (.c (sl 2 1 (zu out)))),(6,.w (W i)),(2,.w (Pt 0)),(1,.w (W x))] [some { box:=true,esz:=5,rows:=[zf m],gen:=0,fz:=false,ver:=0 },some { box:=false,esz:=1,rows:=[],gen:=0,fz:=false,ver:=0 },some (own 1 (zu out))] =
    some (.exit 0,[(11,.w (Bo false)),(5,.w (.c (sl 2 1 (zu (out++zes x i r))))),(6,.w (W m.jd.length)),(2,.w (Pt 0)),(1,.w (W x))],[some { box:=true,esz:=5,rows:=[zf m],gen:=0,fz:=false,ver:=0 },some { box:=false,esz:=1,rows:=[],gen:=0,fz:=false,ver:=0 },some (own 1 (zu (out++zes x i r)))]):=by
 intro r;induction r with
 |nil =>
  intro i out hd hi ho;obtain rfl:=zUb hd hi;refine zhJ ?_ (by simp);simp[zbI,zes,zf]
 |cons l r ih =>
  intro i out hd hi ho;obtain⟨hil,hl,hd'⟩:=zL hd;have hw:=zB (i:=i) (by omega);have hc:=zAX l.next x (by have:=hx l (by rw[<-hl];exact jf hil);omega);have ku:(out.length+1)*8<=140737488355328:=by omega
  by_cases hb:x∈l.next
  ·have y8:=ih (i+1) (out++[(i:Int)]) hd' hil (by simp;omega);rw[zes,if_pos hb,show out++(i:Int)::zes x (i+1) r=(out++[(i:Int)])++zes x (i+1) r by simp,<-y8,zrL];simp[hb]at hc;simp[zbI,hil,hl,zo,zf,hc,hw,ku]
  ·have y8:=ih (i+1) out hd' hil (by omega);rw[zes,if_neg hb,<-y8,zrL];simp[hb]at hc;simp[zbI,hil,hl,zo,zf,hc,hw]
theorem zpG(m:zD)(x:Int)(hn:m.jd.length<=100)(hx:∀l∈m.jd,l.next.length<=1000):R L Cs zjP [.a (zf m),W x] []=some (.w (.c (.jb (zu (zes x 0 m.jd)))),[]):=by
 have h:=zqI m x hn hx m.jd 0 [] rfl (jp _) (jp _);simp only[jg,je,zf,zay,sl,own,jo,zfq]at h;rw[zUa zkb rfl];simp[zeo,zf,h]
def goF(m:zD):Int->List Int->Bool
 |_,[]=>true
 |a,x::xs=>decide (x∈((m.jd[a.toNat]?).map zfn.next).getD [])&&goF m x xs
structure zvM(m:zD):Prop where
 jd:m.jd.length<=14
 next:∀l∈m.jd,l.next.length<=10
 valid:∀l∈m.jd,∀x∈l.next,0<=x/\x<m.jd.length
theorem zwq(m:zD)(h:zvM m)(l:List Int)(hl:l.length<=1000):∀(r:List Int) (i:Nat) (a:Int),l.drop i=r->i<=l.length->0<=a->a<m.jd.length ->
  (goF m a r=true->∃b,Y L Cs za8 (some [6,51,50,2,52]) 1 [(6,.w (W a)),(51,.w (W l.length)),(50,.w (.c (.jb (zu l)))),(2,.w (Pt 0)),(52,.w (W i))] [some { box:=true,esz:=5,rows:=[zf m],gen:=0,fz:=false,ver:=0 }]=some (.exit 0,[(53,.w (Bo false)),(6,.w (W b)),(2,.w (Pt 0)),(50,.w (.c (.jb (zu l)))),(51,.w (W l.length)),(52,.w (W l.length))],[some { box:=true,esz:=5,rows:=[zf m],gen:=0,fz:=false,ver:=0 }])) /\
  (goF m a r=false->Y L Cs za8 (some [6,51,50,2,52]) 1 [(6,.w (W a)),(51,.w (W l.length)),(50,.w (.c (.jb (zu l)))),(2,.w (Pt 0)),(52,.w (W i))] [some { box:=true,esz:=5,rows:=[zf m],gen:=0,fz:=false,ver:=0 }]=some (.ret,[(4,.w (W 13))],[some { box:=true,esz:=5,rows:=[zf m],gen:=0,fz:=false,ver:=0 }])):=by
 intro r;induction r with
 |nil =>
  intro i a hd hi h1 h2;obtain rfl:=zUb hd hi;refine⟨fun _=>⟨a,zhJ ?_ (by simp)⟩,fun h=>by simp[goF]at h⟩;simp[za8]
 |cons x r ih =>
  intro i a hd hi h1 h2;obtain⟨hil,hx,hd'⟩:=zL hd;have hw:=zB (i:=i) (by omega);have hal:a.toNat<m.jd.length:=by omega
  have kZ:((m.jd[a.toNat]?).map zfn.next).getD []=(m.jd[a.toNat]).next:=by rw[jr hal];rfl
  have vT:m.jd[a.toNat]∈m.jd:=jf hal;have hc:=znC (m.jd[a.toNat]).next x (by have:=h.next _ vT;omega);by_cases hb:x∈(m.jd[a.toNat]).next
  ·obtain⟨v1,v2⟩:=h.valid _ vT x hb;obtain⟨ih1,ih2⟩:=ih (i+1) x hd' hil v1 v2;have AH:Y L Cs za8 (some [6,51,50,2,52]) 1 [(6,.w (W a)),(51,.w (W l.length)),(50,.w (.c (.jb (zu l)))),(2,.w (Pt 0)),(52,.w (W i))] [some { box:=true,esz:=5,rows:=[zf m],gen:=0,fz:=false,ver:=0 }]=Y L Cs za8 (some [6,51,50,2,52]) 1 [(6,.w (W x)),(51,.w (W l.length)),(50,.w (.c (.jb (zu l)))),(2,.w (Pt 0)),(52,.w (W (i+1:Nat)))] [some { box:=true,esz:=5,rows:=[zf m],gen:=0,fz:=false,ver:=0 }]:=by
    rw[zrL];simp[hb]at hc;simp[za8,hil,hx,zf,zo,hc,hw,h1,h2,hal]
   rw[AH];simp only[goF,kZ,hb,decide_true,uA];exact⟨ih1,ih2⟩
  ·refine⟨fun hg=>by simp[goF,kZ,hb]at hg,fun _=>zhJ ?_ (by simp)⟩;simp[hb]at hc;simp[za8,hil,hx,zf,zo,hc,hw,h1,h2,hal]
def zdA(m:zD):List Int->Int
 |[]=>13
 |x::t=>if 8<t.length+1 then 13 else if x<0 then 13 else if(m.jd.length:Int)<=x then 13 else if zes x 0 m.jd≠[] then 13 else if goF m x t then 0 else 13
theorem zos(m:zD)(h:zvM m)(hck:R L Cs zjl [.a (zf m)] []=some (.w (W 0),[]))(l:List Int)(hl:l.length<=1000):R L Cs znv [.a (zf m),.c (.jb (zu l))] []=some (.w (W (zdA m l)),[]):=by
 have BX:=zwq m h;simp only[zf]at hck BX;rw[zUa znF rfl];cases l with
 |nil=>simp[zbl,zf,hck,zdA]
 |cons x t =>
 have hne:((t.length:Int)+1==0)=false:=by simp;omega
 have Ct:=zvT m x (by have:=h.jd;omega) (fun l hl=>by have:=h.next l hl;omega);simp only[zf]at Ct;simp only[zdA];by_cases h8:8<t.length+1
 ·have h8':(8:Int)<(t.length:Int)+1:=by omega
  simp[zbl,zf,hck,hne,h8,h8']
 have h8':¬(8:Int)<(t.length:Int)+1:=by omega
 rw[if_neg h8];by_cases h0:x<0
 ·simp[zbl,zf,hck,hne,h8',h0]
 by_cases hn:(m.jd.length:Int)<=x
 ·simp[zbl,zf,hck,hne,h8',h0,hn]
 by_cases hb:zes x 0 m.jd=[]
 ·rw[hb]at Ct;simp only[zay]at Ct;obtain⟨l1,l2⟩:=BX t (by simp at hl;omega) t 0 x rfl (jp _) (by omega) (by omega);simp only[jg]at l1 l2;have q1:(1:Int)<=(t.length:Int)+1:=by omega
  have q2:(0:Int)<=(t.length:Int)+1:=by omega
  have q3:1+t.length<=t.length+1:=by omega
  cases hg:goF m x t with
  |true =>
   obtain⟨b,l1⟩:=l1 hg;simp[zbl,zf,hck,hne,h8',h0,hn,hb,Ct,l1,q1,q2,q3]
  |false =>
   have l2:=l2 hg;simp[zbl,zf,hck,hne,h8',h0,hn,hb,Ct,l2,q1,q2,q3]
 ·have uO:0<(zes x 0 m.jd).length:=kN.2 hb;have Dt:(0:Int)<((zes x 0 m.jd).length:Int):=by omega
  simp[zbl,zf,hck,hne,h8',h0,hn,hb,Ct,uO,Dt]
def zeT(l:zfn):Cl:=.jb (l.pts.map fun p=>[I p.1,I p.2])
structure zcp(m:zD):Prop where
 small:zvM m
 chk:R L Cs zjl [.a (zf m)] []=some (.w (W 0),[])
 rchk:R L Cs zeE [.a (zf m)] []=some (.w (W 0),[])
 len:∀l∈m.jd,R L Cs zaw [.a [zeT l]] []=some (.w (W l.len),[])
 rlen:∀l∈m.jd,R L Cs zN [.a [zeT l]] []=some (.w (W l.len),[])
 Cj:∀l∈m.jd,1000<=l.len/\l.len<=1000000
 kind:∀l∈m.jd,l.kind=1\/l.kind=2\/l.kind=3
 yd:∀l∈m.jd,1<=l.yd/\l.yd<=2000
def z8(m:zD)(i:Int):Int:=if 0<=i then((m.jd[i.toNat]?).map zfn.len).getD 0 else 0
theorem zAV{m:zD}(h:zcp m){i:Nat}(hi:i<m.jd.length):R L Cs zkE [.a (zf m),W i] []=some (.w (W m.jd[i].len),[]):=by
 have hc:=h.len _ (jf hi);simp only[zeT]at hc;rw[zUa zou rfl];simp[zh5,zf,hi,zo,hc]
theorem zrQ{m:zD}(h:zcp m){i:Nat}(hi:i<m.jd.length):R L Cs zri [.a (zf m),W i] []=some (.w (W m.jd[i].len),[]):=by
 have hl:=zAV h hi;have hk:=h.chk;simp only[zf]at hl hk;have his:R L Cs zwZ [.a (zf m),W i] []=some (.w (Bo true),[]):=by
  rw[zUa zxi rfl];simp[znA,zf,hi,hk]
 simp only[zf]at his;rw[zUa zrY rfl];simp[ziu,zf,his,hl]
def zeR(k:Int):Int:=if k=1 then 2000 else if k=2 then 1000 else 300
def zif(k:Int):Int:=if k=1 then 30 else if k=2 then 20 else 100
def zd4(k:Int):Int:=if k=1 then 90 else if k=2 then 60 else 300
theorem znI:zaH L Cs 400 zgz [W 1] []=some (.t [W 2000,W 30,W 90],[])/\zaH L Cs 400 zgz [W 2] []=some (.t [W 1000,W 20,W 60],[])/\zaH L Cs 400 zgz [W 3] []=some (.t [W 300,W 100,W 300],[]):=⟨by kernel_rfl,by kernel_rfl,by kernel_rfl⟩
theorem zjg:zaH L Cs 400 zc1 [W 1] []=some (.t [W 2000,W 30,W 90],[])/\zaH L Cs 400 zc1 [W 2] []=some (.t [W 1000,W 20,W 60],[])/\zaH L Cs 400 zc1 [W 3] []=some (.t [W 300,W 100,W 300],[]):=⟨by kernel_rfl,by kernel_rfl,by kernel_rfl⟩
theorem zmo{k:Int}(h:k=1\/k=2\/k=3):R L Cs zgz [W k] []=some (.t [W (zeR k),W (zif k),W (zd4 k)],[]):=by
 rcases h with rfl|rfl|rfl
 ·exact zah.2 ⟨400,znI.1⟩
 ·exact zah.2 ⟨400,znI.2.1⟩
 ·exact zah.2 ⟨400,znI.2.2⟩
theorem zhv{k:Int}(h:k=1\/k=2\/k=3):R L Cs zc1 [W k] []=some (.t [W (zeR k),W (zif k),W (zd4 k)],[]):=by
 rcases h with rfl|rfl|rfl
 ·exact zah.2 ⟨400,zjg.1⟩
 ·exact zah.2 ⟨400,zjg.2.1⟩
 ·exact zah.2 ⟨400,zjg.2.2⟩
theorem zid{M:Mem}{r r':AV}(h:zoS M r=some r')(hb:r'.below 0=true):leave true 0 r M=some (r',[]):=by
 unfold leave;simp only[if_true,h];unfold finish;split
 ·rename_i h0;have:zbg M r.sls=[]:=kh.1 h0;rw[this]
 ·rw[if_pos (by rw[hb];simp[zH])];rfl
theorem zvj(M:Mem)(k:IntKind)(n:Int):zdR M (.int k n)=some (.int k n):=rfl
theorem zTV{M:Mem}{t:Int}{S x:Cl}{e:Ego}(h:zdR M S=some x)(hx:Eng.below 0 x=true):leave true 0 (.w (.a [I t,S,I e.slo,I e.shi,I e.vlo,I e.vhi])) M=some (.w (.a [I t,x,I e.slo,I e.shi,I e.vlo,I e.vhi]),[]) :=
 zid (by simp only[zoS,zn7,yL,h,zvj];rfl) (by show List.all [I t,x,I e.slo,I e.shi,I e.vlo,I e.vhi] (Eng.below 0)=true;simp only[qz,List.all_nil,hx];rfl)
def zTF(i:Nat)(l:zfn):zk:=⟨i,0,l.len,0,zeR l.kind,0⟩
def zTA:Nat->List zfn->List zk
 |_,[]=>[]
 |i,l::r=>zTF i l::zTA (i+1) r
abbrev zch(e:Ego):List Cl:=[I e.slo,I e.shi,I e.vlo,I e.vhi]
abbrev zTL(t:Int)(S:Cl)(e:Ego):List Cl:=[I t,S,I e.slo,I e.shi,I e.vlo,I e.vhi]
abbrev zFA:List Cl:=[I 0,.jc,I 0,I 0,I 0,I 0]
theorem ZnF{m:zD}(h:zcp m)(t:Int)(e:Ego)(j:Nat):∀(r:List zfn) (i:Nat) (out:List zk) (v:Nat) (G:Mem),m.jd.drop i=r->i<=m.jd.length->out.length=i->G[j]?=some (some (own 6 (zI out))) ->
  ∃v' G',G'[j]?=some (some (own 6 (zI (out++zTA i r))))/\Y L Cs zrB (some [23,22,6,21,3,7]) 4 [(23,.w (W i)),(22,.w (W m.jd.length)),(6,.w (Pt 2)),(21,.w (.c (.jb (m.jd.map zo)))),(3,.w (Pt 0)),(7,.w (Pt 3))] (bx 5 (zf m)::bx 4 (zch e)::bx 6 zFA::bxv v 6 (zTL t (.slice (j+4) out.length 6 0 out.length none) e)::G) =
   some (.exit 0,[(24,.w (Bo false)),(23,.w (W m.jd.length)),(22,.w (W m.jd.length)),(6,.w (Pt 2)),(21,.w (.c (.jb (m.jd.map zo)))),(3,.w (Pt 0)),(7,.w (Pt 3))],(bx 5 (zf m)::bx 4 (zch e)::bx 6 zFA::bxv v' 6 (zTL t (.slice (j+4) (out++zTA i r).length 6 0 (out++zTA i r).length none) e)::G')):=by
 intro r;induction r with
 |nil =>
  intro i out v G hd hi ho hG;obtain rfl:=zUb hd hi;refine⟨v,G,by simpa [zTA]using hG,?_⟩;rw[ZfM zrB.eq_1];simp[zTA]
 |cons l r ih =>
  intro i out v G hd hi ho hG;subst ho;obtain⟨hil,hl,hd'⟩:=zL hd;have vT:l∈m.jd:=by rw[<-hl];exact jf _
  have hw:=zB (i:=out.length) (by have:=h.small.jd;omega);have hjG:j<G.length:=(jK.1 hG).1;have hg:∀N:Mem,(G++N)[j]?=some (some (own 6 (zI out))):=fun N=>by rw[jq hjG,hG]
  have AD:∀(N:Mem) (x:Option Blk),(G++N).set j x=G.set j x++N:=fun N x=>uy _ _ hjG
  have hb:=zmo (h.kind l vT);have hL:=zrQ h hil;rw[hl]at hL;have ku:(out.length+1)*48<=140737488355328:=by have:=h.small.jd;omega
  obtain⟨v',G',h1,h2⟩:=ih (out.length+1) (out++[zTF out.length l]) (v+1) (G.set j (some (own 6 (zI (out++[zTF out.length l]))))++[bxv 1 5 (zo l),some (own 6 [ze (zTF out.length l)])]) hd' hil (by simp) (by rw[jq (by simpa using hjG),jY hjG]);have e1:out++zTA out.length (l::r)=(out++[zTF out.length l])++zTA (out.length+1) r:=by simp[zTA]
  refine⟨v',G',by rw[e1];exact h1,?_⟩;rw[e1,<-h2,ZfM zrB.eq_1];simp only[own,zgg,zf]at hg hL;have hdr:∀(E:Env) (x y z:Option Blk) (w g len:Nat) (N:Mem),kD 4 E (x::y::z::bxv w 6 (zTL t (.slice (j+4) g 6 0 len none) e)::N)=(x::y::z::bxv w 6 (zTL t (.slice (j+4) g 6 0 len none) e)::N):=by
   intro E x y z w g len N;unfold kD;split
   ·rfl
   ·rw[if_neg];simp[zH,Blk.below,Eng.below,yq]
  simp only[bxv,zTL]at hdr;simp[hil,hl,zo,hb,hL,zf,hw,hg,AD,ku,zg,hdr,zTF,ze,-kD]
theorem Zn6{m:zD}(h:zcp m)(t:Int)(e:Ego):R L Cs Zm1 [.a (zf m),W t,.a (zch e)] []=some (.w (.a (zG ⟨t,zTA 0 m.jd,e⟩)),[]):=by
 have hk:=h.chk;rw[zUa Zm5 rfl];have Dw:∃M' S v,Y L Cs zrB (some [23,22,6,21,3,7]) 4 [(23,.w (W 0)),(22,.w (W m.jd.length)),(6,.w (Pt 2)),(21,.w (.c (.jb (m.jd.map zo)))),(3,.w (Pt 0)),(7,.w (Pt 3))] [bx 5 (zf m),bx 4 (zch e),bx 6 zFA,bxv 1 6 (zTL t .jc e)] =
   some (.exit 0,[(24,.w (Bo false)),(23,.w (W m.jd.length)),(22,.w (W m.jd.length)),(6,.w (Pt 2)),(21,.w (.c (.jb (m.jd.map zo)))),(3,.w (Pt 0)),(7,.w (Pt 3))],bx 5 (zf m)::bx 4 (zch e)::bx 6 zFA::bxv v 6 (zTL t S e)::M') /\
   zdR (bx 5 (zf m)::bx 4 (zch e)::bx 6 zFA::bxv v 6 (zTL t S e)::M') S=some (.jb (zI (zTA 0 m.jd)))/\zdR (bx 5 (zf m)::bx 4 (zch e)::bxv 1 6 (zTL t S e)::bxv v 6 (zTL t S e)::M') S=some (.jb (zI (zTA 0 m.jd))):=by
  by_cases hne:m.jd=[]
  ·rw[hne];refine⟨[],.jc,1,?_,by simp[zdR,zTA],by simp[zdR,zTA]⟩;rw[ZfM zrB.eq_1];simp
  ·obtain⟨l,r,hl⟩:=vn hne;have hlen:0<m.jd.length:=by rw[hl];simp
   have h0:m.jd[0]=l:=by simp[hl]
   have vT:l∈m.jd:=by rw[hl];simp
   have hb:=zmo (h.kind l vT);have hL:=zrQ h hlen;rw[h0]at hL;obtain⟨v',G',h1,h2⟩:=ZnF h t e 2 r 1 [zTF 0 l] 2 [bxv 1 5 (zo l),some (own 6 [ze (zTF 0 l)]),some (own 6 [ze (zTF 0 l)])] (by rw[hl];rfl) (by omega) rfl rfl;have vh:zTA 0 m.jd=[zTF 0 l]++zTA 1 r:=by rw[hl];rfl
   refine⟨G',.slice 6 ([zTF 0 l]++zTA 1 r).length 6 0 ([zTF 0 l]++zTA 1 r).length none,v',?_,?_,?_⟩
   ·simp only[kg,jg,jk,jo,own,zf]at hL h2 ⊢;rw[<-h2,ZfM zrB.eq_1];have hw:IntKind.i64.wrap 1=1:=rfl;have hr:(0:Int)<(m.jd.length:Int):=by omega
    simp[hlen,h0,zo,hb,hL,hw,zg,zTF,ze,hr]
   ·rw[vh];simp[zdR,look,h1]
   ·rw[vh];simp[zdR,look,h1]
 obtain⟨M',S,v,h1,h2,h3⟩:=Dw;simp only[zf]at hk h1 h2;simp[zvB,zf,hk,h1,-leave];exact zTV h3 rfl
def zQ(kind lim:Int)(next:List Int)(a b c d len:Int):zfn:={ kind:=kind,pts:=[(a,b),(c,d)],half:=if kind=3 then 500 else 1500,yd:=lim,next:=next,len:=len }
def zaY(o a b:Int):List Cl:=[I o,.jb [[I 12,.jb [[I a]]],[I 5,.jb []],[I 9,.jb [[I b]]],[I 4,.jb []]]]
theorem zaZ(kind lim:Int)(next:List Int)(a b c d len:Int):R L Cs zmT [W kind,W lim,.c (.jb (zu next)),.c (.jb (zu [a,b,c,d]))] []=some (.w (.a (zo (zQ kind lim next a b c d len))),[]):=by
 rw[zUa zm4 rfl];have hw1:IntKind.i64.wrap 1=1:=rfl;have hw2:IntKind.i64.wrap 2=2:=rfl;have hw3:IntKind.i64.wrap 3=3:=rfl;have hw4:IntKind.i64.wrap 4=4:=rfl;have hw5:IntKind.i64.wrap 5=5:=rfl;have hy:∃M' S v,Y L Cs zco (some [10,8,0,3,9]) 2 [(10,.w (W 0)),(8,.w (Pt 0)),(0,.w (W kind)),(3,.w (.c (.jb (zu [a,b,c,d])))),(9,.w (Pt 1))] [bx 5 [I 0,.jc,I 0,I 0,.jc],bxv 1 5 [I kind,.jc,I 1500,I lim,.jb (zu next)]] =
   some (.exit 0,[(19,.w (Bo false)),(10,.w (W 4)),(8,.w (Pt 0)),(0,.w (W kind)),(3,.w (.c (.jb (zu [a,b,c,d])))),(9,.w (Pt 1))],bx 5 [I 0,.jc,I 0,I 0,.jc]::bxv v 5 [I kind,S,I 1500,I lim,.jb (zu next)]::M') /\
   (∀x y:Option Blk,zdR (x::y::M') S=some (.jb [[I a,I b],[I c,I d]])):=by
  refine⟨[some (own 2 [[I a,I b]]),some (own 2 [[I a,I b],[I c,I d]]),some (own 2 [[I c,I d]])],.slice 3 2 2 0 2 none,3,?_,?_⟩
  ·rw[ZfM zco.eq_1];simp[hw1,hw2,hw3,hw4,hw5,zg,zH];rw[ZfM zco.eq_1];simp[hw1,hw2,hw3,hw4,hw5,zg,zH];rw[ZfM zco.eq_1];simp[hw1,hw2,hw3,hw4,hw5,zg,zH]
  ·intro x y;simp[zdR,look]
 obtain⟨M',S,v,h1,h2⟩:=hy;simp only[zaP,zay]at h1;have hf:∀(M:Mem) (x y:Option Blk) (k2 h2 l2:Int),M=x::y::M'->zoS M (.w (.a [I k2,S,I h2,I l2,.jb (zu next)]))=some (.w (.a [I k2,.jb [[I a,I b],[I c,I d]],I h2,I l2,.jb (zu next)])):=by
  intro M x y k2 h2' l2 hM;subst hM;simp only[zoS,zn7,yL,h2 x y];rfl
 by_cases hk:kind=3
 ·subst hk;simp[zee,h1,-leave];exact zid (hf _ _ _ _ _ _ rfl) rfl
 ·have hb:(kind==3)=false:=by simp[hk]
  simp[zee,h1,hk,hb,-leave];have e:zo (zQ kind lim next a b c d len)=[I kind,.jb [[I a,I b],[I c,I d]],I 1500,I lim,.jb (zu next)]:=by simp[zo,zQ,hk]
  rw[e];exact zid (hf _ _ _ _ _ _ rfl) rfl
theorem zj1(o a b:Int):R L Cs zlr [W o,W a,W b] []=some (.w (.a (zaY o a b)),[]):=by
 rw[zUa zlH rfl];simp[ze2,zaY,zg,zX]
theorem zhR(n:Int):R L Cs zny [W n,W 16777216] []=some (.w (W (n % 16777216)),[]):=by
 rw[zUa znH rfl];have h1:0<=n->n.tmod 16777216=n % 16777216:=qx;have h2:n<0->n.tmod 16777216=-((-n) % 16777216):=fun hn=>by
  have e1:(-n).tmod 16777216=(-n) % 16777216:=qx (by omega);have e2:=Int.neg_tmod (-n) 16777216;rw[Int.neg_neg,e1]at e2;exact e2
 by_cases h:n.tmod 16777216<0
 ·have e:IntKind.i64.wrap (n.tmod 16777216+16777216)=n % 16777216:=by
   rw[zTd _ (by omega) (by omega)];omega
  simp[zeK,h,e]
 ·have e:n.tmod 16777216=n % 16777216:=by omega
  have h3:¬n % 16777216<0:=by omega
  simp[zeK,h3,e]
theorem Znn{N d:Int}(hN:0<=N/\N<16777216)(hd:0<d):IntKind.i64.wrap (N.tdiv d)=N.tdiv d:=by
 rw[qy hN.1];have h1:0<=N / d:=AB hN.1 (by omega);have h2:N / d<=N:=Int.ediv_le_self _ hN.1;exact zTd _ (by omega) (by omega)
theorem zE(N d e:Int)(hN:0<=N/\N<16777216)(hd:0<d)(he:0<e):0<=(N.tdiv d).tmod e/\(N.tdiv d).tmod e<e:=by
 rw[qy hN.1];have h1:0<=N / d:=AB hN.1 (by omega);rw[qx h1];exact⟨vS _ (by omega),uR _ he⟩
def zdK(l a b r:Int):List Cl:=[I l,I a,I b,I r]
def zfa(ps:List (List Cl))(s:Int):List Cl:=[.jb ps,I s]
def zy(k:Nat)(lim:Int):List zfn:=match k with
 |0=>[zQ 1 lim [] 0 0 60000 0 60000]
 |1 |2=>[zQ 1 lim [] 0 0 50000 0 50000,zQ 1 1500 [] 30000 (-20000) 30000 20000 40000]
 |3=>[zQ 1 lim [1,2] 0 0 30000 0 30000,zQ 1 1500 [] 30000 0 60000 0 30000,zQ 1 800 [] 30000 0 54000 10000 26000]
 |4=>[zQ 1 lim [2] 0 0 30000 0 30000,zQ 1 1500 [2] 6000 (-10000) 30000 0 26000,zQ 1 1500 [] 30000 0 60000 0 30000]
 |5=>[zQ 1 lim [1] 0 0 20000 0 20000,zQ 1 lim [] 20000 0 50000 0 30000,zQ 3 200 [] 35000 (-8000) 35000 8000 16000]
 |_=>[zQ 1 lim [1,2] 0 0 20000 0 20000,zQ 1 1500 [] 20000 0 50000 0 30000,zQ 1 1000 [] 20000 0 44000 10000 26000,zQ 2 700 [] 36000 (-12000) 36000 18000 30000]
def zO(k:Nat)(r:Int):List (List Cl):=match k with
 |0=>[]
 |1=>[zfa [zdK 0 28000 32000 r,zdK 1 18000 22000 (2-2*r)] 0]
 |2=>[zfa [zdK 0 28000 32000 r,zdK 1 18000 22000 (2-2*r)] 1]
 |3=>[]
 |4=>[zfa [zdK 0 25000 30000 1,zdK 1 20000 26000 0,zdK 2 0 5000 0] 0]
 |5=>[zfa [zdK 1 14000 16000 0,zdK 2 6000 10000 3] 0]
 |_=>[zfa [zdK 1 14000 18000 1,zdK 3 10000 14000 0] (if r=1 then 1 else 0),zfa [zdK 2 14000 21000 1,zdK 3 14500 23000 0] (if r=1 then 2 else 0)]
def zt(k:Nat)(r o1 o2 o3:Int):List (List Cl):=match k with
 |2=>[zaY o1 0 1]
 |6=>if r=1 then [zaY o2 1 3,zaY o3 2 3] else []
 |_=>[]
def zak(w b t:Int):List zCP:=if w=1 then [⟨0,10000,15000,b,b+20,t*200⟩] else []
def zq(k:Nat)(lim r o1 o2 o3 v:Int)(ws:List zCP):zD:={ version:=v,jd:=zy k lim,qV:=zO k r,signals:=zt k r o1 o2 o3,kW:=ws }
def zeC(j:Nat):Int:=match j with |0=>1500 |1=>600 |2=>1000 |_=>300
theorem zea(j:Nat)(hj:j<4):([[I 1500],[I 600],[I 1000],[I 300]]:List (List Cl))[j]?=some [I (zeC j)]:=by
 match j,hj with
 |0,_=>rfl
 |1,_=>rfl
 |2,_=>rfl
 |3,_=>rfl
theorem zdd(j:Nat)(h:j<([[I 1500],[I 600],[I 1000],[I 300]]:List (List Cl)).length):([[I 1500],[I 600],[I 1000],[I 300]]:List (List Cl))[j]=[I (zeC j)]:=by
 match j,h with
 |0,_=>rfl
 |1,_=>rfl
 |2,_=>rfl
 |3,_=>rfl
theorem zTw(k:Nat)(n:Int)(h7:(n % 16777216).tmod 7=k)(hk:k<7) :
  R L Cs zY [W n] []=some (.w (.a (zf (zq k (zeC (((n % 16777216).tdiv 7).tmod 4).toNat) (((n % 16777216).tdiv 28).tmod 2) (((n % 16777216).tdiv 28).tmod 31) (((n % 16777216).tdiv 56).tmod 31) (((n % 16777216).tdiv 56).tmod 17) (((n % 16777216).tdiv 28).tmod 5) (zak (((n % 16777216).tdiv 1736).tmod 3) (((n % 16777216).tdiv 5208).tmod 40) (((n % 16777216).tdiv 208320).tmod 3))))),[]):=by
 have hM:=zhR n;have hN:0<=n % 16777216/\n % 16777216<16777216:=by omega
 generalize n % 16777216=N at *;have wd:=fun(d:Int) (h:0<d)=>Znn (N:=N) (d:=d) hN h
 have w7:=wd 7 (by decide);have w28:=wd 28 (by decide);have w56:=wd 56 (by decide);have w1736:=wd 1736 (by decide);have w5208:=wd 5208 (by decide);have DI:=wd 208320 (by decide);have hj:=zE N 7 4 hN (by decide) (by decide);obtain⟨j,hje⟩:=jB hj.1;have hj4:j<4:=by omega
 have hj4':(j:Int)<4:=by omega
 have r2:=zE N 28 2 hN (by decide) (by decide);have b40:=zE N 5208 40 hN (by decide) (by decide);have t3:=zE N 208320 3 hN (by decide) (by decide);have hlg:=zea j hj4;have q0:=fun k lim a b c d=>zaZ k lim [] a b c d 0
 have q1:=fun k lim a b c d=>zaZ k lim [1] a b c d 0
 have q2:=fun k lim a b c d=>zaZ k lim [2] a b c d 0
 have q3:=fun k lim a b c d=>zaZ k lim [1,2] a b c d 0
 have s1:=fun o a b=>zj1 o a b
 simp only[zaP,zay,zo,zQ,kC,qj,zaY]at q0 q1 q2 q3 s1;have wr1:=qG (2*(N.tdiv 28).tmod 2);have wr2:=qG (2-2*(N.tdiv 28).tmod 2);have wb:=qG ((N.tdiv 5208).tmod 40+20);have wt:=qG ((N.tdiv 208320).tmod 3*200);have hw:(((N.tdiv 1736).tmod 3==1)=true/\(N.tdiv 1736).tmod 3=1)\/(((N.tdiv 1736).tmod 3==1)=false/\¬(N.tdiv 1736).tmod 3=1):=by by_cases e:(N.tdiv 1736).tmod 3=1<;>simp[e]
 have hc:(k=0/\k<7)\/(k=1/\k<7)\/(k=2/\k<7)\/(k=3/\k<7)\/(k=4/\k<7)\/(k=5/\k<7)\/(k=6/\(N.tdiv 28).tmod 2=0)\/(k=6/\(N.tdiv 28).tmod 2=1):=by omega
 rw[zUa zUq rfl];rcases hc with⟨rfl,hr⟩ |⟨rfl,hr⟩ |⟨rfl,hr⟩ |⟨rfl,hr⟩ |⟨rfl,hr⟩ |⟨rfl,hr⟩ |⟨rfl,hr⟩ |⟨rfl,hr⟩<;>rcases hw with⟨hwb,hw⟩ |⟨hwb,hw⟩ <;>
  simp (config:={ maxSteps:=1000000 }) [zZ,hM,h7,hje,hlg,zdd,hj4,hj4',w7,w28,w56,w1736,w5208,DI,wr1,wr2,wb,wt,hr,hwb,hw,q0,q1,q2,q3,s1,zg,zX,zH,zcl,zf,zq,zy,zO,zt,zak,zo,zQ,zaL,zfa,zdK,zaY]
theorem ziD(n lo hi:Int):R L Cs zre [W n,W lo,W hi] []=some (.w (Bo (decide (lo<=n)&&decide (n<=hi))),[]):=by
 rw[zUa zrU rfl];by_cases h:lo<=n
 ·simp[zgL,h]
 ·simp[zgL,h]
theorem zmm(n lo hi:Int):R L Cs zjO [W n,W lo,W hi] []=some (.w (Bo (decide (lo<=n)&&decide (n<=hi))),[]):=by
 rw[zUa zj9 rfl];by_cases h:lo<=n
 ·simp[zc9,h]
 ·simp[zc9,h]
structure zon(m:zD):Prop where
 v1:0<=m.version
 v2:m.version<=1099511627776
 l1:0<m.jd.length
 l2:m.jd.length<=12
 z:m.qV.length<=12
 s:m.signals.length<=4
 w:m.kW.length<=8
theorem zhb{m:zD}(h:zon m):R L Cs zdG [.a (zf m)] []=some (.w (W 0),[]):=by
 have hW:=ziD m.version 0 1099511627776;have a1:=h.v1;have a2:=h.v2;have l0:((m.jd.length:Int)==0)=false:=by have:=h.l1;exact beq_false_of_ne (by omega)
 have l1:¬(12:Int)<(m.jd.length:Int):=by have:=h.l2;omega
 have l2:¬(12:Int)<(m.qV.length:Int):=by have:=h.z;omega
 have l3:¬(4:Int)<(m.signals.length:Int):=by have:=h.s;omega
 have l4:¬(8:Int)<(m.kW.length:Int):=by have:=h.w;omega
 have l5:¬12<m.jd.length:=by omega
 have l6:¬12<m.qV.length:=by omega
 have l7:¬4<m.signals.length:=by omega
 have l8:¬8<m.kW.length:=by omega
 have l9:¬m.jd=[]:=by have:=h.l1;intro e;rw[e]at this;simp at this
 rw[zUa zlw rfl];simp[zeY,zf,hW,a1,a2,l0,l1,l2,l3,l4,l5,l6,l7,l8,l9]
theorem zgb{m:zD}(h1:R L Cs zdG [.a (zf m)] []=some (.w (W 0),[]))(h2:R L Cs zaU [.a (zf m)] []=some (.w (W 0),[]))
  (h3:R L Cs zaM [.a (zf m)] []=some (.w (W 0),[])) (h4:R L Cs zao [.a (zf m)] []=some (.w (W 0),[]))
  (h5:R L Cs zR [.a (zf m)] []=some (.w (W 0),[])) (h6:R L Cs zec [.a (zf m)] []=some (.w (W 0),[])):R L Cs zjl [.a (zf m)] []=some (.w (W 0),[]):=by
 simp only[zf]at h1 h2 h3 h4 h5 h6;have e1:IntKind.i64.wrap 1=1:=rfl;have e2:IntKind.i64.wrap 2=2:=rfl;have e3:IntKind.i64.wrap 3=3:=rfl;have e4:IntKind.i64.wrap 4=4:=rfl;have e5:IntKind.i64.wrap 5=5:=rfl;have e6:IntKind.i64.wrap 6=6:=rfl;have hl:Y L Cs zbP (some [7,6,1,8]) 2 [(7,.w (W 6)),(6,.w (.c (.slice 1 6 1 0 6 none))),(1,.w (Pt 0)),(8,.w (W 0))] [bx 5 (zf m),some { box:=true,esz:=1,rows:=[[.fn zdG [] []],[.fn zaU [] []],[.fn zaM [] []],[.fn zao [] []],[.fn zR [] []],[.fn zec [] []]],gen:=6,fz:=false,ver:=6 }] =
   some (.exit 0,[(9,.w (Bo false)),(1,.w (Pt 0)),(6,.w (.c (.slice 1 6 1 0 6 none))),(7,.w (W 6)),(8,.w (W 6))],[bx 5 (zf m),some { box:=true,esz:=1,rows:=[[.fn zdG [] []],[.fn zaU [] []],[.fn zaM [] []],[.fn zao [] []],[.fn zR [] []],[.fn zec [] []]],gen:=6,fz:=false,ver:=6 }]):=by
  rw[ZfM zbP.eq_1];simp[zf,h1,e1];rw[ZfM zbP.eq_1];simp[h2,e2];rw[ZfM zbP.eq_1];simp[h3,e3];rw[ZfM zbP.eq_1];simp[h4,e4];rw[ZfM zbP.eq_1];simp[h5,e5];rw[ZfM zbP.eq_1];simp[h6,e6];rw[ZfM zbP.eq_1];simp
 simp only[zf]at hl;rw[zUa zsu rfl];simp[zjp,zf,hl,zg,zcl,zi2,zr,okW]
theorem zd1{m:zD}(h:zon m)(h2:∀i:Nat,i<m.jd.length->R L Cs zav [.a (zf m),W i] []=some (.w (W 0),[]))(h3:R L Cs zau [.a (zf m)] []=some (.w (W 0),[]))
  (hsp:∀s∈m.signals,∃o ps,s=[I o,.jb ps]) (hzp:∀s∈m.qV,∃ps o,s=[.jb ps,I o])
  (h4:∀s∈m.signals,R L Cs zV [.a (zf m),.a s] []=some (.w (W 0),[]))
  (h5:∀z∈m.qV,R L Cs zJ [.a (zf m),.a z] []=some (.w (W 0),[]))
  (e:Int) (h6:(∀w∈m.kW,R L Cs zfh [.a (zf m),.a (zaL w)] []=some (.w (W 0),[]))/\e=0\/∃w,m.kW=[w]/\R L Cs zfh [.a (zf m),.a (zaL w)] []=some (.w (W e),[])):R L Cs zeE [.a (zf m)] []=some (.w (W e),[]):=by
 have hW:=zmm m.version 0 1099511627776;have a1:=h.v1;have a2:=h.v2;have b1:=h.l1;have b2:=h.l2;have b3:=h.z;have b4:=h.s;have b5:=h.w;have l0:((m.jd.length:Int)==0)=false:=beq_false_of_ne (by omega);have l1:¬(12:Int)<(m.jd.length:Int):=by omega
 have l2:¬(12:Int)<(m.qV.length:Int):=by omega
 have l3:¬(4:Int)<(m.signals.length:Int):=by omega
 have l4:¬(8:Int)<(m.kW.length:Int):=by omega
 have l9:¬m.jd=[]:=by intro e;rw[e]at b1;simp at b1
 have k1:Y L Cs zbZ (some [1,3]) 1 [(1,.w (Pt 0)),(3,.w (W (0:Nat)))] [bx 5 (zf m)]=some (.exit 0,[(43,.w (Bo false)),(1,.w (Pt 0)),(3,.w (W m.jd.length))],[bx 5 (zf m)]):=by
  have q:=zpE (L:=L) (Cs:=Cs) (b:=zbZ) (live:=some [1,3]) (n0:=1) m.jd (fun i=>[(1,.w (Pt 0)),(3,.w (W i))]) [bx 5 (zf m)] (fun _=>false) (.ret,[],[]) (.exit 0,[(43,.w (Bo false)),(1,.w (Pt 0)),(3,.w (W m.jd.length))],[bx 5 (zf m)]) ?_ ?_ ?_
  ·simpa using q
  ·intro i hi _;have hw:=zB (i:=i) (by omega);have hc:=h2 i hi;simp only[zf]at hc;rw[ZfM zbZ.eq_1];simp[zf,hi,hw,hc]
  ·intro i hi hp;cases hp
  ·rw[ZfM zbZ.eq_1];simp[zf]
 have k2:Y L Cs zbY (some [5,6,1]) 1 [(5,.w (W 0)),(6,.w (W (0:Nat))),(1,.w (Pt 0))] [bx 5 (zf m)]=some (.exit 2,[(62,.w (Bo false)),(5,.w (W 0)),(6,.w (W m.signals.length)),(1,.w (Pt 0))],[bx 5 (zf m)]):=by
  have q:=zpE (L:=L) (Cs:=Cs) (b:=zbY) (live:=some [5,6,1]) (n0:=1) m.signals (fun i=>[(5,.w (W 0)),(6,.w (W i)),(1,.w (Pt 0))]) [bx 5 (zf m)] (fun _=>false) (.ret,[],[]) (.exit 2,[(62,.w (Bo false)),(5,.w (W 0)),(6,.w (W m.signals.length)),(1,.w (Pt 0))],[bx 5 (zf m)]) ?_ ?_ ?_
  ·simpa using q
  ·intro i hi _;have hw:=zB (i:=i) (by omega);have hc:=h4 m.signals[i] (jf hi);obtain⟨a,b,hxy⟩:=hsp _ (jf hi);rw[hxy]at hc;simp only[zf]at hc;rw[ZfM zbY.eq_1];simp[zf,hi,hw,hc,hxy]
  ·intro i hi hp;cases hp
  ·rw[ZfM zbY.eq_1];simp[zf]
 have k3:Y L Cs zbX (some [5,7,1]) 1 [(5,.w (W 0)),(7,.w (W (0:Nat))),(1,.w (Pt 0))] [bx 5 (zf m)]=some (.exit 4,[(80,.w (Bo false)),(5,.w (W 0)),(7,.w (W m.qV.length)),(1,.w (Pt 0))],[bx 5 (zf m)]):=by
  have q:=zpE (L:=L) (Cs:=Cs) (b:=zbX) (live:=some [5,7,1]) (n0:=1) m.qV (fun i=>[(5,.w (W 0)),(7,.w (W i)),(1,.w (Pt 0))]) [bx 5 (zf m)] (fun _=>false) (.ret,[],[]) (.exit 4,[(80,.w (Bo false)),(5,.w (W 0)),(7,.w (W m.qV.length)),(1,.w (Pt 0))],[bx 5 (zf m)]) ?_ ?_ ?_
  ·simpa using q
  ·intro i hi _;have hw:=zB (i:=i) (by omega);have hc:=h5 m.qV[i] (jf hi);obtain⟨a,b,hxy⟩:=hzp _ (jf hi);rw[hxy]at hc;simp only[zf]at hc;rw[ZfM zbX.eq_1];simp[zf,hi,hw,hc,hxy]
  ·intro i hi hp;cases hp
  ·rw[ZfM zbX.eq_1];simp[zf]
 have k4:Y L Cs zbW (some [5,8,1]) 1 [(5,.w (W 0)),(8,.w (W (0:Nat))),(1,.w (Pt 0))] [bx 5 (zf m)]=some (.exit 6,[(98,.w (Bo false)),(5,.w (W e)),(8,.w (W m.kW.length)),(1,.w (Pt 0))],[bx 5 (zf m)]):=by
  rcases h6 with⟨h6,rfl⟩ |⟨w,e1,h6⟩
  ·have q:=zpE (L:=L) (Cs:=Cs) (b:=zbW) (live:=some [5,8,1]) (n0:=1) m.kW (fun i=>[(5,.w (W 0)),(8,.w (W i)),(1,.w (Pt 0))]) [bx 5 (zf m)] (fun _=>false) (.ret,[],[]) (.exit 6,[(98,.w (Bo false)),(5,.w (W 0)),(8,.w (W m.kW.length)),(1,.w (Pt 0))],[bx 5 (zf m)]) ?_ ?_ ?_
   ·simpa using q
   ·intro i hi _;have hw:=zB (i:=i) (by omega);have hc:=h6 m.kW[i] (jf hi);simp only[zf,zaL]at hc;rw[ZfM zbW.eq_1];simp[zf,hi,hw,hc,zaL]
   ·intro i hi hp;cases hp
   ·rw[ZfM zbW.eq_1];simp[zf]
  ·simp only[zf,e1,kC,qj,zaL]at h6;have w1:IntKind.i64.wrap 1=1:=rfl;rw[ZfM zbW.eq_1];simp[zf,e1,h6,zaL,w1];rw[ZfM zbW.eq_1];by_cases he:e=0
   ·simp[e1,he]
   ·have he':(e==0)=false:=by simp[he]
    simp[e1,he,he']
 simp only[zf,jg]at k1 k2 k3 k4 h3;rw[zUa zk7 rfl];simp[zeJ,zf,hW,a1,a2,l0,l1,l2,l3,l4,l9,k1,k2,k3,k4,h3]
def okI(r:Option (AV×Mem))(n:Int):Bool:=match r with
 |some (.w (.c (.int .i64 x)),[])=>x==n
 |_=>false
theorem zaq{f:FuncId}{a:List WV}{n:Int}(h:okI (zaH L Cs 400 f a []) n=true):R L Cs f a []=some (.w (W n),[]):=by
 refine zah.2 ⟨400,?_⟩;unfold okI at h;split at h
 ·rename_i x e;have:x=n:=by simpa using h
  rw[e,this]
 ·cases h
def CD:List Int:=[1500,600,1000,300]
def zdD(v:Int)(k:Nat)(lim:Int)(Z S Wk:List (List Cl)):WV:=.a [I v,.jb ((zy k lim).map zo),.jb Z,.jb S,.jb Wk]
theorem rs2(v lim:Int)(Z S Wk:List (List Cl)):((List.range 31).all fun o=>okI (zaH L Cs 400 zV [zdD v 2 lim Z S Wk,.a (zaY o 0 1)] []) 0)=true:=by kernel_rfl
theorem kz2(v lim:Int)(s:List Cl)(Wk:List (List Cl)):((List.range 2).all fun r=>okI (zaH L Cs 400 zR [zdD v 2 lim (zO 2 r) [s] Wk] []) 0&&(zO 2 r).all fun z=>okI (zaH L Cs 400 zJ [zdD v 2 lim (zO 2 r) [s] Wk,.a z] []) 0)=true:=by kernel_rfl
theorem rs6(v lim:Int)(Z S Wk:List (List Cl)):((List.range 31).all fun o=>okI (zaH L Cs 400 zV [zdD v 6 lim Z S Wk,.a (zaY o 1 3)] []) 0&&okI (zaH L Cs 400 zV [zdD v 6 lim Z S Wk,.a (zaY o 2 3)] []) 0)=true:=by kernel_rfl
theorem kz6(v lim:Int)(Wk:List (List Cl)):(okI (zaH L Cs 400 zR [zdD v 6 lim (zO 6 0) [] Wk] []) 0&&(zO 6 0).all fun z=>okI (zaH L Cs 400 zJ [zdD v 6 lim (zO 6 0) [] Wk,.a z] []) 0)=true:=by kernel_rfl
theorem kz6b(v lim:Int)(s s':List Cl)(Wk:List (List Cl)):(okI (zaH L Cs 400 zR [zdD v 6 lim (zO 6 1) [s,s'] Wk] []) 0&&(zO 6 1).all fun z=>okI (zaH L Cs 400 zJ [zdD v 6 lim (zO 6 1) [s,s'] Wk,.a z] []) 0)=true:=by kernel_rfl
theorem klP(k:Nat)(hk:k<7)(v:Int)(Z S Wk:List (List Cl)):(CD.all fun lim=>okI (zaH L Cs 400 zaU [zdD v k lim Z S Wk] []) 0)=true:=match k,hk with
 |0,_=>by kernel_rfl
 |1,_=>by kernel_rfl
 |2,_=>by kernel_rfl
 |3,_=>by kernel_rfl
 |4,_=>by kernel_rfl
 |5,_=>by kernel_rfl
 |6,_=>by kernel_rfl
theorem kjP(k:Nat)(hk:k<7)(v lim:Int)(Z S Wk:List (List Cl)):okI (zaH L Cs 400 zaM [zdD v k lim Z S Wk] []) 0=true:=match k,hk with
 |0,_=>by kernel_rfl
 |1,_=>by kernel_rfl
 |2,_=>by kernel_rfl
 |3,_=>by kernel_rfl
 |4,_=>by kernel_rfl
 |5,_=>by kernel_rfl
 |6,_=>by kernel_rfl
theorem kcP(k:Nat)(hk:k<7)(lim:Int):((zy k lim).all fun l=>okI (zaH L Cs 400 zaw [.a [zeT l]] []) l.len&&okI (zaH L Cs 400 zN [.a [zeT l]] []) l.len)=true:=match k,hk with
 |0,_=>by kernel_rfl
 |1,_=>by kernel_rfl
 |2,_=>by kernel_rfl
 |3,_=>by kernel_rfl
 |4,_=>by kernel_rfl
 |5,_=>by kernel_rfl
 |6,_=>by kernel_rfl
theorem rlP(k:Nat)(hk:k<7)(v:Int)(Z S Wk:List (List Cl)):(CD.all fun lim=>(List.range (zy k lim).length).all fun i=>okI (zaH L Cs 400 zav [zdD v k lim Z S Wk,W i] []) 0)=true:=match k,hk with
 |0,_=>by kernel_rfl
 |1,_=>by kernel_rfl
 |2,_=>by kernel_rfl
 |3,_=>by kernel_rfl
 |4,_=>by kernel_rfl
 |5,_=>by kernel_rfl
 |6,_=>by kernel_rfl
theorem rjP(k:Nat)(hk:k<7)(v lim:Int)(Z S Wk:List (List Cl)):okI (zaH L Cs 400 zau [zdD v k lim Z S Wk] []) 0=true:=match k,hk with
 |0,_=>by kernel_rfl
 |1,_=>by kernel_rfl
 |2,_=>by kernel_rfl
 |3,_=>by kernel_rfl
 |4,_=>by kernel_rfl
 |5,_=>by kernel_rfl
 |6,_=>by kernel_rfl
theorem kzP(k:Nat)(hk:k<6)(h2:k≠2)(v lim:Int)(Wk:List (List Cl)):((List.range 2).all fun r=>okI (zaH L Cs 400 zR [zdD v k lim (zO k r) [] Wk] []) 0&&(zO k r).all fun z=>okI (zaH L Cs 400 zJ [zdD v k lim (zO k r) [] Wk,.a z] []) 0)=true:=match k,hk with
 |0,_=>by kernel_rfl
 |1,_=>by kernel_rfl
 |2,_=>absurd rfl h2
 |3,_=>by kernel_rfl
 |4,_=>by kernel_rfl
 |5,_=>by kernel_rfl
def zhU(a b:Int):List (List Cl):=[[I 12,.jb [[I a]]],[I 5,.jb []],[I 9,.jb [[I b]]],[I 4,.jb []]]
abbrev zsZ(v:Int)(k:Nat)(lim:Int)(Z S Wk:List (List Cl)):List Cl:=[I v,.jb ((zy k lim).map zo),.jb Z,.jb S,.jb Wk]
theorem cf1:zaH L Cs 400 zap [.c (.jb (zhU 0 1)),.c (.fn zc0 [] [])] []=some (.w (Bo false),[])/\zaH L Cs 400 zap [.c (.jb (zhU 1 3)),.c (.fn zc0 [] [])] []=some (.w (Bo false),[])/\zaH L Cs 400 zap [.c (.jb (zhU 2 3)),.c (.fn zc0 [] [])] []=some (.w (Bo false),[]):=⟨by kernel_rfl,by kernel_rfl,by kernel_rfl⟩
theorem cf2a(v lim:Int)(Z S Wk:List (List Cl)):zaH L Cs 400 zap [.c (.jb (zhU 0 1)),.c (.fn zcZ [] [.ptr 0 0 0 0])] [bx 5 (zsZ v 2 lim Z S Wk)]=some (.w (Bo false),[bx 5 (zsZ v 2 lim Z S Wk)]):=by kernel_rfl
theorem cf2b(v lim:Int)(Z S Wk:List (List Cl)):zaH L Cs 400 zap [.c (.jb (zhU 1 3)),.c (.fn zcZ [] [.ptr 0 0 0 0])] [bx 5 (zsZ v 6 lim Z S Wk)]=some (.w (Bo false),[bx 5 (zsZ v 6 lim Z S Wk)]):=by kernel_rfl
theorem cf2c(v lim:Int)(Z S Wk:List (List Cl)):zaH L Cs 400 zap [.c (.jb (zhU 2 3)),.c (.fn zcZ [] [.ptr 0 0 0 0])] [bx 5 (zsZ v 6 lim Z S Wk)]=some (.w (Bo false),[bx 5 (zsZ v 6 lim Z S Wk)]):=by kernel_rfl
theorem zha{m:zD}(hn:m.signals.length<=10)(h:∀s∈m.signals,∃o a b,s=zaY o a b/\0<=o/\o<=1099511627776 /\
   R L Cs zap [.c (.jb (zhU a b)),.c (.fn zc0 [] [])] []=some (.w (Bo false),[]) /\
   R L Cs zap [.c (.jb (zhU a b)),.c (.fn zcZ [] [.ptr 0 0 0 0])] [bx 5 (zf m)]=some (.w (Bo false),[bx 5 (zf m)])) :
  R L Cs zao [.a (zf m)] []=some (.w (W 0),[]):=by
 have q:=zpE (L:=L) (Cs:=Cs) (b:=zcM) (live:=some [9,8,1,10]) (n0:=1) m.signals (fun i=>[(9,.w (W m.signals.length)),(8,.w (.c (.jb m.signals))),(1,.w (Pt 0)),(10,.w (W i))]) [bx 5 (zf m)] (fun _=>false) (.ret,[],[]) (.exit 0,[(11,.w (Bo false)),(1,.w (Pt 0)),(8,.w (.c (.jb m.signals))),(9,.w (W m.signals.length)),(10,.w (W m.signals.length))],[bx 5 (zf m)]) ?_ ?_ ?_
 ·simp only[zf,jg]at q;simp at q;rw[zUa zlv rfl];simp[zeX,zf,q]
 ·intro i hi _;have hw:=zB (i:=i) (by omega);obtain⟨o,a,b,hs,o1,o2,c1,c2⟩:=h _ (jf hi);have hW:=ziD o 0 1099511627776;simp only[zf,zhU]at c1 c2;rw[ZfM zcM.eq_1];simp[zf,hi,hw,hs,zaY,hW,o1,o2,c1,c2]
 ·intro i hi hp;cases hp
 ·rw[ZfM zcM.eq_1];simp[zf]
theorem zBY{m:zD}{n:Nat}(hn:n<m.jd.length)(hlen:R L Cs zaw [.a [zeT m.jd[n]]] []=some (.w (W m.jd[n].len),[])):R L Cs zkE [.a (zf m),W n] []=some (.w (W m.jd[n].len),[]):=by
 simp only[zeT]at hlen;rw[zUa zou rfl];simp[zh5,zf,hn,zo,hlen]
def WkV(m:zD)(w:zCP):Prop:=∃(j:Nat) (h:j<m.jd.length),w.lane=j/\0<=w.lo/\w.lo<=w.hi/\w.hi<=m.jd[j].len/\0<=w.Cd/\w.Cd<w.ends/\w.ends<=1099511627776/\0<=w.yd/\w.yd<=zeR m.jd[j].kind
theorem zkY{m:zD}(hlen:∀l∈m.jd,R L Cs zaw [.a [zeT l]] []=some (.w (W l.len),[]))(hk:∀l∈m.jd,l.kind=1\/l.kind=2\/l.kind=3)(hwl:m.kW.length<=8)(hw:∀w∈m.kW,WkV m w):R L Cs zec [.a (zf m)] []=some (.w (W 0),[]):=by
 have q:=zpE (L:=L) (Cs:=Cs) (b:=zdm) (live:=some [12,11,10,1]) (n0:=1) m.kW (fun i=>[(12,.w (W i)),(11,.w (W m.kW.length)),(10,.w (.c (.jb (m.kW.map zaL)))),(1,.w (Pt 0))]) [bx 5 (zf m)] (fun _=>false) (.ret,[],[]) (.exit 0,[(13,.w (Bo false)),(12,.w (W m.kW.length)),(11,.w (W m.kW.length)),(10,.w (.c (.jb (m.kW.map zaL)))),(1,.w (Pt 0))],[bx 5 (zf m)]) ?_ ?_ ?_
 ·simp only[zf,jg]at q;simp at q;rw[zUa zmZ rfl];simp[zfE,zf,q]
 ·intro i hi _;obtain⟨j,hj,e,x1,x2,x3,x4,x5,x6,x7,x8⟩:=hw _ (jf hi);have hww:=zB (i:=i) (by omega);have hB:=zmo (hk _ (jf hj));have hL:=zBY hj (hlen _ (jf hj));have hW:=ziD m.kW[i].yd 0 (zeR m.jd[j].kind);simp only[zf]at hL;generalize hwi:m.kW[i]=w at *;obtain⟨w1,w2,w3,w4,w5,w6⟩:=w;simp only at e x1 x2 x3 x4 x5 x6 x7 x8 hW;subst e;generalize zeR m.jd[j].kind=tv at *;have y0:¬(m.jd.length:Int)<=(j:Int):=by omega
  have yj:¬(j:Int)<0:=by omega
  have y1:¬w2<0:=by omega
  have y2:¬w3<w2:=by omega
  have y3:¬m.jd[j].len<w3:=by omega
  have y4:¬w4<0:=by omega
  have y5:¬w5<=w4:=by omega
  have y6:¬(1099511627776:Int)<w5:=by omega
  rw[ZfM zdm.eq_1];simp[zf,hi,hww,hwi,zaL,hj,zo,hB,hL,hW,yj,y0,y1,y2,y3,y4,y5,y6,x7,x8]
 ·intro i hi hp;cases hp
 ·rw[ZfM zdm.eq_1];simp[zf]
theorem zga{m:zD}(hlen:∀l∈m.jd,R L Cs zN [.a [zeT l]] []=some (.w (W l.len),[]))(hk:∀l∈m.jd,l.kind=1\/l.kind=2\/l.kind=3){w:zCP}(hw:WkV m w) :
  R L Cs zfh [.a (zf m),.a (zaL w)] []=some (.w (W 0),[]):=by
 obtain⟨j,hj,e,x1,x2,x3,x4,x5,x6,x7,x8⟩:=hw;have hB:=zhv (hk _ (jf hj));have hL:=hlen _ (jf hj);have hW:=zmm w.yd 0 (zeR m.jd[j].kind);simp only[zeT]at hL;obtain⟨w1,w2,w3,w4,w5,w6⟩:=w;simp only at e x1 x2 x3 x4 x5 x6 x7 x8 hW;subst e;generalize zeR m.jd[j].kind=tv at *;have y0:¬(m.jd.length:Int)<=(j:Int):=by omega
 have yj:¬(j:Int)<0:=by omega
 have y1:¬w2<0:=by omega
 have y2:¬w3<w2:=by omega
 have y3:¬m.jd[j].len<w3:=by omega
 have y4:¬w4<0:=by omega
 have y5:¬w5<=w4:=by omega
 have y6:¬(1099511627776:Int)<w5:=by omega
 rw[zUa ziH rfl];simp[zdF,zf,zaL,hj,zo,hB,hL,hW,yj,y0,y1,y2,y3,y4,y5,y6,x7,x8]
structure NumsO(k:Nat)(lim r o1 o2 o3 v:Int)(ws:List zCP):Prop where
 lim:lim∈CD
 r:r=0\/r=1
 o1:0<=o1/\o1<31
 o2:0<=o2/\o2<31
 o3:0<=o3/\o3<17
 v:0<=v/\v<5
 wl:ws.length<=1
structure zp2(k:Nat)(li rr p1 p2 p3 vv:Int)(ws:List zCP):Prop extends NumsO k li rr p1 p2 p3 vv ws where
 wv:∀x∈ws,WkV (zq k li rr p1 p2 p3 vv ws) x
structure zWf(m:zD):Prop where
 qW:(∀x∈m.kW,WkV m x)->zcp m
 bad:∀w e,m.kW=[w]->R L Cs zfh [.a (zf m),.a (zaL w)] []=some (.w (W e),[])->R L Cs zeE [.a (zf m)] []=some (.w (W e),[])
theorem zky{lim:Int}(h:lim∈CD):1<=lim/\lim<=2000:=by grind [CD]
theorem zTr(k:Nat)(hk:k<7){lim r o1 o2 o3 v:Int}{ws:List zCP}(h:NumsO k lim r o1 o2 o3 v ws)(hz:R L Cs zR [.a (zf (zq k lim r o1 o2 o3 v ws))] []=some (.w (W 0),[])/\∀z∈(zq k lim r o1 o2 o3 v ws).qV,R L Cs zJ [.a (zf (zq k lim r o1 o2 o3 v ws)),.a z] []=some (.w (W 0),[]))(hs:R L Cs zao [.a (zf (zq k lim r o1 o2 o3 v ws))] []=some (.w (W 0),[]))(hrs:∀s∈(zq k lim r o1 o2 o3 v ws).signals,R L Cs zV [.a (zf (zq k lim r o1 o2 o3 v ws)),.a s] []=some (.w (W 0),[]))(hsp:∀s∈(zq k lim r o1 o2 o3 v ws).signals,∃o ps,s=[I o,.jb ps]):zWf (zq k lim r o1 o2 o3 v ws):=by
 have hlim:=zky h.lim;have hv:=h.v;have hsz:zon (zq k lim r o1 o2 o3 v ws):={
  v1:=hv.1
  v2:=by show v<=_;omega
  l1:=by match k,hk with |0,_ |1,_ |2,_ |3,_ |4,_ |5,_ |6,_=>simp[zq,zy]
  l2:=by match k,hk with |0,_ |1,_ |2,_ |3,_ |4,_ |5,_ |6,_=>simp[zq,zy]
  z:=by match k,hk with |0,_ |1,_ |2,_ |3,_ |4,_ |5,_ |6,_=>simp[zq,zO]
  s:=by match k,hk with |0,_ |1,_ |2,_ |3,_ |4,_ |5,_ |6,_=>(simp only[zq,zt];first |(split<;>simp) |simp)
  w:=by have:=h.wl;show ws.length<=8;omega }
 have hlen:∀l∈(zq k lim r o1 o2 o3 v ws).jd,R L Cs zaw [.a [zeT l]] []=some (.w (W l.len),[]):=fun l hl=>by
  have:=jz.1 (kcP k hk lim) l hl;rw[jl]at this
  grind [zaq]
 have hrlen:∀l∈(zq k lim r o1 o2 o3 v ws).jd,R L Cs zN [.a [zeT l]] []=some (.w (W l.len),[]):=fun l hl=>by
  have:=jz.1 (kcP k hk lim) l hl;rw[jl]at this
  grind [zaq]
 have hkd:∀l∈(zq k lim r o1 o2 o3 v ws).jd,l.kind=1\/l.kind=2\/l.kind=3:=by match k,hk with |0,_ |1,_ |2,_ |3,_ |4,_ |5,_ |6,_=>simp[zq,zy,zQ]
 have h0:0<(zq k lim r o1 o2 o3 v ws).jd.length:=hsz.l1;have hzp:∀s∈(zq k lim r o1 o2 o3 v ws).qV,∃ps o,s=[.jb ps,I o]:=by
  match k,hk with
  |0,_ |1,_ |2,_ |3,_ |4,_ |5,_ |6,_ =>
   intro s hs;simp[zq,zO]at hs
   try(first |(rcases hs with hs |hs<;>(subst hs;exact⟨_,_,rfl⟩)) |(subst hs;exact⟨_,_,rfl⟩))
 have hR:=fun e=>zd1 hsz (fun i hi=>zaq (jz.1 (jz.1 (rlP k hk v (zO k r) (zt k r o1 o2 o3) ((ws).map zaL)) lim h.lim) i (uJ.2 hi))) (zaq (rjP k hk v lim (zO k r) (zt k r o1 o2 o3) ((ws).map zaL))) hsp hzp hrs hz.2 e
 refine⟨fun hwv=>{
  small:=⟨by match k,hk with |0,_ |1,_ |2,_ |3,_ |4,_ |5,_ |6,_=>simp[zq,zy],by match k,hk with |0,_ |1,_ |2,_ |3,_ |4,_ |5,_ |6,_=>simp[zq,zy,zQ],by match k,hk with |0,_ |1,_ |2,_ |3,_ |4,_ |5,_ |6,_=>simp[zq,zy,zQ]⟩
  chk:=zgb (zhb hsz) (zaq (jz.1 (klP k hk v (zO k r) (zt k r o1 o2 o3) ((ws).map zaL)) lim h.lim)) (zaq (kjP k hk v lim (zO k r) (zt k r o1 o2 o3) ((ws).map zaL))) hs hz.1
   (zkY hlen hkd hsz.w hwv)
  rchk:=hR 0 (.inl ⟨fun x hx=>zga hrlen hkd (hwv x hx),rfl⟩)
  len:=hlen
  rlen:=hrlen
  Cj:=by match k,hk with |0,_ |1,_ |2,_ |3,_ |4,_ |5,_ |6,_=>simp[zq,zy,zQ]
  kind:=hkd
  yd:=by match k,hk with |0,_ |1,_ |2,_ |3,_ |4,_ |5,_ |6,_=>(simp[zq,zy,zQ];try omega) },fun w e e1 e2=>hR e (.inr ⟨w,e1,e2⟩)⟩
theorem zTo(k:Nat)(hk:k<7){lim r o1 o2 o3 v:Int}{ws:List zCP}(h:NumsO k lim r o1 o2 o3 v ws)(hn:zt k r o1 o2 o3=[])(kz:∀Wk:List (List Cl),((List.range 2).all fun r=>okI (zaH L Cs 400 zR [zdD v k lim (zO k r) [] Wk] []) 0&&(zO k r).all fun z=>okI (zaH L Cs 400 zJ [zdD v k lim (zO k r) [] Wk,.a z] []) 0)=true):zWf (zq k lim r o1 o2 o3 v ws):=by
 have e:(zq k lim r o1 o2 o3 v ws).signals=[]:=hn;refine zTr k hk h ?_ (zha (by grind) (fun s hs=>by grind)) (fun s hs=>by grind) (fun s hs=>by grind);have em:zf (zq k lim r o1 o2 o3 v ws)=[I v,.jb ((zy k lim).map zo),.jb (zO k r),.jb [],.jb ((ws).map zaL)]:=by rw[<-hn];rfl
 rw[em];have q0:=jz.1 (kz ((ws).map zaL));rcases h.r with hr|hr
 ·subst hr;have q:=q0 0 (by simp);rw[jl]at q;exact⟨zaq q.1,fun z hz=>zaq (jz.1 q.2 z hz)⟩
 ·subst hr;have q:=q0 1 (by simp);rw[jl]at q;exact⟨zaq q.1,fun z hz=>zaq (jz.1 q.2 z hz)⟩
theorem good2{lim r o1 o2 o3 v:Int}{ws:List zCP}(h:NumsO 2 lim r o1 o2 o3 v ws):zWf (zq 2 lim r o1 o2 o3 v ws):=by
 have hz:R L Cs zR [.a (zf (zq 2 lim r o1 o2 o3 v ws))] []=some (.w (W 0),[])/\∀z∈(zq 2 lim r o1 o2 o3 v ws).qV,R L Cs zJ [.a (zf (zq 2 lim r o1 o2 o3 v ws)),.a z] []=some (.w (W 0),[]):=by
  have q0:=jz.1 (kz2 v lim (zaY o1 0 1) ((ws).map zaL));rcases h.r with hr|hr
  ·subst hr;have q:=q0 0 (by simp);rw[jl]at q;exact⟨zaq q.1,fun z hz=>zaq (jz.1 q.2 z hz)⟩
  ·subst hr;have q:=q0 1 (by simp);rw[jl]at q;exact⟨zaq q.1,fun z hz=>zaq (jz.1 q.2 z hz)⟩
 have hs:R L Cs zao [.a (zf (zq 2 lim r o1 o2 o3 v ws))] []=some (.w (W 0),[]):=zha (by simp[zq,zt]) (fun s hs=>by
  simp[zq,zt]at hs;subst hs;exact⟨o1,0,1,rfl,h.o1.1,by have:=h.o1.2;omega,zah.2 ⟨400,cf1.1⟩,zah.2 ⟨400,cf2a v lim _ _ _⟩⟩)
 have hrs:∀s∈(zq 2 lim r o1 o2 o3 v ws).signals,R L Cs zV [.a (zf (zq 2 lim r o1 o2 o3 v ws)),.a s] []=some (.w (W 0),[]):=fun s hs=>by
  simp[zq,zt]at hs;subst hs;obtain⟨n,hn⟩:=jB h.o1.1;subst hn;exact zaq (jz.1 (rs2 v lim _ _ _) n (uJ.2 (by have:=h.o1.2;omega)))
 have hsp:∀s∈(zq 2 lim r o1 o2 o3 v ws).signals,∃o ps,s=[I o,.jb ps]:=fun s hs=>by
  simp[zq,zt]at hs;subst hs;exact⟨_,_,rfl⟩
 grind [zTr]
theorem good6{lim r o1 o2 o3 v:Int}{ws:List zCP}(h:NumsO 6 lim r o1 o2 o3 v ws):zWf (zq 6 lim r o1 o2 o3 v ws):=by
 have hv:=h.v;have hsz:zon (zq 6 lim r o1 o2 o3 v ws):={
  v1:=hv.1
  v2:=by show v<=_;omega
  l1:=by simp[zq,zy]
  l2:=by simp[zq,zy]
  z:=by simp[zq,zO]
  s:=by grind [zq,zt]
  w:=by have:=h.wl;show ws.length<=8;omega }
 have hz:R L Cs zR [.a (zf (zq 6 lim r o1 o2 o3 v ws))] []=some (.w (W 0),[])/\∀z∈(zq 6 lim r o1 o2 o3 v ws).qV,R L Cs zJ [.a (zf (zq 6 lim r o1 o2 o3 v ws)),.a z] []=some (.w (W 0),[]):=by
  rcases h.r with hr|hr
  ·subst hr;have q:=kz6 v lim ((ws).map zaL);rw[jl]at q;exact⟨zaq q.1,fun z hz=>zaq (jz.1 q.2 z hz)⟩
  ·subst hr;have q:=kz6b v lim (zaY o2 1 3) (zaY o3 2 3) ((ws).map zaL);rw[jl]at q;exact⟨zaq q.1,fun z hz=>zaq (jz.1 q.2 z hz)⟩
 have hs:R L Cs zao [.a (zf (zq 6 lim r o1 o2 o3 v ws))] []=some (.w (W 0),[]):=zha (by have:=hsz.s;omega) (fun s hs=>by
  rcases h.r with hr|hr
  ·grind [zq,zt]
  ·subst hr;simp[zq,zt]at hs;rcases hs with hs|hs
   ·subst hs;exact⟨o2,1,3,rfl,h.o2.1,by have:=h.o2.2;omega,zah.2 ⟨400,cf1.2.1⟩,zah.2 ⟨400,cf2b v lim _ _ _⟩⟩
   ·subst hs;exact⟨o3,2,3,rfl,h.o3.1,by have:=h.o3.2;omega,zah.2 ⟨400,cf1.2.2⟩,zah.2 ⟨400,cf2c v lim _ _ _⟩⟩)
 have hrs:∀s∈(zq 6 lim r o1 o2 o3 v ws).signals,R L Cs zV [.a (zf (zq 6 lim r o1 o2 o3 v ws)),.a s] []=some (.w (W 0),[]):=fun s hs=>by
  rcases h.r with hr|hr
  ·grind [zq,zt]
  ·subst hr;simp[zq,zt]at hs;rcases hs with hs|hs
   ·subst hs;obtain⟨n,hn⟩:=jB h.o2.1;subst hn;have q:=jz.1 (rs6 v lim (zO 6 1) (zt 6 1 o1 n o3) ((ws).map zaL)) n (uJ.2 (by have:=h.o2.2;omega));rw[jl]at q;exact zaq q.1
   ·subst hs;obtain⟨n,hn⟩:=jB h.o3.1;subst hn;have q:=jz.1 (rs6 v lim (zO 6 1) (zt 6 1 o1 o2 n) ((ws).map zaL)) n (uJ.2 (by have:=h.o3.2;omega));rw[jl]at q;exact zaq q.2
 have hsp:∀s∈(zq 6 lim r o1 o2 o3 v ws).signals,∃o ps,s=[I o,.jb ps]:=fun s hs=>by
  rcases h.r with hr|hr
  ·grind [zq,zt]
  ·subst hr;simp[zq,zt]at hs;rcases hs with hs|hs
   ·subst hs;exact⟨_,_,rfl⟩
   ·subst hs;exact⟨_,_,rfl⟩
 grind [zTr]
theorem zV9(k:Nat)(hk:k<7){lim r o1 o2 o3 v:Int}{ws:List zCP}(h:NumsO k lim r o1 o2 o3 v ws):zWf (zq k lim r o1 o2 o3 v ws):=match k,hk with
 |0,_=>zTo 0 (by simp) h rfl (kzP 0 (by simp) (by simp) v lim)
 |1,_=>zTo 1 (by simp) h rfl (kzP 1 (by simp) (by simp) v lim)
 |2,_=>good2 h
 |3,_=>zTo 3 (by simp) h rfl (kzP 3 (by simp) (by simp) v lim)
 |4,_=>zTo 4 (by simp) h rfl (kzP 4 (by simp) (by simp) v lim)
 |5,_=>zTo 5 (by simp) h rfl (kzP 5 (by simp) (by simp) v lim)
 |6,_=>good6 h
theorem zTy(k:Nat)(hk:k<7){lim r o1 o2 o3 v:Int}{ws:List zCP}(h:zp2 k lim r o1 o2 o3 v ws):zcp (zq k lim r o1 o2 o3 v ws):=(zV9 k hk h.toNumsO).qW h.wv
theorem zz4(j:Nat):zeC j∈CD:=by
 unfold zeC CD;split<;>simp
theorem zV6(k:Nat)(hk:k<7)(lim r o1 o2 o3 v w b t:Int)(hb:0<=b/\b<40)(ht:0<=t/\t<3):∀x∈zak w b t,WkV (zq k lim r o1 o2 o3 v (zak w b t)) x:=by
 intro x hx;unfold zak at hx;split at hx
 ·obtain rfl:=jG.1 hx;have hL:∃h0:0<(zq k lim r o1 o2 o3 v (zak w b t)).jd.length,(zq k lim r o1 o2 o3 v (zak w b t)).jd[0].kind=1/\15000<=(zq k lim r o1 o2 o3 v (zak w b t)).jd[0].len:=by match k,hk with |0,_ |1,_ |2,_ |3,_ |4,_ |5,_ |6,_=>simp[zq,zy,zQ]
  obtain⟨h0,h1,h2⟩:=hL;refine⟨0,h0,rfl,(by show(0:Int)<=10000;decide),(by show(10000:Int)<=15000;decide),h2,hb.1,by simp only;omega,by simp only;omega,by simp only;omega,?_⟩;rw[h1];show t*200<=2000;omega
 ·cases hx
theorem zWg(w b t:Int):(zak w b t).length<=1:=by unfold zak;split<;>simp
theorem zBA(n:Int)(k:Nat)(hk:k<7):zp2 k (zeC (((n % 16777216).tdiv 7).tmod 4).toNat) (((n % 16777216).tdiv 28).tmod 2) (((n % 16777216).tdiv 28).tmod 31) (((n % 16777216).tdiv 56).tmod 31) (((n % 16777216).tdiv 56).tmod 17) (((n % 16777216).tdiv 28).tmod 5) (zak (((n % 16777216).tdiv 1736).tmod 3) (((n % 16777216).tdiv 5208).tmod 40) (((n % 16777216).tdiv 208320).tmod 3)):=by
 have hN:0<=n % 16777216/\n % 16777216<16777216:=by omega
 have hr:=zE _ 28 2 hN (by decide) (by decide);exact⟨⟨zz4 _,by omega,zE _ 28 31 hN (by decide) (by decide),zE _ 56 31 hN (by decide) (by decide),zE _ 56 17 hN (by decide) (by decide),zE _ 28 5 hN (by decide) (by decide),zWg _ _ _⟩,zV6 k hk _ _ _ _ _ _ _ _ _ (zE _ 5208 40 hN (by decide) (by decide)) (zE _ 208320 3 hN (by decide) (by decide))⟩
structure Prt where
 lane:Int
 lo:Int
 hi:Int
 BN:Int
structure Zon where
 parts:List Prt
 uv:Int
structure Phs where
 vC:Int
 green:List Int
structure Sgn where
 offset:Int
 j8:List Phs
def zeB(p:Prt):List Cl:=[I p.lane,I p.lo,I p.hi,I p.BN]
def zkl(l:List Prt):List (List Cl):=l.map zeB
def zdP(z:Zon):List Cl:=[.jb (zkl z.parts),I z.uv]
def zk8(l:List Zon):List (List Cl):=l.map zdP
def zr6(p:Phs):List Cl:=[I p.vC,.jb (zu p.green)]
def zje(l:List Phs):List (List Cl):=l.map zr6
def zeq(s:Sgn):List Cl:=[I s.offset,.jb (zje s.j8)]
def zjd(l:List Sgn):List (List Cl):=l.map zeq
@[simp] theorem zCq(l:List Prt):(zkl l).length=l.length:=by simp[zkl]
@[simp] theorem zzy{l:List Prt}{i:Nat}(h:i<(zkl l).length):(zkl l)[i]=zeB (l[i]'(by simpa using h)):=by simp[zkl]
@[simp] theorem zC7(l:List Zon):(zk8 l).length=l.length:=by simp[zk8]
@[simp] theorem zA9{l:List Zon}{i:Nat}(h:i<(zk8 l).length):(zk8 l)[i]=zdP (l[i]'(by simpa using h)):=by simp[zk8]
@[simp] theorem zCr(l:List Phs):(zje l).length=l.length:=by simp[zje]
@[simp] theorem zzz{l:List Phs}{i:Nat}(h:i<(zje l).length):(zje l)[i]=zr6 (l[i]'(by simpa using h)):=by simp[zje]
@[simp] theorem zCp(l:List Sgn):(zjd l).length=l.length:=by simp[zjd]
@[simp] theorem zzx{l:List Sgn}{i:Nat}(h:i<(zjd l).length):(zjd l)[i]=zeq (l[i]'(by simpa using h)):=by simp[zjd]
structure zvY(l:List Phs):Prop where
 ne:0<l.length
 few:l.length<=6
 vC:∀p∈l,1<=p.vC/\p.vC<=10000
 green:∀p∈l,p.green.length<=100
def zdg(l:List Phs):Int:=(l.map Phs.vC).foldl (· + ·) 0
def zpQ(lane:Int):Int->List Phs->Bool
 |_,[]=>false
 |at',p::r=>if p.vC<=at' then zpQ lane (at'-p.vC) r else decide (lane∈p.green)
def zfA(s:Sgn)(lane tick:Int):Bool:=zpQ lane ((s.offset.tmod (zdg s.j8)+tick.tmod (zdg s.j8)).tmod (zdg s.j8)) s.j8
theorem zyV(l:List Int)(a:Int):l.foldl (· + ·) a=a+l.foldl (· + ·) 0:=by
 induction l generalizing a with
 |nil=>simp
 |cons x l ih=>grind
theorem zoy(p:Phs)(l:List Phs):zdg (p::l)=p.vC+zdg l:=by
 grind [zdg,zyV]
theorem ztt:∀(l:List Phs),(∀p∈l,1<=p.vC/\p.vC<=10000)->(l.length:Int)<=zdg l/\zdg l<=10000*l.length
 |[],_=>by simp[zdg]
 |p::l,h=>by
  have:=ztt l fun q hq=>h q (jI _ hq)
  grind [List.mem_cons_self,zoy,List.length_cons]
theorem zmy(a b:Int)(h:0<b):-b<a.tmod b/\a.tmod b<b:=by
 simp_all [Int.tmod_lt_of_pos,Int.lt_tmod_of_pos]
theorem zvg(s:Sgn)(lane tick:Int)(hl:zvY s.j8):∀(r:List Phs) (i:Nat) (a:Int),s.j8.drop i=r->i<=s.j8.length->0<=a/\a<=10000*i ->
  Y L Cs zfu (some [7,16,15,1,3,2,14]) 1 [(7,.w (W a)),(16,.w (W i)),(15,.w (W s.j8.length)),(1,.w (W lane)),(3,.w (Pt 0)),(2,.w (W tick)),(14,.w (.c (.jb (zje s.j8))))] [bx 2 (zeq s)] =
    some (.exit 0,[(17,.w (Bo false)),(7,.w (W (a+zdg r))),(16,.w (W s.j8.length)),(15,.w (W s.j8.length)),(1,.w (W lane)),(3,.w (Pt 0)),(2,.w (W tick)),(14,.w (.c (.jb (zje s.j8))))],[bx 2 (zeq s)]):=by
 have hf:=hl.few;intro r;induction r with
 |nil =>
  intro i a hd hi ha;obtain rfl:=zUb hd hi;rw[ZfM zfu.eq_1];simp[zdg]
 |cons p r ih =>
  intro i a hd hi ha;obtain⟨hil,hp,hd'⟩:=zL hd;have ht:=hl.vC p (hp ▸ jf hil);have hw:=zB (i:=i) (by omega);have hwa:=qG (a+p.vC);rw[zoy,show a+(p.vC+zdg r)=(a+p.vC)+zdg r by omega,<-ih (i+1) (a+p.vC) hd' hil (by omega),ZfM zfu.eq_1];simp[hil,hp,hw,hwa,zr6,zeq,zg,zH]
theorem zvf(s:Sgn)(lane:Int)(hl:zvY s.j8):∀(r:List Phs) (i:Nat) (a:Int),s.j8.drop i=r->i<=s.j8.length->-1000000<=a/\a<=100000->∃ex E M,
  Y L Cs zek (some [10,38,37,36,1]) 1 [(10,.w (W a)),(38,.w (W i)),(37,.w (W s.j8.length)),(36,.w (.c (.jb (zje s.j8)))),(1,.w (W lane))] [bx 2 (zeq s)]=some (ex,E,M) /\
    ((ex=.ret/\E=[(6,.w (Bo (zpQ lane a r)))])\/(ex=.exit 2/\zpQ lane a r=false)):=by
 have hf:=hl.few;intro r;induction r with
 |nil =>
  intro i a hd hi ha;obtain rfl:=zUb hd hi;rw[ZfM zek.eq_1];simp[zpQ];exact⟨_,_,⟨rfl,rfl⟩,.inr rfl⟩
 |cons p r ih =>
  intro i a hd hi ha;obtain⟨hil,hp,hd'⟩:=zL hd;have ht:=hl.vC p (hp ▸ jf hil);have hg:=hl.green p (hp ▸ jf hil);have hw:=zB (i:=i) (by omega);have hC:=znC p.green lane (by omega);rw[zpQ];by_cases c:p.vC<=a
  ·have hwa:=qG (a-p.vC);obtain⟨ex,E,M,h1,h2⟩:=ih (i+1) (a-p.vC) hd' hil (by omega);refine⟨ex,E,M,?_,by rw[if_pos c];exact h2⟩;rw[<-h1,ZfM zek.eq_1];simp[hil,hp,hw,hwa,c,zr6,zeq,zg,zH]
  ·rw[if_neg c];refine⟨.ret,[(6,.w (Bo (decide (lane∈p.green))))],[bx 2 (zeq s),bxv 1 2 (zr6 p)],?_,.inl ⟨rfl,rfl⟩⟩;rw[ZfM zek.eq_1];simp[hil,hp,hw,c,hC,zr6,zeq,zg,zH]
theorem zAP(s:Sgn)(lane tick:Int)(hl:zvY s.j8):R L Cs zsh [.a (zeq s),W lane,W tick] []=some (.w (Bo (zfA s lane tick)),[]):=by
 have hb:=ztt s.j8 hl.vC;have hne:=hl.ne;have hf:=hl.few;have h1:=zvg s lane tick hl s.j8 0 0 rfl (jp _) (by omega);have m1:=zmy s.offset (zdg s.j8) (by omega);have m2:=zmy tick (zdg s.j8) (by omega);have m3:=zmy (s.offset.tmod (zdg s.j8)+tick.tmod (zdg s.j8)) (zdg s.j8) (by omega);obtain⟨ex,E,M,h2,h3⟩:=zvf s lane hl s.j8 0 ((s.offset.tmod (zdg s.j8)+tick.tmod (zdg s.j8)).tmod (zdg s.j8)) rfl (jp _) (by omega);have hw:=qG (s.offset.tmod (zdg s.j8)+tick.tmod (zdg s.j8));have hz:zdg s.j8≠0:=by omega
 unfold zfA;generalize zpQ lane ((s.offset.tmod (zdg s.j8)+tick.tmod (zdg s.j8)).tmod (zdg s.j8)) s.j8=q at *;rw[zUa zst rfl];simp only[jg,zeq]at h1 h2;rcases h3 with⟨rfl,rfl⟩ |⟨rfl,rfl⟩
 ·simp[zhf,h1,h2,hw,hz,zeq]
 ·simp[zhf,h1,h2,hw,hz,zeq]
structure Zd(m:zD)(zs:List Zon)(ss:List Sgn):Prop where
 z:m.qV=zk8 zs
 s:m.signals=zjd ss
 few:zs.length<=12
 sfew:ss.length<=4
 sig:∀z∈zs,0<=z.uv/\z.uv<=ss.length
 pfew:∀z∈zs,z.parts.length<=6
 ph:∀s∈ss,zvY s.j8
abbrev ztn:Sgn:=⟨0,[]⟩
def zcK(ss:List Sgn)(lane tick:Int)(z:Zon)(p:Prt):Bool:=decide (p.lane=lane) && !zfA (ss.getD (z.uv-1).toNat ztn) lane tick
def zqJ(ss:List Sgn)(lane tick:Int)(z:Zon):List Int:=if z.uv=0 then [] else(z.parts.filter (zcK ss lane tick z)).map Prt.lo
def zpN(zs:List Zon)(ss:List Sgn)(lane tick:Int):List Int:=zs.flatMap (zqJ ss lane tick)
theorem zzH(ss:List Sgn)(lane tick:Int)(z:Zon):(zqJ ss lane tick z).length<=z.parts.length:=by
 grind [zqJ,List.length_map,List.length_filter_le]
theorem zym(ss:List Sgn)(lane tick:Int)(ps:List Prt){q:Nat}(hq:q<ss.length)(p:Prt):zcK ss lane tick ⟨ps,(q:Int)+1⟩ p=(decide (p.lane=lane) && !zfA ss[q] lane tick):=by
 grind [zcK]
theorem zye{m:zD}{zs:List Zon}{ss:List Sgn}(hz:Zd m zs ss)(lane tick:Int)(ps:List Prt)(q:Nat)(hq:q<ss.length)(hpf:ps.length<=6)(k:Nat):∀(r:List Prt) (i:Nat) (out:List Int),ps.drop i=r->i<=ps.length->out.length+r.length<=1000 ->
  Y L Cs zej (some [7,25,24,13,14,15,23,3,9,1,2]) 4 [(7,.w (.c (sl 2 1 (zu out)))),(25,.w (W i)),(24,.w (W ps.length)),(13,.w (.c (.jb (zk8 zs)))),(14,.w (W zs.length)),(15,.w (W k)),(23,.w (.c (.jb (zkl ps)))),(3,.w (Pt 0)),(9,.w (Pt 3)),(1,.w (W lane)),(2,.w (W tick))] [bx 5 (zf m),gb 1,some (own 1 (zu out)),bxv 1 2 (zdP ⟨ps,(q:Int)+1⟩)] =
    some (.exit 2,[(26,.w (Bo false)),(7,.w (.c (sl 2 1 (zu (out++(r.filter (zcK ss lane tick ⟨ps,(q:Int)+1⟩)).map Prt.lo))))),(25,.w (W ps.length)),(24,.w (W ps.length)),(13,.w (.c (.jb (zk8 zs)))),(14,.w (W zs.length)),(15,.w (W k)),(23,.w (.c (.jb (zkl ps)))),(3,.w (Pt 0)),(9,.w (Pt 3)),(1,.w (W lane)),(2,.w (W tick))],[bx 5 (zf m),gb 1,some (own 1 (zu (out++(r.filter (zcK ss lane tick ⟨ps,(q:Int)+1⟩)).map Prt.lo))),bxv 1 2 (zdP ⟨ps,(q:Int)+1⟩)]):=by
 have hgr:=zAP ss[q] lane tick (hz.ph _ (jf hq));have hwS:IntKind.i64.wrap (q:Int)=(q:Int):=zTd _ (by omega) (by have:=hz.sfew;omega);have hpr:=zym ss lane tick ps hq;intro r;induction r with
 |nil =>
  intro i out hd hi ho;obtain rfl:=zUb hd hi;rw[ZfM zej.eq_1];simp
 |cons p r ih =>
  intro i out hd hi ho;obtain⟨hil,hp,hd'⟩:=zL hd;have hw:=zB (i:=i) (by omega);simp only[jk]at ho;by_cases c:p.lane=lane
  ·by_cases g:zfA ss[q] lane tick=true
   ·have hn:zcK ss lane tick ⟨ps,(q:Int)+1⟩ p=false:=by rw[hpr,g];simp
    rw[ue (by simp[hn]),<-ih (i+1) out hd' hil (by omega),ZfM zej.eq_1];clear ih;rw[g]at hgr;simp only[zeq]at hgr;simp[hil,hp,hw,c,hgr,hwS,hq,zeB,zdP,zeq,zf,hz.s,zg,zH]
   ·have g:zfA ss[q] lane tick=false:=by simpa using g
    have hn:zcK ss lane tick ⟨ps,(q:Int)+1⟩ p=true:=by rw[hpr,g];simp[c]
    have ku:(out.length+1)*8<=140737488355328:=by omega
    rw[v8 hn,kC,show out++p.lo::(r.filter (zcK ss lane tick ⟨ps,(q:Int)+1⟩)).map Prt.lo=(out++[p.lo])++(r.filter (zcK ss lane tick ⟨ps,(q:Int)+1⟩)).map Prt.lo by simp,<-ih (i+1) (out++[p.lo]) hd' hil (by simp;omega),ZfM zej.eq_1];clear ih;rw[g]at hgr;simp only[zeq]at hgr;simp[hil,hp,hw,c,hgr,hwS,hq,ku,zeB,zdP,zeq,zf,hz.s,zg,zH]
  ·have hn:zcK ss lane tick ⟨ps,(q:Int)+1⟩ p=false:=by rw[hpr];simp[c]
   have c':(p.lane==lane)=false:=by simp[c]
   rw[ue (by simp[hn]),<-ih (i+1) out hd' hil (by omega),ZfM zej.eq_1];clear ih;simp[hil,hp,hw,c,c',zeB,zdP,zf,zg,zH]
theorem zyd{m:zD}{zs:List Zon}{ss:List Sgn}(hz:Zd m zs ss)(lane tick:Int):∀(r:List Zon) (i:Nat) (out:List Int),zs.drop i=r->i<=zs.length->out.length<=6*i ->
  Y L Cs zgK (some [15,14,13,2,1,3,7]) 3 [(15,.w (W i)),(14,.w (W zs.length)),(13,.w (.c (.jb (zk8 zs)))),(2,.w (W tick)),(1,.w (W lane)),(3,.w (Pt 0)),(7,.w (.c (sl 2 1 (zu out))))] [bx 5 (zf m),gb 1,some (own 1 (zu out))] =
    some (.exit 0,[(16,.w (Bo false)),(15,.w (W zs.length)),(14,.w (W zs.length)),(13,.w (.c (.jb (zk8 zs)))),(2,.w (W tick)),(1,.w (W lane)),(3,.w (Pt 0)),(7,.w (.c (sl 2 1 (zu (out++zpN r ss lane tick)))))],[bx 5 (zf m),gb 1,some (own 1 (zu (out++zpN r ss lane tick)))]):=by
 have hf:=hz.few;intro r;induction r with
 |nil =>
  intro i out hd hi ho;obtain rfl:=zUb hd hi;rw[ZfM zgK.eq_1];simp[zpN]
 |cons z r ih =>
  intro i out hd hi ho;obtain⟨hil,hz',hd'⟩:=zL hd;have hw:=zB (i:=i) (by omega);have hzm:z∈zs:=hz' ▸ jf hil;have hpf:=hz.pfew z hzm;have hsg:=hz.sig z hzm;have hrl:=zzH ss lane tick z;have e:zpN (z::r) ss lane tick=zqJ ss lane tick z++zpN r ss lane tick:=by simp[zpN]
  rw[e,<-jJ,<-ih (i+1) (out++zqJ ss lane tick z) hd' hil (by simp;omega),ZfM zgK.eq_1];clear ih;obtain⟨ps,sg⟩:=z;by_cases c:sg=0
  ·subst c;simp[hil,hz',hw,zdP,zqJ,zf,zg,zH]
  ·obtain⟨q,rfl⟩:∃q:Nat,sg=(q:Int)+1:=⟨(sg-1).toNat,by dsimp at hsg;omega⟩;have hq:q<ss.length:=by dsimp at hsg;omega
   have h1:=zye hz lane tick ps q hq hpf i ps 0 out rfl (jp _) (by dsimp at hpf;omega);have c':(((q:Int)+1)==0)=false:=by simp;omega
   have er:zqJ ss lane tick ⟨ps,(q:Int)+1⟩=(ps.filter (zcK ss lane tick ⟨ps,(q:Int)+1⟩)).map Prt.lo:=by
    unfold zqJ;rw[if_neg c]
   rw[er];simp only[zdP,zf,jg,sl,own,zfq]at h1;simp[hil,hz',hw,c',h1,zdP,zf,zg,zH]
theorem zza(n:Nat)(h:n<=12):∃b,R L Cs zpS [.c (.int .u64 n)] []=some (.w (W b),[]):=by
 match n,h with
 |0,_=>exact⟨0,zah.2 ⟨400,by kernel_rfl⟩⟩
 |1,_=>exact⟨1,zah.2 ⟨400,by kernel_rfl⟩⟩
 |2,_=>exact⟨2,zah.2 ⟨400,by kernel_rfl⟩⟩
 |3,_=>exact⟨2,zah.2 ⟨400,by kernel_rfl⟩⟩
 |4,_=>exact⟨3,zah.2 ⟨400,by kernel_rfl⟩⟩
 |5,_=>exact⟨3,zah.2 ⟨400,by kernel_rfl⟩⟩
 |6,_=>exact⟨3,zah.2 ⟨400,by kernel_rfl⟩⟩
 |7,_=>exact⟨3,zah.2 ⟨400,by kernel_rfl⟩⟩
 |8,_=>exact⟨4,zah.2 ⟨400,by kernel_rfl⟩⟩
 |9,_=>exact⟨4,zah.2 ⟨400,by kernel_rfl⟩⟩
 |10,_=>exact⟨4,zah.2 ⟨400,by kernel_rfl⟩⟩
 |11,_=>exact⟨4,zah.2 ⟨400,by kernel_rfl⟩⟩
 |12,_=>exact⟨4,zah.2 ⟨400,by kernel_rfl⟩⟩
theorem zA4(a b:Int):R L Cs zoW [W a,W b] []=some (.w (Bo (decide (a<b))),[]):=by
 have h1:=zjw a;rw[zUa zo8 rfl];simp[zg8,h1]
abbrev Asc(l:List Int):Prop:=l.Pairwise (· < ·)
theorem zxK{l:List Int}(h:Asc l){i:Nat}(hi:i+1<l.length):l[i]<l[i+1]:=vD.1 h i (i+1) (by omega) hi (by omega)
abbrev ob(l:List Int):Option Blk:=some { box:=false,esz:=1,rows:=zu l,gen:=l.length,fz:=false,ver:=l.length }
abbrev os1(l:List Int):WV:=.c (.slice 0 l.length 1 0 l.length none)
theorem zwS(l:List Int)(h:Asc l)(hl:l.length<=1000):∀(m i:Nat),i+m=l.length->1<=i ->
  Y L Cs zaf (some [2,1,6,0]) 1 [(2,.w (W l.length)),(1,.w (W 0)),(6,.w (W i)),(0,.w (os1 l))] [ob l] =
    some (.exit 0,[(12,.w (Bo false)),(1,.w (W 0)),(2,.w (W l.length)),(6,.w (W l.length)),(0,.w (os1 l))],[ob l]):=by
 intro m;induction m with
 |zero =>
  intro i hi h1;have:i=l.length:=by omega
  subst this;rw[ZfM zaf.eq_1];simp
 |succ m ih =>
  intro i hi h1;obtain⟨j,rfl⟩:∃j,i=j+1:=⟨i-1,by omega⟩;have hg:=zxK h (i:=j) (by omega);have h2:j+1<l.length:=by omega
  have h3:j<l.length:=by omega
  have hw:=zB (i:=j+1) (by omega);have hc:=zA4 l[j+1] l[j];have hd:decide (l[j+1]<l[j])=false:=by simp;omega
  rw[hd]at hc;have hw1:IntKind.i64.wrap (((j+1:Nat):Int)-1)=(j:Int):=by rw[zTd _ (by omega) (by omega)];omega
  have hin:Y L Cs zbE (some [7,1,2,6,0]) 1 [(7,.w (W ((j+1:Nat):Int))),(1,.w (W 0)),(2,.w (W l.length)),(6,.w (W ((j+1:Nat):Int))),(0,.w (os1 l))] [ob l] =
   some (.exit 2,[(30,.w (Bo false)),(7,.w (W ((j+1:Nat):Int))),(1,.w (W 0)),(2,.w (W l.length)),(6,.w (W ((j+1:Nat):Int))),(0,.w (os1 l))],[ob l]):=by
   rw[ZfM zbE.eq_1];have e1:((j+1:Nat):Int).toNat=j+1:=by omega
   have e2:(0:Int)<((j+1:Nat):Int):=by omega
   simp[h2,h3,hw1,hc,e1,e2,-Int.natCast_add]
  rw[<-ih (j+1+1) (by omega) (by omega),ZfM zaf.eq_1];clear ih;simp[h2,hin,hw,-Int.natCast_add]
theorem zAZ(l:List Int)(h:Asc l)(hl:l.length<=12):R L Cs zmO [os1 l] [ob l]=some (.t [],[ob l]):=by
 have hI:R L Cs zfL [os1 l,W 0,W l.length] [ob l]=some (.t [],[ob l]):=by
  rw[zUa zfR rfl];by_cases c:l.length=0
  ·have hY:Y L Cs zaf (some [2,1,6,0]) 1 [(2,.w (W l.length)),(1,.w (W 0)),(6,.w (W 1)),(0,.w (os1 l))] [ob l]=some (.exit 0,[(12,.w (Bo false)),(1,.w (W 0)),(2,.w (W l.length)),(6,.w (W 1)),(0,.w (os1 l))],[ob l]):=by
    rw[ZfM zaf.eq_1];simp[c]
   have w1:IntKind.i64.wrap 1=1:=rfl;simp[zbh,hY,w1]
  ·have h1:=zwS l h (by omega) (l.length-1) 1 (by omega) (by omega);have w1:IntKind.i64.wrap 1=1:=rfl;simp only[kg]at h1;simp[zbh,h1,w1]
 obtain⟨b,hb⟩:=zza l.length hl;have hu:IntKind.u64.wrap (l.length:Int)=(l.length:Int):=by simp[IntKind.wrap,IntKind.signed,IntKind.bits];omega
 have hP:R L Cs zhm [os1 l,W 0,W l.length,W b] [ob l]=some (.t [],[ob l]):=by
  rw[zUa zhw rfl];have hY:Y L Cs zcm (some [3,8,9,0,1,2]) 1 [(3,.w (W b)),(8,.w (Bo true)),(9,.w (Bo true)),(0,.w (os1 l)),(1,.w (W 0)),(2,.w (W l.length))] [ob l]=some (.ret,[],[ob l]):=by
   rw[ZfM zcm.eq_1];have w0:IntKind.i64.wrap (l.length:Int)=(l.length:Int):=zTd _ (by omega) (by omega);have c1:(l.length:Int)<=12:=by omega
   simp[w0,c1,hl,hI]
  simp[z2r,hY]
 rw[zUa zmY rfl];simp[zfD,hu,hb,hP]
theorem zrq(l:List Int)(h:Asc l)(hl:l.length<=1000):∀(m i:Nat),i+m=l.length->1<=i ->
  Y L Cs zcu (some [3,0]) 2 [(3,.w (W i)),(0,.w (os1 l))] [ob l,gb 1] =
    some (.exit 0,[(13,.w (Bo false)),(3,.w (W l.length)),(0,.w (os1 l))],[ob l,gb 1]):=by
 intro m;induction m with
 |zero =>
  intro i hi h1;have:i=l.length:=by omega
  subst this;rw[ZfM zcu.eq_1];simp
 |succ m ih =>
  intro i hi h1;obtain⟨j,rfl⟩:∃j,i=j+1:=⟨i-1,by omega⟩;have hg:=zxK h (i:=j) (by omega);have h2:j+1<l.length:=by omega
  have h3:j<l.length:=by omega
  have hw:=zB (i:=j+1) (by omega);have hw1:IntKind.i64.wrap (((j+1:Nat):Int)-1)=(j:Int):=by rw[zTd _ (by omega) (by omega)];omega
  have hd:(l[j+1]==l[j])=false:=by simp;omega
  have e1:((j+1:Nat):Int).toNat=j+1:=by omega
  rw[<-ih (j+1+1) (by omega) (by omega),ZfM zcu.eq_1];clear ih;simp[h2,h3,hw,hw1,hd,e1,-Int.natCast_add]
theorem zvW(l:List Int)(h:Asc l)(hl:l.length<=12):R L Cs zkD [os1 l] [ob l]=some (.w (os1 l),[ob l]):=by
 rw[zUa zk1 rfl];by_cases c:l.length<2
 ·have c':(l.length:Int)<2:=by omega
  simp[zdl,c,c',zg]
 ·have c':¬(l.length:Int)<2:=by omega
  have h1:=zrq l h (by omega) (l.length-1) 1 (by omega) (by omega);simp only[kg]at h1;simp[zdl,c,c',h1,zg]
theorem zCQ{m:zD}{zs:List Zon}{ss:List Sgn}(hz:Zd m zs ss)(lane tick:Int)(ha:Asc (zpN zs ss lane tick))(hl:(zpN zs ss lane tick).length<=12):R L Cs zpy [.a (zf m),W lane,W tick] []=some (.w (.c (.jb (zu (zpN zs ss lane tick)))),[]):=by
 have h1:=zyd hz lane tick zs 0 [] rfl (jp _) (jp _);have h2:=zAZ _ ha hl;have h3:=zvW _ ha hl;generalize zpN zs ss lane tick=l at *;have hzz:=hz.z;simp only[je,jg,zay,sl,own,jo,zfq,zf]at h1;rw[zUa zv0 rfl];simp only[hzz]at h1;simp[zme,zf,h1,h2,h3,hzz,zg]
def zjF(z:Zon)(lane:Int):Option Prt:=z.parts.find? fun p=>decide (p.lane=lane)
def zff(ss:List Sgn)(lane tick:Int)(z:Zon):List Int:=if z.uv=0 then [] else match zjF z lane with
 |none=>[]
 |some p=>if zfA (ss.getD (z.uv-1).toNat ztn) lane tick=true then [] else [p.lo]
theorem zyf(ss:List Sgn)(lane tick:Int)(z:Zon)(hn:(z.parts.map Prt.lane).Nodup):zqJ ss lane tick z=zff ss lane tick z:=by
 unfold zqJ zff zjF;split
 ·rfl
 ·have key:∀(l:List Prt),(l.map Prt.lane).Nodup->(l.filter (zcK ss lane tick z)).map Prt.lo=match l.find? (fun p=>decide (p.lane=lane))with
   |none=>[]
   |some p=>if zfA (ss.getD (z.uv-1).toNat ztn) lane tick=true then [] else [p.lo]:=by
   intro l;induction l with
   |nil=>intro _;rfl
   |cons p l ih =>
    intro hn;rw[kC,qN]at hn;by_cases c:p.lane=lane
    ·have hno:∀y∈l,zcK ss lane tick z y=false:=by
      intro y hy;have:y.lane≠lane:=fun e=>hn.1 (by rw[c,<-e];exact qL hy)
      simp[zcK,this]
     have hf:l.filter (zcK ss lane tick z)=[]:=List.filter_eq_nil_iff.2 fun y hy=>by simp[hno y hy]
     rw[List.find?_cons_of_pos (by simp[c]),uq,hf];cases hg:zfA (ss.getD (z.uv-1).toNat ztn) lane tick with
     |true=>have:zcK ss lane tick z p=false:=by simp only[zcK,hg];simp
            rw[this];simp
     |false=>have:zcK ss lane tick z p=true:=by simp only[zcK,hg];simp[c]
             rw[this];simp
    ·have:zcK ss lane tick z p=false:=by simp[zcK,c]
     rw[List.find?_cons_of_neg (by simp[c]),ue (by simp[this]),ih hn.2]
  exact key z.parts hn
theorem wr{x:Int}(h1:-9000000000000000000<=x)(h2:x<=9000000000000000000):IntKind.i64.wrap x=x:=zTd _ (by omega) (by omega)
theorem ztS{a b A B:Int}(h1:-A<=a)(h2:a<=A)(h3:-B<=b)(h4:b<=B):-(A*B)<=a*b/\a*b<=A*B:=by
 have e1:0<=(A-a)*(B+b):=yn (by omega) (by omega);have e2:0<=(A+a)*(B-b):=yn (by omega) (by omega);have e3:0<=(A-a)*(B-b):=yn (by omega) (by omega);have e4:0<=(A+a)*(B+b):=yn (by omega) (by omega)
 grind
structure Vw(vx vy wx wy:Int):Prop where
 a1:-1000000<=vx/\vx<=1000000
 a2:-1000000<=vy/\vy<=1000000
 a3:-20000000<=wx/\wx<=20000000
 a4:-20000000<=wy/\wy<=20000000
theorem z01(x0 y0 x y:Int)(h:(-16777216<=x0/\x0<=16777216)/\(-16777216<=y0/\y0<=16777216)/\(-16777216<=x/\x<=16777216)/\(-16777216<=y/\y<=16777216)) :
  R L Cs zXu [.a [I x0,I y0],.a [I x,I y]] []=some (.w (.a [I (x-x0),I (y-y0)]),[]):=by
 have h1:=wr (x:=x-x0) (by omega) (by omega);have h2:=wr (x:=y-y0) (by omega) (by omega);rw[zUa zZA rfl];simp[zun,zg,h1,h2]
theorem Vw.m{vx vy wx wy:Int}(h:Vw vx vy wx wy):(-20000000000000<=vx*wx/\vx*wx<=20000000000000)/\(-20000000000000<=vy*wy/\vy*wy<=20000000000000)/\(-20000000000000<=vx*wy/\vx*wy<=20000000000000)/\(-20000000000000<=vy*wx/\vy*wx<=20000000000000):=by
 obtain⟨⟨a1,a2⟩,⟨b1,b2⟩,⟨c1,c2⟩,⟨d1,d2⟩⟩:=h;have h1:=ztS (by omega:-1000000<=vx) a2 (by omega:-20000000<=wx) c2;have h2:=ztS (by omega:-1000000<=vy) b2 (by omega:-20000000<=wy) d2;have h3:=ztS (by omega:-1000000<=vx) a2 (by omega:-20000000<=wy) d2;have h4:=ztS (by omega:-1000000<=vy) b2 (by omega:-20000000<=wx) c2;omega
theorem z03{vx vy wx wy:Int}(h:Vw vx vy wx wy):R L Cs zWU [.a [I vx,I vy],.a [I wx,I wy]] []=some (.w (W (vx*wx+vy*wy)),[]):=by
 have hm:=h.m;have h1:=wr (x:=vx*wx) (by omega) (by omega);have h2:=wr (x:=vy*wy) (by omega) (by omega);have h3:=wr (x:=vx*wx+vy*wy) (by omega) (by omega);rw[zUa zYt rfl];simp[ZfZ,zg,h1,h2,h3]
theorem z1s{vx vy wx wy:Int}(h:Vw vx vy wx wy):R L Cs zXp [.a [I vx,I vy],.a [I wx,I wy]] []=some (.w (W (vx*wy-vy*wx)),[]):=by
 have hm:=h.m;have h1:=wr (x:=vx*wy) (by omega) (by omega);have h2:=wr (x:=vy*wx) (by omega) (by omega);have h3:=wr (x:=vx*wy-vy*wx) (by omega) (by omega);rw[zUa zYe rfl];simp[zW1,zg,h1,h2,h3]
def zZ7(n:Int):Int:=if -n>n then -n else n
theorem z1N{n:Int}(h1:-9000000000000000000<=n)(h2:n<=9000000000000000000):R L Cs zYH [W n] []=some (.w (W (zZ7 n)),[]):=by
 have e:=wr (x:=-n) (by omega) (by omega);rw[zUa zZU rfl];simp[zYa,e,zZ7,zoU,zyw]
def zXz(a b:Int):Int:=if a.tmod b<0 then a.tdiv b-1 else a.tdiv b
theorem z0g{a b:Int}(hb:0<b)(h1:-9000000000000000<=a)(h2:a<=9000000000000000):-9000000000000000<=a.tdiv b/\a.tdiv b<=9000000000000000:=by
 have h:=Int.natAbs_tdiv_le_natAbs a b;omega
theorem z1q{a b:Int}(hb:0<b)(h1:-9000000000000000<=a)(h2:a<=9000000000000000):R L Cs zYl [W a,W b] []=some (.w (W (zXz a b)),[]):=by
 have hd:=z0g hb h1 h2;have e1:=wr (x:=a.tdiv b) (by omega) (by omega);have e2:=wr (x:=a.tdiv b-1) (by omega) (by omega);have hb0:b≠0:=by omega
 rw[zUa zY9 rfl];by_cases c:a.tmod b<0<;>simp[zXI,e1,e2,hb0,c,zXz]
def zXn(x y:Int):Bool:=decide (-16777216<=x)&&decide (x<=16777216)&&decide (-16777216<=y)&&decide (y<=16777216)
theorem z0T(x y:Int):Y L Cs zpY (some [6,5,7]) 0 [(6,.w (W 1)),(5,.w (.c (.jb [[I x,I y]]))),(7,.w (W 1))] []=some (.exit 0,[(8,.w (Bo false)),(5,.w (.c (.jb [[I x,I y]]))),(6,.w (W 1)),(7,.w (W 1))],[]):=by
 rw[ZfM zpY.eq_1];simp
theorem z02(x y:Int):R L Cs zZr [.c (.jb [[I x,I y]])] []=some (.w (Bo (zXn x y)),[]):=by
 have e:IntKind.i64.wrap 1=1:=rfl;have h2:=z0T x y;have hy:∃E',Y L Cs zpY (some [6,5,7]) 0 [(6,.w (W 1)),(5,.w (.c (.jb [[I x,I y]]))),(7,.w (W 0))] []=some (if zXn x y then(.exit 0,[(8,.w (Bo false)),(5,.w (.c (.jb [[I x,I y]]))),(6,.w (W 1)),(7,.w (W 1))],[]) else(.ret,[(2,.w (Bo false))],E')):=by
  refine⟨[some { box:=true,esz:=2,rows:=[[I x,I y]],gen:=0,fz:=false,ver:=1 }],?_⟩;rw[ZfM zpY.eq_1];unfold zXn;rcases Int.lt_trichotomy x y with c|c|c
  ·by_cases c1:x < -16777216
   ·have c2:¬(-16777216<=x):=by omega
    have c3:¬y<x:=by omega
    simp[zg,zoU,zyw,c,c3,c1,c2]
   ·have c2:-16777216<=x:=by omega
    have c3:¬y<x:=by omega
    by_cases c4:16777216<y
    ·have c5:¬(y<=16777216):=by omega
     simp[zg,zoU,zyw,c,c3,c1,c2,c4,c5]
    ·have c5:y<=16777216:=by omega
     have c6:-16777216<=y:=by omega
     have c7:x<=16777216:=by omega
     simp[zg,zoU,zyw,c,c3,c1,c2,c4,c5,c6,c7,e,h2]
  ·subst c;by_cases c1:x < -16777216
   ·have c2:¬(-16777216<=x):=by omega
    simp[zg,zoU,zyw,c1,c2]
   ·have c2:-16777216<=x:=by omega
    by_cases c4:16777216<x
    ·have c5:¬(x<=16777216):=by omega
     simp[zg,zoU,zyw,c1,c2,c4,c5]
    ·have c5:x<=16777216:=by omega
     simp[zg,zoU,zyw,c1,c2,c4,c5,e,h2]
  ·have c':¬x<y:=by omega
   by_cases c1:y < -16777216
   ·have c2:¬(-16777216<=y):=by omega
    simp[zg,zoU,zyw,c,c',c1,c2]
   ·have c2:-16777216<=y:=by omega
    by_cases c4:16777216<x
    ·have c5:¬(x<=16777216):=by omega
     simp[zg,zoU,zyw,c,c',c1,c2,c4,c5]
    ·have c5:x<=16777216:=by omega
     have c6:-16777216<=x:=by omega
     have c7:y<=16777216:=by omega
     simp[zg,zoU,zyw,c,c',c1,c2,c4,c5,c6,c7,e,h2]
 obtain⟨E',hy⟩:=hy;rw[zUa zZB rfl];by_cases c:zXn x y=true
 ·simp[zuo,hy,c]
 simp_all [if_neg,zuo]
abbrev nsh:List (Nat×Bool×Nat):=[(4,false,1),(5,false,1),(7,false,1)]
abbrev ghN(s:Int)(v:Nat):Option Blk:=some { box:=true,esz:=4,rows:=[[I s,Cl.ptr 1 0 0 0,Cl.ptr 2 0 0 0,Cl.ptr 3 0 0 0]],gen:=0,fz:=false,ver:=v }
abbrev pcb(x0 y0 vx vy len:Int):Option Blk:=some { box:=true,esz:=6,rows:=[[I x0,I y0,I vx,I vy,I len,I 0]],gen:=0,fz:=false,ver:=1 }
theorem zZI(x0 y0 vx vy len px py:Int):X L Cs (rG 1 [o1 0 9 (.box 0 6 (.k (.a [(I 0),(I 0),(I 0),(I 0),(I 0),(I 0)]))),o0 1 (.store 6 (.s 9) (.s 32))] [4,5,7,9]) (zv3 [31,32] [W 0,.a [I x0,I y0,I vx,I vy,I len,I 0]]++[(4,.w (Pt 1)),(5,.w (Pt 2)),(7,.w (Pt 3))]) [ghN 0 0,bx 2 [I px,I py],bx 1 [I 100],bx 1 [.jc]] =
  some (.normal,[(4,.w (Pt 1)),(5,.w (Pt 2)),(7,.w (Pt 3)),(9,.w (Pt 4))],[ghN 0 0,bx 2 [I px,I py],bx 1 [I 100],bx 1 [.jc],pcb x0 y0 vx vy len]):=by
 simp[zv3,zg,zH]
structure Rnd(x0 y0 vx vy len px py wx wy c d q:Int):Prop where
 hl:IntKind.i64.wrap (100*len)=100*len
 hl2:IntKind.i64.wrap (-100*len)=-100*len
 hl3:IntKind.i64.wrap (len+100)=len+100
 hl4:IntKind.i64.wrap ((len+100)*len)=(len+100)*len
 Ak:R L Cs zXu [.a [I x0,I y0],.a [I px,I py]] []=some (.w (.a [I wx,I wy]),[])
 AJ:R L Cs zXp [.a [I vx,I vy],.a [I wx,I wy]] []=some (.w (W c),[])
 BP:R L Cs zWU [.a [I vx,I vy],.a [I wx,I wy]] []=some (.w (W d),[])
 Dh:R L Cs zYH [W c] []=some (.w (W (zZ7 c)),[])
 hfl:R L Cs zYl [W d,W len] []=some (.w (W q),[])
def zXi(len c d:Int):Bool:=decide (100*len<zZ7 c)||decide (d < -100*len)||decide ((len+100)*len<d)
theorem z0t{x0 y0 vx vy len px py wx wy c d q:Int}(h:Rnd x0 y0 vx vy len px py wx wy c d q)(hm:zXi len c d=true) :
  ∃E M,X L Cs zWF.code [(4,.w (Pt 1)),(5,.w (Pt 2)),(7,.w (Pt 3)),(9,.w (Pt 4))] [ghN 1 1,bx 2 [I px,I py],bx 1 [I 100],bx 1 [.jc],pcb x0 y0 vx vy len]=some (.normal,E,[ghN 1 1,bx 2 [I px,I py],bx 1 [I 100],bx 1 [.jc],M,some { box:=true,esz:=2,rows:=[[I wx,I wy]],gen:=0,fz:=false,ver:=1 }]):=by
 obtain⟨hl,hl2,hl3,hl4,Ak,AJ,BP,Dh,hfl⟩:=h;have e1:IntKind.i64.wrap (-100)=-100:=rfl;unfold zXi at hm;by_cases h1:100*len<zZ7 c
 ·simp[zWF,zg,zH,Ak,AJ,BP,Dh,hl,h1]
 ·by_cases h2:d < -100*len
  ·simp[zWF,zg,zH,Ak,AJ,BP,Dh,hl,hl2,e1,h1,h2]
  ·have h3:(len+100)*len<d:=by simpa [h1,h2]using hm
   simp[zWF,zg,zH,Ak,AJ,BP,Dh,hl,hl2,hl3,hl4,e1,h1,h2,h3]
abbrev zYh(q len:Int):Int:=if 0<if len<q then len else q then if len<q then len else q else 0
abbrev zZH(v:Int):Option Blk:=some { box:=false,esz:=1,rows:=[[I v]],gen:=1,fz:=false,ver:=1 }
abbrev z0s(id:Nat):Option Blk:=some { box:=true,esz:=1,rows:=[[Cl.slice id 1 1 0 1 none]],gen:=0,fz:=false,ver:=1 }
theorem z0N{x0 y0 vx vy len px py wx wy c d q:Int}(h:Rnd x0 y0 vx vy len px py wx wy c d q)(hm:zXi len c d=false)(hw:IntKind.i64.wrap (zYh q len)=zYh q len) :
  X L Cs zWF.code [(4,.w (Pt 1)),(5,.w (Pt 2)),(7,.w (Pt 3)),(9,.w (Pt 4))] [ghN 1 1,bx 2 [I px,I py],bx 1 [I 100],bx 1 [.jc],pcb x0 y0 vx vy len] =
    some (.normal,[],[ghN 1 1,bx 2 [I px,I py],bx 1 [I 100],z0s 7,pcb x0 y0 vx vy len,some { box:=true,esz:=2,rows:=[[I wx,I wy]],gen:=0,fz:=false,ver:=1 },zZH (zYh q len),zZH (zYh q len)]):=by
 obtain⟨hl,hl2,hl3,hl4,Ak,AJ,BP,Dh,hfl⟩:=h;have e1:IntKind.i64.wrap (-100)=-100:=rfl;simp only[zXi,Bool.or_eq_false_iff,decide_eq_false_iff_not]at hm;obtain⟨⟨h1,h2⟩,h3⟩:=hm;simp[zWF,zg,zH,Ak,AJ,BP,Dh,hl,hl2,hl3,hl4,e1,h1,h2,h3,hfl,zoU,zyw,hw]
theorem zZ0{x0 y0 vx vy len px py wx wy c d q:Int}(h:Rnd x0 y0 vx vy len px py wx wy c d q)(hm:zXi len c d=true) :
  R L Cs zWv [.c (.yld 0 zWv nsh),W 0,.a [I x0,I y0,I vx,I vy,I len,I 0]] [ghN 0 0,bx 2 [I px,I py],bx 1 [I 100],bx 1 [.jc]] =
    some (.w (Bo true),[ghN 0 2,bx 2 [I px,I py],bx 1 [I 100],bx 1 [.jc]]):=by
 obtain⟨E,M,hc⟩:=z0t h hm;exact zOg (cells:=[.ptr 1 0 0 0,.ptr 2 0 0 0,.ptr 3 0 0 0]) (M2:=[ghN 1 1,bx 2 [I px,I py],bx 1 [I 100],bx 1 [.jc],pcb x0 y0 vx vy len]) (M4:=[ghN 0 2,bx 2 [I px,I py],bx 1 [I 100],bx 1 [.jc],M,some { box:=true,esz:=2,rows:=[[I wx,I wy]],gen:=0,fz:=false,ver:=1 }]) zX3 rfl rfl (by simp[kM]) (by simp[zxb]) (by rfl) (zZI x0 y0 vx vy len px py) (by simp[zsR]) hc (by simp[zsR,zxZ]) (by simp)
theorem z0q{x0 y0 vx vy len px py wx wy c d q:Int}(h:Rnd x0 y0 vx vy len px py wx wy c d q)(hm:zXi len c d=false)(hw:IntKind.i64.wrap (zYh q len)=zYh q len) :
  R L Cs zWv [.c (.yld 0 zWv nsh),W 0,.a [I x0,I y0,I vx,I vy,I len,I 0]] [ghN 0 0,bx 2 [I px,I py],bx 1 [I 100],bx 1 [.jc]] =
    some (.w (Bo true),[ghN 0 2,bx 2 [I px,I py],bx 1 [I 100],z0s 4,zZH (zYh q len)]):=by
 have hc:=z0N h hm hw;exact zOg (cells:=[.ptr 1 0 0 0,.ptr 2 0 0 0,.ptr 3 0 0 0]) (M2:=[ghN 1 1,bx 2 [I px,I py],bx 1 [I 100],bx 1 [.jc],pcb x0 y0 vx vy len]) (M4:=[ghN 0 2,bx 2 [I px,I py],bx 1 [I 100],z0s 7,pcb x0 y0 vx vy len,some { box:=true,esz:=2,rows:=[[I wx,I wy]],gen:=0,fz:=false,ver:=1 },zZH (zYh q len),zZH (zYh q len)]) zX3 rfl rfl (by simp[kM]) (by simp[zxb]) (by rfl) (zZI x0 y0 vx vy len px py) (by simp[zsR]) hc (by simp[zsR,zxZ]) (by simp[zH,List.range,List.range.loop])
abbrev crv(x0 y0 x1 y1:Int):Cl:=.jb [[I x0,I y0],[I x1,I y1]]
theorem zZ1{x0 y0 x1 y1 vx vy len px py a v:Int}(hw:IntKind.i64.wrap len=len)
  (Ak:R L Cs zXu [.a [I x0,I y0],.a [I x1,I y1]] []=some (.w (.a [I vx,I vy]),[]))
  (BP:R L Cs zWU [.a [I vx,I vy],.a [I vx,I vy]] []=some (.w (W a),[]))
  (Dq:R L Cs zud [W a] []=some (.t [W len,Bo true],[]))
  (Ar:R L Cs zWv [.c (.yld 0 zWv nsh),W 0,.a [I x0,I y0,I vx,I vy,I len,I 0]] [ghN 0 0,bx 2 [I px,I py],bx 1 [I 100],bx 1 [.jc]] =
    some (.w (Bo true),[ghN 0 2,bx 2 [I px,I py],bx 1 [I 100],z0s 4,zZH v])) :
  R L Cs zWM [.c (.yld 0 zWv nsh),.c (.ptr 4 0 0 0)] [ghN 0 0,bx 2 [I px,I py],bx 1 [I 100],bx 1 [.jc],bx 1 [crv x0 y0 x1 y1]]=some (.t [],[ghN 0 2,bx 2 [I px,I py],bx 1 [I 100],z0s 5,bx 1 [crv x0 y0 x1 y1],zZH v]):=by
 have e:IntKind.i64.wrap 1=1:=rfl;rw[zUa zXP rfl];simp[zo2,zg,zH,e];rw[ZfM zmW.eq_1];simp[zg,zH,Ak,BP,Dq,Ar,e,hw];rw[ZfM zmW.eq_1];simp[zg,zH,List.range,List.range.loop]
theorem zZG{x0 y0 x1 y1 vx vy len px py a:Int}(hw:IntKind.i64.wrap len=len)
  (Ak:R L Cs zXu [.a [I x0,I y0],.a [I x1,I y1]] []=some (.w (.a [I vx,I vy]),[]))
  (BP:R L Cs zWU [.a [I vx,I vy],.a [I vx,I vy]] []=some (.w (W a),[]))
  (Dq:R L Cs zud [W a] []=some (.t [W len,Bo true],[]))
  (Ar:R L Cs zWv [.c (.yld 0 zWv nsh),W 0,.a [I x0,I y0,I vx,I vy,I len,I 0]] [ghN 0 0,bx 2 [I px,I py],bx 1 [I 100],bx 1 [.jc]] =
    some (.w (Bo true),[ghN 0 2,bx 2 [I px,I py],bx 1 [I 100],bx 1 [.jc]])) :
  R L Cs zWM [.c (.yld 0 zWv nsh),.c (.ptr 4 0 0 0)] [ghN 0 0,bx 2 [I px,I py],bx 1 [I 100],bx 1 [.jc],bx 1 [crv x0 y0 x1 y1]]=some (.t [],[ghN 0 2,bx 2 [I px,I py],bx 1 [I 100],bx 1 [.jc],bx 1 [crv x0 y0 x1 y1]]):=by
 have e:IntKind.i64.wrap 1=1:=rfl;rw[zUa zXP rfl];simp[zo2,zg,zH,e];rw[ZfM zmW.eq_1];simp[zg,zH,Ak,BP,Dq,Ar,e,hw];rw[ZfM zmW.eq_1];simp[zg,zH,List.range,List.range.loop]
theorem z0Z(c:Cl)(hc:∃rows,c=.jb rows):R L Cs zYX [.a [c]] []=some (.w (.c (.fn zWM [] [.ptr 0 0 0 0])),[bx 1 [c]]):=by
 obtain⟨rows,rfl⟩:=hc;rw[zUa zY1 rfl];simp[zrE,zg]
theorem z1h{x0 y0 x1 y1 px py:Int}{out:List Int}{M1:Mem}
  (hk:R L Cs zsk [.a [crv x0 y0 x1 y1]] []=some (.w (W 0),[]))
  (hf:zXn px py=true)
  (hp:(out=[]/\R L Cs zWM [.c (.yld 0 zWv nsh),.c (.ptr 4 0 0 0)] [ghN 0 0,bx 2 [I px,I py],bx 1 [I 100],bx 1 [.jc],bx 1 [crv x0 y0 x1 y1]]=some (.t [],[ghN 0 2,bx 2 [I px,I py],bx 1 [I 100],bx 1 [.jc],bx 1 [crv x0 y0 x1 y1]])) \/
   ∃v,out=[v]/\R L Cs zWM [.c (.yld 0 zWv nsh),.c (.ptr 4 0 0 0)] [ghN 0 0,bx 2 [I px,I py],bx 1 [I 100],bx 1 [.jc],bx 1 [crv x0 y0 x1 y1]]=some (.t [],[ghN 0 2,bx 2 [I px,I py],bx 1 [I 100],z0s 5,bx 1 [crv x0 y0 x1 y1],zZH v])) :
  R L Cs zXv [.a [crv x0 y0 x1 y1],.a [I px,I py],W 100] []=some (.w (.c (.jb (zu out))),[]):=by
 have hF:=z02 px py;rw[hf]at hF;have hq:=z0Z (crv x0 y0 x1 y1) ⟨_,rfl⟩;have hne:¬(zWv=zWM):=by decide
 rw[zUa zYA rfl];rcases hp with⟨rfl,hp⟩ |⟨v,rfl,hp⟩
 ·simp[zXh,zg,zH,hk,hF,hq,zNb,zeN,ghost,hp,zX,kM,znr,zsR,hne]
 ·simp[zXh,zg,zH,hk,hF,hq,zNb,zeN,ghost,hp,zX,kM,znr,zsR,hne]
theorem z0O{x0 y0 x1 y1 px py:Int}(hk:R L Cs zsk [.a [crv x0 y0 x1 y1]] []=some (.w (W 0),[]))
  (hf:zXn px py=false):R L Cs zXv [.a [crv x0 y0 x1 y1],.a [I px,I py],W 100] []=some (.w (.c (.jb [])),[]):=by
 have hF:=z02 px py;rw[hf]at hF;rw[zUa zYA rfl];simp[zXh,zg,zH,hk,hF,zX]
structure Pc(x0 y0 x1 y1 len:Int):Prop where
 b:(-400000<=x0/\x0<=400000)/\(-400000<=y0/\y0<=400000)/\(-400000<=x1/\x1<=400000)/\(-400000<=y1/\y1<=400000)
 l:1000<=len/\len<=1000000
 chk:R L Cs zsk [.a [crv x0 y0 x1 y1]] []=some (.w (W 0),[])
 rchk:R L Cs zkH [.a [crv x0 y0 x1 y1]] []=some (.w (W 0),[])
 root:R L Cs zud [W ((x1-x0)*(x1-x0)+(y1-y0)*(y1-y0))] []=some (.t [W len,Bo true],[])
 rroot:R L Cs zlq [W ((x1-x0)*(x1-x0)+(y1-y0)*(y1-y0))] []=some (.w (W len),[])
def zX9(x0 y0 x1 y1 px py:Int):Int:=(x1-x0)*(py-y0)-(y1-y0)*(px-x0)
def zYq(x0 y0 x1 y1 px py:Int):Int:=(x1-x0)*(px-x0)+(y1-y0)*(py-y0)
def zZc(x0 y0 x1 y1 len px py:Int):List Int :=
 if zXn px py then(if zXi len (zX9 x0 y0 x1 y1 px py) (zYq x0 y0 x1 y1 px py) then [] else [zYh (zXz (zYq x0 y0 x1 y1 px py) len) len]) else []
theorem zZn{x y:Int}(h:zXn x y=true):(-16777216<=x/\x<=16777216)/\(-16777216<=y/\y<=16777216):=by
 simp[zXn]at h;omega
theorem zZi{q len:Int}(h:0<=len):0<=zYh q len/\zYh q len<=len:=by
 unfold zYh;split<;>split<;>omega
theorem Pc.vw{x0 y0 x1 y1 len px py:Int}(h:Pc x0 y0 x1 y1 len)(hf:zXn px py=true):Vw (x1-x0) (y1-y0) (px-x0) (py-y0):=by
 have:=h.b;have:=zZn hf;exact⟨by omega,by omega,by omega,by omega⟩
theorem Pc.nums{x0 y0 x1 y1 len px py:Int}(h:Pc x0 y0 x1 y1 len)(hf:zXn px py=true) :
  (-40000000000000<=zX9 x0 y0 x1 y1 px py/\zX9 x0 y0 x1 y1 px py<=40000000000000)/\(-40000000000000<=zYq x0 y0 x1 y1 px py/\zYq x0 y0 x1 y1 px py<=40000000000000):=by
 have:=(h.vw hf).m;unfold zX9 zYq;omega
theorem Pc.rnd{x0 y0 x1 y1 len px py:Int}(h:Pc x0 y0 x1 y1 len)(hf:zXn px py=true) :
  Rnd x0 y0 (x1-x0) (y1-y0) len px py (px-x0) (py-y0) (zX9 x0 y0 x1 y1 px py) (zYq x0 y0 x1 y1 px py) (zXz (zYq x0 y0 x1 y1 px py) len):=by
 have hb:=h.b;have hl:=h.l;have hp:=zZn hf;have hn:=h.nums hf;have hm:=ztS (a:=len+100) (b:=len) (A:=2000000) (B:=1000000) (by omega) (by omega) (by omega) (by omega);exact⟨wr (by omega) (by omega),wr (by omega) (by omega),wr (by omega) (by omega),wr (by omega) (by omega),z01 _ _ _ _ (by omega),z1s (h.vw hf),z03 (h.vw hf),z1N (by omega) (by omega),z1q (by omega) (by omega) (by omega)⟩
theorem z1G{x0 y0 x1 y1 len:Int}(h:Pc x0 y0 x1 y1 len)(px py:Int):R L Cs zXv [.a [crv x0 y0 x1 y1],.a [I px,I py],W 100] []=some (.w (.c (.jb (zu (zZc x0 y0 x1 y1 len px py)))),[]):=by
 unfold zZc;by_cases hf:zXn px py=true
 ·rw[if_pos hf];have hb:=h.b;have hl:=h.l;have hv:Vw (x1-x0) (y1-y0) (x1-x0) (y1-y0):=⟨by omega,by omega,by omega,by omega⟩;have Ak:=z01 x0 y0 x1 y1 (by omega);have hval:=zZi (q:=zXz (zYq x0 y0 x1 y1 px py) len) (len:=len) (by omega);refine z1h (M1:=[]) h.chk hf ?_;by_cases hm:zXi len (zX9 x0 y0 x1 y1 px py) (zYq x0 y0 x1 y1 px py)=true
  ·rw[if_pos hm];exact .inl ⟨rfl,zZG (wr (by omega) (by omega)) Ak (z03 hv) h.root (zZ0 (h.rnd hf) hm)⟩
  ·rw[if_neg hm];exact .inr ⟨_,rfl,zZ1 (wr (by omega) (by omega)) Ak (z03 hv) h.root (z0q (h.rnd hf) (by simpa using hm) (wr (by omega) (by omega)))⟩
 ·rw[if_neg hf];exact z0O h.chk (by simpa using hf)
theorem pc0:Pc 0 0 60000 0 60000:=⟨by decide,by decide,zah.2 ⟨400,by kernel_rfl⟩,zah.2 ⟨400,by kernel_rfl⟩,zah.2 ⟨400,by kernel_rfl⟩,zah.2 ⟨400,by kernel_rfl⟩⟩
theorem pc1:Pc 0 0 50000 0 50000:=⟨by decide,by decide,zah.2 ⟨400,by kernel_rfl⟩,zah.2 ⟨400,by kernel_rfl⟩,zah.2 ⟨400,by kernel_rfl⟩,zah.2 ⟨400,by kernel_rfl⟩⟩
theorem pc2:Pc 30000 (-20000) 30000 20000 40000:=⟨by decide,by decide,zah.2 ⟨400,by kernel_rfl⟩,zah.2 ⟨400,by kernel_rfl⟩,zah.2 ⟨400,by kernel_rfl⟩,zah.2 ⟨400,by kernel_rfl⟩⟩
theorem pc3:Pc 0 0 30000 0 30000:=⟨by decide,by decide,zah.2 ⟨400,by kernel_rfl⟩,zah.2 ⟨400,by kernel_rfl⟩,zah.2 ⟨400,by kernel_rfl⟩,zah.2 ⟨400,by kernel_rfl⟩⟩
theorem pc4:Pc 30000 0 60000 0 30000:=⟨by decide,by decide,zah.2 ⟨400,by kernel_rfl⟩,zah.2 ⟨400,by kernel_rfl⟩,zah.2 ⟨400,by kernel_rfl⟩,zah.2 ⟨400,by kernel_rfl⟩⟩
theorem pc5:Pc 30000 0 54000 10000 26000:=⟨by decide,by decide,zah.2 ⟨400,by kernel_rfl⟩,zah.2 ⟨400,by kernel_rfl⟩,zah.2 ⟨400,by kernel_rfl⟩,zah.2 ⟨400,by kernel_rfl⟩⟩
theorem pc6:Pc 6000 (-10000) 30000 0 26000:=⟨by decide,by decide,zah.2 ⟨400,by kernel_rfl⟩,zah.2 ⟨400,by kernel_rfl⟩,zah.2 ⟨400,by kernel_rfl⟩,zah.2 ⟨400,by kernel_rfl⟩⟩
theorem pc7:Pc 0 0 20000 0 20000:=⟨by decide,by decide,zah.2 ⟨400,by kernel_rfl⟩,zah.2 ⟨400,by kernel_rfl⟩,zah.2 ⟨400,by kernel_rfl⟩,zah.2 ⟨400,by kernel_rfl⟩⟩
theorem pc8:Pc 20000 0 50000 0 30000:=⟨by decide,by decide,zah.2 ⟨400,by kernel_rfl⟩,zah.2 ⟨400,by kernel_rfl⟩,zah.2 ⟨400,by kernel_rfl⟩,zah.2 ⟨400,by kernel_rfl⟩⟩
theorem pc9:Pc 35000 (-8000) 35000 8000 16000:=⟨by decide,by decide,zah.2 ⟨400,by kernel_rfl⟩,zah.2 ⟨400,by kernel_rfl⟩,zah.2 ⟨400,by kernel_rfl⟩,zah.2 ⟨400,by kernel_rfl⟩⟩
theorem pc10:Pc 20000 0 44000 10000 26000:=⟨by decide,by decide,zah.2 ⟨400,by kernel_rfl⟩,zah.2 ⟨400,by kernel_rfl⟩,zah.2 ⟨400,by kernel_rfl⟩,zah.2 ⟨400,by kernel_rfl⟩⟩
theorem pc11:Pc 36000 (-12000) 36000 18000 30000:=⟨by decide,by decide,zah.2 ⟨400,by kernel_rfl⟩,zah.2 ⟨400,by kernel_rfl⟩,zah.2 ⟨400,by kernel_rfl⟩,zah.2 ⟨400,by kernel_rfl⟩⟩
structure zmp(m:zD):Prop where
 one:∀l∈m.jd,∃x0 y0 x1 y1,l.pts=[(x0,y0),(x1,y1)]/\Pc x0 y0 x1 y1 l.len
 few:m.jd.length<=4/\0<m.jd.length
theorem zAd(lim r o1 o2 o3 v:Int)(ws:List zCP):zmp (zq 0 lim r o1 o2 o3 v ws):=by
 refine⟨fun l hl=>?_,by constructor<;>simp[zq,zy]⟩;simp only[zq,zy,jQ,qn,or_false]at hl;subst hl
 ·exact⟨_,_,_,_,rfl,pc0⟩
theorem zAc(lim r o1 o2 o3 v:Int)(ws:List zCP):zmp (zq 1 lim r o1 o2 o3 v ws):=by
 refine⟨fun l hl=>?_,by constructor<;>simp[zq,zy]⟩;simp only[zq,zy,jQ,qn,or_false]at hl;rcases hl with rfl|rfl
 ·exact⟨_,_,_,_,rfl,pc1⟩
 ·exact⟨_,_,_,_,rfl,pc2⟩
theorem zAb(lim r o1 o2 o3 v:Int)(ws:List zCP):zmp (zq 2 lim r o1 o2 o3 v ws):=by
 refine⟨fun l hl=>?_,by constructor<;>simp[zq,zy]⟩;simp only[zq,zy,jQ,qn,or_false]at hl;rcases hl with rfl|rfl
 ·exact⟨_,_,_,_,rfl,pc1⟩
 ·exact⟨_,_,_,_,rfl,pc2⟩
theorem zAa(lim r o1 o2 o3 v:Int)(ws:List zCP):zmp (zq 3 lim r o1 o2 o3 v ws):=by
 refine⟨fun l hl=>?_,by constructor<;>simp[zq,zy]⟩;simp only[zq,zy,jQ,qn,or_false]at hl;rcases hl with rfl|rfl|rfl
 ·exact⟨_,_,_,_,rfl,pc3⟩
 ·exact⟨_,_,_,_,rfl,pc4⟩
 ·exact⟨_,_,_,_,rfl,pc5⟩
theorem zz9(lim r o1 o2 o3 v:Int)(ws:List zCP):zmp (zq 4 lim r o1 o2 o3 v ws):=by
 refine⟨fun l hl=>?_,by constructor<;>simp[zq,zy]⟩;simp only[zq,zy,jQ,qn,or_false]at hl;rcases hl with rfl|rfl|rfl
 ·exact⟨_,_,_,_,rfl,pc3⟩
 ·exact⟨_,_,_,_,rfl,pc6⟩
 ·exact⟨_,_,_,_,rfl,pc4⟩
theorem zz8(lim r o1 o2 o3 v:Int)(ws:List zCP):zmp (zq 5 lim r o1 o2 o3 v ws):=by
 refine⟨fun l hl=>?_,by constructor<;>simp[zq,zy]⟩;simp only[zq,zy,jQ,qn,or_false]at hl;rcases hl with rfl|rfl|rfl
 ·exact⟨_,_,_,_,rfl,pc7⟩
 ·exact⟨_,_,_,_,rfl,pc8⟩
 ·exact⟨_,_,_,_,rfl,pc9⟩
theorem zz7(lim r o1 o2 o3 v:Int)(ws:List zCP):zmp (zq 6 lim r o1 o2 o3 v ws):=by
 refine⟨fun l hl=>?_,by constructor<;>simp[zq,zy]⟩;simp only[zq,zy,jQ,qn,or_false]at hl;rcases hl with rfl|rfl|rfl|rfl
 ·exact⟨_,_,_,_,rfl,pc7⟩
 ·exact⟨_,_,_,_,rfl,pc8⟩
 ·exact⟨_,_,_,_,rfl,pc10⟩
 ·exact⟨_,_,_,_,rfl,pc11⟩
theorem zCX(b:zk)(i v:Nat)(M:Mem)(h:M[i]?=some (bxv v 6 (ze b))):R L Cs znx [Pt i] M=some (.t [W b.lane,.c (.ptr i 0 0 1),.c (.ptr i 0 0 2)],M):=by
 rw[zUa znG rfl];simp only[ze]at h;simp[zf9,h,ze,p1F]
def zoX(x fr to:Int)(b:zk):List zk :=
 if b.lane≠x\/fr>to\/fr>b.hi\/to<b.lo then [b] else
 (if b.lo<fr then [{ b with hi:=fr-1 }] else [])++(if to<b.hi then [{ b with lo:=to+1 }] else [])
def zhn(x fr to:Int):List zk->List zk
 |[]=>[]
 |b::r=>zoX x fr to b++zhn x fr to r
theorem zrn(x fr to:Int)(b:zk):(zoX x fr to b).length<=2:=by
 unfold zoX;split
 ·simp
 ·split<;>split<;>simp
theorem zod(x fr to:Int):∀(r:List zk),(zhn x fr to r).length<=2*r.length
 |[]=>by simp[zhn]
 |b::r=>by
  have:=zrn x fr to b;have:=zod x fr to r;simp only[zhn,jv,jk];omega
def Mid(n:Int):Prop:=-4000000000000000000<=n/\n<=4000000000000000000
theorem zAu(x fr to:Int)(hfr:Mid fr)(hto:Mid to)(l:List zk)(hl:l.length<=100000000000):∀(r:List zk) (i:Nat) (out:List zk),l.drop i=r->i<=l.length->out.length<=2*i ->
  Y L Cs zdV (some [5,21,20,19,3]) 3 [(5,.w (.c (sl 2 6 (zI out)))),(21,.w (W i)),(20,.w (W l.length)),(19,.w (.c (.jb (zI l)))),(3,.w (Pt 0))] [bx 3 [I x,I fr,I to],gb 6,some (own 6 (zI out))] =
    some (.exit 0,[(22,.w (Bo false)),(5,.w (.c (sl 2 6 (zI (out++zhn x fr to r))))),(21,.w (W l.length)),(20,.w (W l.length)),(19,.w (.c (.jb (zI l)))),(3,.w (Pt 0))],[bx 3 [I x,I fr,I to],gb 6,some (own 6 (zI (out++zhn x fr to r)))]):=by
 intro r;induction r with
 |nil =>
  intro i out hd hi ho;obtain rfl:=zUb hd hi;rw[ZfM zdV.eq_1];simp[zhn]
 |cons b r ih =>
  intro i out hd hi ho;obtain⟨hil,hb,hd'⟩:=zL hd;have hw:=zB (i:=i) (by omega);have hcl:(out++zoX x fr to b).length<=2*(i+1):=by
   have:=zrn x fr to b;rw[jv];omega
  obtain⟨f1,f2⟩:=hfr;obtain⟨t1,t2⟩:=hto;have hw1:=qG (fr-1);have hw2:=qG (to+1);have ku:(out.length+1)*48<=140737488355328:=by omega
  have CI:(out.length+2)*48<=140737488355328:=by clear hcl hd hb hd' ih;omega
  have he:=zCX b 0 1 [bxv 1 6 (ze b)] rfl;have e1:out++zhn x fr to (b::r)=(out++zoX x fr to b)++zhn x fr to r:=by simp[zhn]
  rw[e1,<-ih (i+1) (out++zoX x fr to b) hd' hil hcl,ZfM zdV.eq_1];clear ih e1 hcl;clear f1 f2 t1 t2;obtain⟨bl,lo,hi',vlo,vhi,hold⟩:=b;simp only[ze,zoX]at *;by_cases c1:bl=x
  ·subst c1;by_cases c2:to<fr
   ·simp[hil,hb,ze,hw,ku,zg,zH,he,c2]
   ·by_cases c3:hi'<fr
    ·simp[hil,hb,ze,hw,ku,zg,zH,he,c2,c3]
    ·by_cases c4:to<lo
     ·simp[hil,hb,ze,hw,ku,zg,zH,he,c2,c3,c4]
     ·by_cases c5:lo<fr
      ·by_cases c6:to<hi'
       ·have htk:∀y:List Cl,List.take (out.length+1) (zI out++[y])=zI out++[y]:=fun y=>jx (by simp)
        simp[hil,hb,ze,hw,hw1,hw2,ku,CI,zg,zH,he,c2,c3,c4,c5,c6,htk]
       ·simp[hil,hb,ze,hw,hw1,hw2,ku,zg,zH,he,c2,c3,c4,c5,c6]
      ·by_cases c6:to<hi'
       ·simp[hil,hb,ze,hw,hw1,hw2,ku,zg,zH,he,c2,c3,c4,c5,c6]
       ·simp[hil,hb,ze,hw,hw1,hw2,ku,zg,zH,he,c2,c3,c4,c5,c6]
  ·have b1:(bl==x)=false:=by simp[c1]
   have b2:(bl !=x)=true:=by simp[c1]
   simp[hil,hb,ze,hw,ku,zg,zH,he,c1,b1,b2]
theorem zDp(x fr to:Int)(hfr:Mid fr)(hto:Mid to)(l:List zk)(hl:l.length<=100000000000):R L Cs zoa [.c (.jb (zI l)),.a [I x,I fr,I to]] []=some (.w (.c (.jb (zI (zhn x fr to l)))),[]):=by
 have hc:=zAu x fr to hfr hto l hl l 0 [] rfl (jp _) (jp _);simp only[jg,je,zic,sl,own,jo,zgg]at hc;rw[zUa zov rfl];simp[zgM,hc,zg]
def zj2(m:zD)(r:List Int):Prop:=∀x∈r,0<=x/\x<m.jd.length
def zW(m:zD):Int->List Int->List Int
 |_,[]=>[]
 |a,x::r=>a::zW m (a+z8 m x) r
def zmd(m:zD):Int->List Int->Int
 |a,[]=>a
 |a,x::r=>zmd m (a+z8 m x) r
theorem zcX{m:zD}(h:zcp m){x:Int}(hx:0<=x/\x<m.jd.length):1000<=z8 m x/\z8 m x<=1000000:=by
 obtain⟨n,rfl⟩:=jB hx.1;have hn:n<m.jd.length:=by omega
 have:=h.Cj _ (jf hn);simpa [z8,hn]using this
theorem zxO{m:zD}(h:zcp m){x:Int}(hx:0<=x/\x<m.jd.length):R L Cs zkE [.a (zf m),W x] []=some (.w (W (z8 m x)),[]):=by
 obtain⟨n,rfl⟩:=jB hx.1;have hn:n<m.jd.length:=by omega
 have e:z8 m n=m.jd[n].len:=by simp[z8,hn]
 rw[e];exact zAV h hn
abbrev znJ:List Cl:=[I 0,.jc,.jc,.jc,.jc,.jc,.jc,I 0]
abbrev zlf(m:zD)(l:List Int)(S:Cl)(n:Int):List Cl:=[I m.version,.jb (m.jd.map zo),.jb m.qV,.jb m.signals,.jb (m.kW.map zaL),.jb (zu l),S,I n]
theorem zvl{m:zD}(h:zcp m)(l:List Int)(hl:l.length<=1000)(hon:zj2 m l)(j:Nat):∀(r:List Int) (i:Nat) (out:List Int) (v:Nat) (a:Int) (G:Mem),l.drop i=r->i<=l.length->out.length=i->0<=a->a<=i*1000000->G[j]?=some (some (own 1 (zu out))) ->
  ∃v' G',G'[j]?=some (some (own 1 (zu (out++zW m a r))))/\Y L Cs zc3 (some [18,17,4,16,2,5]) 3 [(18,.w (W i)),(17,.w (W l.length)),(4,.w (Pt 1)),(16,.w (.c (.jb (zu l)))),(2,.w (Pt 0)),(5,.w (Pt 2))] (bx 5 (zf m)::bx 8 znJ::bxv v 8 (zlf m l (.slice (j+3) out.length 1 0 out.length none) a)::G) =
   some (.exit 0,[(19,.w (Bo false)),(18,.w (W l.length)),(17,.w (W l.length)),(4,.w (Pt 1)),(16,.w (.c (.jb (zu l)))),(2,.w (Pt 0)),(5,.w (Pt 2))],bx 5 (zf m)::bx 8 znJ::bxv v' 8 (zlf m l (.slice (j+3) (out++zW m a r).length 1 0 (out++zW m a r).length none) (zmd m a r))::G'):=by
 intro r;induction r with
 |nil =>
  intro i out v a G hd hi ho ha1 ha2 hG;obtain rfl:=zUb hd hi;refine⟨v,G,by simpa [zW]using hG,?_⟩;rw[ZfM zc3.eq_1];simp[zW,zmd]
 |cons x r ih =>
  intro i out v a G hd hi ho ha1 ha2 hG;subst ho;obtain⟨hil,hx,hd'⟩:=zL hd;have hxm:=hon x (by rw[<-hx];exact jf _);have hw:=zB (i:=out.length) (by omega);have hjG:j<G.length:=(jK.1 hG).1;have hg:∀N:Mem,(G++N)[j]?=some (some (own 1 (zu out))):=fun N=>by rw[jq hjG,hG]
  have AD:∀(N:Mem) (x:Option Blk),(G++N).set j x=G.set j x++N:=fun N x=>uy _ _ hjG
  have hL:=zxO h hxm;have hle:=zcX h hxm;have ku:(out.length+1)*8<=140737488355328:=by omega
  have hwa:=qG (a+z8 m x);obtain⟨v',G',h1,h2⟩:=ih (out.length+1) (out++[a]) (v+1+1) (a+z8 m x) (G.set j (some (own 1 (zu (out++[a]))))++[some (own 1 [[I a]])]) hd' hil (by simp) (by omega) (by omega) (by rw[jq (by simpa using hjG),jY hjG]);have e1:out++zW m a (x::r)=(out++[a])++zW m (a+z8 m x) r:=by simp[zW]
  refine⟨v',G',by rw[e1];exact h1,?_⟩;rw[e1,zmd,<-h2,ZfM zc3.eq_1];simp only[own,zfq,zf]at hg hL;have hdr:∀(E:Env) (p q:Option Blk) (w g len:Nat) (a:Int) (N:Mem),kD 3 E (p::q::bxv w 8 (zlf m l (.slice (j+3) g 1 0 len none) a)::N)=(p::q::bxv w 8 (zlf m l (.slice (j+3) g 1 0 len none) a)::N):=by
   intro E p q w g len a N;unfold kD;split
   ·rfl
   ·rw[if_neg];simp[zH,Blk.below,Eng.below,yq]
  simp only[bxv,zlf]at hdr;simp[hil,hx,hL,zf,hw,hg,AD,ku,hwa,zg,hdr,-kD]
  try omega
theorem zcO(m:zD):∀(r:List Int) (a:Int),(zW m a r).length=r.length
 |[],_=>rfl
 |x::r,a=>by simp[zW,zcO m r]
theorem zxC(M:Mem)(r:List (List Cl)):zdR M (.jb r)=some (.jb r):=rfl
theorem zyF{M:Mem}{m:zD}{l:List Int}{S x:Cl}{n:Int}(h:zdR M S=some x)(hx:Eng.below 0 x=true):leave true 0 (.w (.a (zlf m l S n))) M=some (.w (.a (zlf m l x n)),[]) :=
 zid (by simp only[zoS,zn7,yL,h,zvj,zxC];rfl) (by show List.all (zlf m l x n) (Eng.below 0)=true;simp only[zlf,qz,List.all_nil,hx];rfl)
theorem zg1{m:zD}(h:zcp m){l:List Int}(hr:zdA m l=0):zj2 m l/\l≠[]/\l.length<=8:=by
 cases l with
 |nil=>simp[zdA]at hr
 |cons x t =>
  simp only[zdA]at hr;split at hr
  ·cases hr
  split at hr
  ·cases hr
  split at hr
  ·cases hr
  split at hr
  ·cases hr
  split at hr
  ·rename_i h1 h2 h3 h4 h5;refine⟨?_,by simp,by simp;omega⟩;have key:∀(t:List Int) (a:Int),0<=a->a<m.jd.length->goF m a t=true->zj2 m t:=by
    intro t;induction t with
    |nil=>intro a _ _ _ y hy;cases hy
    |cons y t ih =>
     intro a ha1 ha2 hg;simp only[goF,jl,decide_eq_true_eq]at hg;have hal:a.toNat<m.jd.length:=by omega
     have kZ:((m.jd[a.toNat]?).map zfn.next).getD []=(m.jd[a.toNat]).next:=by rw[jr hal];rfl
     rw[kZ]at hg;have hv:=h.small.valid _ (jf hal) y hg.1;intro z hz;rcases jQ.1 hz with rfl|hz
     ·exact hv
     ·exact ih y hv.1 hv.2 hg.2 z hz
   intro z hz;rcases jQ.1 hz with rfl|hz
   ·exact⟨by omega,by omega⟩
   ·exact key t x (by omega) (by omega) h5 z hz
  ·cases hr
theorem zvR{m:zD}(h:zcp m){l:List Int}(hr:zdA m l=0):R L Cs zrf [.a (zf m),.c (.jb (zu l))] []=some (.w (.a (zlf m l (.jb (zu (zW m 0 l))) (zmd m 0 l))),[]):=by
 obtain⟨hon,hne,hlen⟩:=zg1 h hr;have hck:=zos m h.small h.chk l (by omega);rw[hr]at hck;obtain⟨x,r,hl⟩:=vn hne;have Dw:∃M' S v,Y L Cs zc3 (some [18,17,4,16,2,5]) 3 [(18,.w (W 0)),(17,.w (W l.length)),(4,.w (Pt 1)),(16,.w (.c (.jb (zu l)))),(2,.w (Pt 0)),(5,.w (Pt 2))] [bx 5 (zf m),bx 8 znJ,bxv 1 8 (zlf m l .jc 0)] =
   some (.exit 0,[(19,.w (Bo false)),(18,.w (W l.length)),(17,.w (W l.length)),(4,.w (Pt 1)),(16,.w (.c (.jb (zu l)))),(2,.w (Pt 0)),(5,.w (Pt 2))],bx 5 (zf m)::bx 8 znJ::bxv v 8 (zlf m l S (zmd m 0 l))::M') /\
   zdR (bx 5 (zf m)::bxv 1 8 (zlf m l S (zmd m 0 l))::bxv v 8 (zlf m l S (zmd m 0 l))::M') S=some (.jb (zu (zW m 0 l))):=by
  have hll:0<l.length:=by rw[hl];simp
  have h0:l[0]=x:=by simp[hl]
  have hxm:=hon x (by rw[hl];simp);have hL:=zxO h hxm;have hle:=zcX h hxm;have hwa:=qG (z8 m x);obtain⟨v',G',h1,h2⟩:=zvl h l (by omega) hon 1 r 1 [0] 3 (z8 m x) [some (own 1 [[I 0]]),some (own 1 (zu [0]))] (by rw[hl];rfl) (by omega) rfl (by omega) (by omega) rfl;have vh:zW m 0 l=[0]++zW m (z8 m x) r:=by rw[hl];simp[zW]
  have Bp:zmd m 0 l=zmd m (z8 m x) r:=by rw[hl];simp[zmd]
  refine⟨G',.slice 4 ([0]++zW m (z8 m x) r).length 1 0 ([0]++zW m (z8 m x) r).length none,v',?_,?_⟩
  ·rw[Bp];simp only[kg,jg,jk,jo,own,zf,zlf]at hL h2 ⊢;rw[<-h2,ZfM zc3.eq_1];have hw:IntKind.i64.wrap 1=1:=rfl;have hr:(0:Int)<(l.length:Int):=by omega
   simp[hll,h0,hL,hw,hwa,zg,hr]
  ·rw[vh];simp[zdR,look,h1]
 obtain⟨M',S,v,h1,h2⟩:=Dw;simp only[zf,zlf]at hck h1 h2;rw[zUa zrV rfl];simp[zir,zf,hck,h1,-leave];exact zyF h2 rfl
theorem zAY{m:zD}(h:zcp m){l:List Int}(hr:zdA m l=0):R L Cs zrh [.a (zf m),.c (.jb (zu l))] []=some (.w (.c (.jb (zu (zW m 0 l)))),[]):=by
 have hf:=zvR h hr;simp only[zf,zlf]at hf;rw[zUa zrX rfl];simp[zit,zf,hf]
theorem zsq{m:zD}(h:zcp m){l:List Int}(hr:zdA m l=0):R L Cs zmQ [.a (zf m),.c (.jb (zu l))] []=some (.w (W (zmd m 0 l)),[]):=by
 have hf:=zvR h hr;simp only[zf,zlf]at hf;rw[zUa zm0 rfl];simp[zfF,zf,hf]
def zbK(m:zD):Nat->List zfn->List Int
 |_,[]=>[]
 |i,_::r=>if zes i 0 m.jd=[] then(i:Int)::zbK m (i+1) r else zbK m (i+1) r
theorem zp8(m:zD):∀(r:List zfn) (i:Nat),i+r.length<=m.jd.length->zj2 m (zbK m i r)
 |[],_,_=>by intro x hx;cases hx
 |l::r,i,h=>by
  intro x hx;simp at h;unfold zbK at hx;split at hx
  ·rcases jQ.1 hx with rfl|hx
   ·omega
   ·exact zp8 m r (i+1) (by omega) x hx
  ·exact zp8 m r (i+1) (by omega) x hx
theorem zlK(m:zD):∀(r:List zfn) (i:Nat),(zbK m i r).length<=r.length
 |[],_=>by simp[zbK]
 |l::r,i=>by
  have:=zlK m r (i+1);unfold zbK;split<;>simp<;>omega
theorem ztu{m:zD}(h:zcp m):∀(r:List zfn) (i:Nat) (out:List Int),m.jd.drop i=r->i<=m.jd.length->out.length<=i ->
  Y L Cs zdE (some [3,11,10,1]) 3 [(3,.w (.c (sl 2 1 (zu out)))),(11,.w (W i)),(10,.w (W m.jd.length)),(1,.w (Pt 0))] [bx 5 (zf m),gb 1,some (own 1 (zu out))] =
    some (.exit 0,[(12,.w (Bo false)),(3,.w (.c (sl 2 1 (zu (out++zbK m i r))))),(11,.w (W m.jd.length)),(10,.w (W m.jd.length)),(1,.w (Pt 0))],[bx 5 (zf m),gb 1,some (own 1 (zu (out++zbK m i r)))]):=by
 intro r;induction r with
 |nil =>
  intro i out hd hi ho;obtain rfl:=zUb hd hi;rw[ZfM zdE.eq_1];simp[zbK]
 |cons l r ih =>
  intro i out hd hi ho;obtain⟨hil,hl,hd'⟩:=zL hd;have hn:=h.small.jd;have hw:=zB (i:=i) (by omega);have hb:=zvT m i (by omega) (fun l hl=>by have:=h.small.next l hl;omega);simp only[zf]at hb;have ku:(out.length+1)*8<=140737488355328:=by omega
  rw[zbK];by_cases he:zes i 0 m.jd=[]
  ·rw[if_pos he,show out++(i:Int)::zbK m (i+1) r=(out++[(i:Int)])++zbK m (i+1) r by simp,<-ih (i+1) (out++[(i:Int)]) hd' hil (by simp;omega),ZfM zdE.eq_1];rw[he]at hb;simp at hb;simp[hil,zf,hb,hw,ku,zg,zH]
  ·rw[if_neg he,<-ih (i+1) out hd' hil (by omega),ZfM zdE.eq_1];have hz:(((zes i 0 m.jd).length:Int)==0)=false:=by
    have:0<(zes i 0 m.jd).length:=kN.2 he;exact beq_false_of_ne (by omega)
   simp[hil,zf,hb,hw,he,hz,zg,zH]
theorem zzb{m:zD}(h:zcp m):R L Cs zpR [.a (zf m)] []=some (.w (.c (.jb (zu (zbK m 0 m.jd)))),[]):=by
 have hl:=ztu h m.jd 0 [] rfl (jp _) (jp _);have hck:=h.chk;simp only[zf,jg,je,zay,sl,own,jo,zfq]at hl hck;rw[zUa zp3 rfl];simp[zhE,zf,hl,hck,zg]
def zgU(l:List Bool):List (List Cl):=l.map fun b=>[.bool b]
@[simp] theorem zDa(l:List Bool):(zgU l).length=l.length:=by simp[zgU]
theorem zx6(l:List Bool)(i:Nat)(b:Bool):(zgU l).set i [.bool b]=zgU (l.set i b):=by simp[zgU,List.map_set]
@[simp] theorem zBb{l:List Bool}{i:Nat}(h:i<(zgU l).length):(zgU l)[i]=[.bool (l[i]'(by simpa using h))]:=by simp[zgU]
@[simp] theorem zCo(l:List Bool):(zgU l).take l.length=zgU l:=jx (by simp)
theorem zx7(n:Nat):List.replicate n [Cl.bool false]=zgU (List.replicate n false):=by simp[zgU]
def zkj(l:List Bool)(s:List Int):List Bool:=s.foldl (fun l x=>l.set x.toNat true) l
theorem znN:∀(s:List Int) (l:List Bool),(zkj l s).length=l.length
 |[],l=>rfl
 |x::s,l=>by show(zkj (l.set x.toNat true) s).length=_;rw[znN s];simp
abbrev zi(m:zD)(l:List Int)(n:Int)(S T:Cl):List Cl:=[I m.version,.jb (m.jd.map zo),.jb m.qV,.jb m.signals,.jb (m.kW.map zaL),.jb (zu l),.jb (zu (zW m 0 l)),I (zmd m 0 l),I n,S,T]
def zh(m:zD)(l:List Int)(n:Int):List Cl:=zi m l n (.jb (zu (m.jd.map zfn.len))) (.jb (zgU (zkj (List.replicate m.jd.length false) (zbK m 0 m.jd))))
abbrev zqj:List Cl:=[I 0,.jc,.jc,.jc,.jc,.jc,.jc,I 0,I 0,.jc,.jc]
abbrev znf(v:Nat)(l:List Bool):Option Blk:=some { box:=false,esz:=1,rows:=zgU l,gen:=l.length,fz:=false,ver:=v }
theorem zvL{m:zD}(h:zcp m)(l:List Int)(nn:Int)(q:Option Blk)(j:Nat):∀(r:List zfn) (i:Nat) (out:List Int) (v:Nat) (G:Mem),m.jd.drop i=r->i<=m.jd.length->out.length=i->G[j]?=some (some (own 1 (zu out))) ->
  ∃v' G',G'[j]?=some (some (own 1 (zu (out++r.map zfn.len))))/\Y L Cs zc6 (some [28,27,6,3,7]) 4 [(28,.w (W i)),(27,.w (W m.jd.length)),(6,.w (Pt 1)),(3,.w (Pt 0)),(7,.w (Pt 3))] (bx 5 (zf m)::bx 11 zqj::q::bxv v 11 (zi m l nn (.slice (j+4) out.length 1 0 out.length none) (.slice 2 m.jd.length 1 0 m.jd.length none))::G) =
   some (.exit 0,[(29,.w (Bo false)),(28,.w (W m.jd.length)),(27,.w (W m.jd.length)),(6,.w (Pt 1)),(3,.w (Pt 0)),(7,.w (Pt 3))],bx 5 (zf m)::bx 11 zqj::q::bxv v' 11 (zi m l nn (.slice (j+4) (out++r.map zfn.len).length 1 0 (out++r.map zfn.len).length none) (.slice 2 m.jd.length 1 0 m.jd.length none))::G'):=by
 intro r;induction r with
 |nil =>
  intro i out v G hd hi ho hG;obtain rfl:=zUb hd hi;refine⟨v,G,by simpa using hG,?_⟩;rw[ZfM zc6.eq_1];simp
 |cons x r ih =>
  intro i out v G hd hi ho hG;subst ho;obtain⟨hil,hx,hd'⟩:=zL hd;have hn:=h.small.jd;have hw:=zB (i:=out.length) (by omega);have hjG:j<G.length:=(jK.1 hG).1;have hg:∀N:Mem,(G++N)[j]?=some (some (own 1 (zu out))):=fun N=>by rw[jq hjG,hG]
  have AD:∀(N:Mem) (x:Option Blk),(G++N).set j x=G.set j x++N:=fun N x=>uy _ _ hjG
  have hL:=zrQ h hil;rw[hx]at hL;have ku:(out.length+1)*8<=140737488355328:=by omega
  obtain⟨v',G',h1,h2⟩:=ih (out.length+1) (out++[x.len]) (v+1) (G.set j (some (own 1 (zu (out++[x.len]))))++[some (own 1 [[I x.len]])]) hd' hil (by simp) (by rw[jq (by simpa using hjG),jY hjG]);have e1:out++(x::r).map zfn.len=(out++[x.len])++r.map zfn.len:=by simp
  refine⟨v',G',by rw[e1];exact h1,?_⟩;rw[e1,<-h2,ZfM zc6.eq_1];simp only[own,zfq,zf]at hg hL;have hdr:∀(E:Env) (p q s:Option Blk) (w g len:Nat) (N:Mem),kD 4 E (p::q::s::bxv w 11 (zi m l nn (.slice (j+4) g 1 0 len none) (.slice 2 m.jd.length 1 0 m.jd.length none))::N)=(p::q::s::bxv w 11 (zi m l nn (.slice (j+4) g 1 0 len none) (.slice 2 m.jd.length 1 0 m.jd.length none))::N):=by
   intro E p q s w g len N;unfold kD;split
   ·rfl
   ·rw[if_neg];simp[zH,Blk.below,Eng.below,yq]
  simp only[bxv,zi]at hdr;simp[hil,hL,zf,hw,hg,AD,ku,zg,hdr,-kD]
theorem zvK{m:zD}(l:List Int)(nn:Int)(n0:Nat)(a b:Option Blk)(S:Cl)(w:Nat)(G:Mem)(hn0:n0=G.length+4)(s:List Int)(hs:s.length<=1000)(hon:zj2 m s):∀(r:List Int) (i:Nat) (src:List Bool) (v:Nat),s.drop i=r->i<=s.length->src.length=m.jd.length ->
  ∃v',v<=v'/\Y L Cs ze5 (some [43,42,6,41,7]) n0 [(43,.w (W i)),(42,.w (W s.length)),(6,.w (Pt 1)),(41,.w (.c (.jb (zu s)))),(7,.w (Pt 3))] (a::b::znf v src::bxv w 11 (zi m l nn S (.slice 2 m.jd.length 1 0 m.jd.length none))::G) =
   some (.exit 2,[(44,.w (Bo false)),(43,.w (W s.length)),(42,.w (W s.length)),(6,.w (Pt 1)),(41,.w (.c (.jb (zu s)))),(7,.w (Pt 3))],a::b::znf v' (zkj src r)::bxv w 11 (zi m l nn S (.slice 2 m.jd.length 1 0 m.jd.length none))::G):=by
 intro r;induction r with
 |nil =>
  intro i src v hd hi hl;obtain rfl:=zUb hd hi;refine⟨v,jm _,?_⟩;rw[ZfM ze5.eq_1];simp[zkj]
 |cons x r ih =>
  intro i src v hd hi hl;obtain⟨hil,hx,hd'⟩:=zL hd;have hxm:=hon x (by rw[<-hx];exact jf _);have hw:=zB (i:=i) (by omega);obtain⟨n,rfl⟩:=jB hxm.1;have hn:n<m.jd.length:=by omega
  have hn2:n<src.length:=by omega
  obtain⟨v',h1,h2⟩:=ih (i+1) (src.set n true) (v+1) hd' hil (by simp[hl]);refine⟨v',by omega,?_⟩;have e:zkj src (((n:Nat):Int)::r)=zkj (src.set n true) r:=rfl;rw[e,<-h2,ZfM ze5.eq_1];have hdl:∀(E:Env) (p q s t:Option Blk),kD n0 E (p::q::s::t::G)=p::q::s::t::G:=by
   intro E p q s t;unfold kD;rw[if_pos (by simp[hn0])]
  have hs':=zx6 src n true;simp[hil,hx,hw,hn,hn2,hl,hdl,hs',znf,-kD]
theorem zra{M:Mem}{id g es len:Nat}{rows:List (List Cl)}{v:Nat}(h:M[id]?=some (some { box:=false,esz:=es,rows:=rows,gen:=g,fz:=false,ver:=v }))(hl:rows.length=len):zdR M (.slice id g es 0 len none)=some (.jb rows):=by
 subst hl;simp[zdR,look,h]
theorem zB9{m:zD}(h:zcp m){l:List Int}(hr:zdA m l=0)(nn:Int):R L Cs zrj [.a (zf m),.c (.jb (zu l)),W nn] []=some (.w (.a (zh m l nn)),[]):=by
 have hS:=zAY h hr;have hT:=zsq h hr;have hO:=zzb h;have hn:=h.small.jd;have hsl:=zlK m m.jd 0;have hson:=zp8 m m.jd 0 (by omega);have hne:m.jd≠[]:=by
  intro e;have:=(zg1 h hr).1;cases l with
  |nil=>exact(zg1 h hr).2.1 rfl
  |cons x t=>have:=this x (by simp);rw[e]at this;simp at this;omega
 obtain⟨x,r,hl⟩:=vn hne;have hlen1:([x.len]++r.map zfn.len).length=m.jd.length:=by rw[hl];simp
 have hmap:[x.len]++r.map zfn.len=m.jd.map zfn.len:=by rw[hl];simp
 obtain⟨v1,G,hG,h1⟩:=zvL h l nn (znf m.jd.length (List.replicate m.jd.length false)) 1 r 1 [x.len] 2 [some (own 1 [[I x.len]]),some (own 1 (zu [x.len]))] (by rw[hl];rfl) (by rw[hl];simp) rfl rfl;rw[hlen1]at h1;have Dz:Y L Cs zc6 (some [28,27,6,3,7]) 4 [(28,.w (W 0)),(27,.w (W m.jd.length)),(6,.w (Pt 1)),(3,.w (Pt 0)),(7,.w (Pt 3))] [bx 5 (zf m),bx 11 zqj,znf m.jd.length (List.replicate m.jd.length false),bxv 1 11 (zi m l nn .jc (.slice 2 m.jd.length 1 0 m.jd.length none))] =
   some (.exit 0,[(29,.w (Bo false)),(28,.w (W m.jd.length)),(27,.w (W m.jd.length)),(6,.w (Pt 1)),(3,.w (Pt 0)),(7,.w (Pt 3))],bx 5 (zf m)::bx 11 zqj::znf m.jd.length (List.replicate m.jd.length false)::bxv v1 11 (zi m l nn (.slice (1+4) m.jd.length 1 0 m.jd.length none) (.slice 2 m.jd.length 1 0 m.jd.length none))::G):=by
  have hll:0<m.jd.length:=by rw[hl];simp
  have h0:m.jd[0]=x:=by simp[hl]
  have hL:=zrQ h hll;rw[h0]at hL;simp only[kg,jg,jk,jo,own,zf]at hL h1 ⊢;rw[<-h1,ZfM zc6.eq_1];have hw:IntKind.i64.wrap 1=1:=rfl;have hr':(0:Int)<(m.jd.length:Int):=by omega
  simp[hll,hL,hw,zg,hr']
 obtain⟨v2,hv2,h2⟩:=zvK l nn (G.length+4) (bx 5 (zf m)) (bx 11 zqj) (.slice (1+4) m.jd.length 1 0 m.jd.length none) v1 G rfl (zbK m 0 m.jd) (by omega) hson (zbK m 0 m.jd) 0 (List.replicate m.jd.length false) m.jd.length rfl (jp _) (by simp);have hfz:∀(a b c d:Option Blk),zoS (a::b::c::d::G) (.w (.a (zi m l nn (.slice (1+4) m.jd.length 1 0 m.jd.length none) (.slice 2 m.jd.length 1 0 m.jd.length none))))=(match zdR (a::b::c::d::G) (.slice 2 m.jd.length 1 0 m.jd.length none)with |some T=>some (.w (.a (zi m l nn (.jb (zu (m.jd.map zfn.len))) T))) |none=>none):=by
  intro a b c d;have e1:zdR (a::b::c::d::G) (.slice (1+4) m.jd.length 1 0 m.jd.length none)=some (.jb (zu (m.jd.map zfn.len))):=by
   refine zra (v:=m.jd.length) ?_ (by simp);show G[1]?=_;rw[hG,hmap];simp
  simp only[zoS,zn7,yL,e1,zvj,zxC];cases zdR (a::b::c::d::G) (.slice 2 m.jd.length 1 0 m.jd.length none)<;>rfl
 have hrep:List.replicate m.jd.length [Cl.bool false]=zgU (List.replicate m.jd.length false):=zx7 _;simp only[zf,zi,jg,znf,uY]at hS hT hO Dz h2 hfz;have ku:m.jd.length<=140737488355328:=by omega
 rw[zUa zrZ rfl];have hd0:∀(E:Env) (p q s t:Option Blk),kD (G.length+4) E (p::q::s::t::G)=p::q::s::t::G:=by
  intro E p q s t;unfold kD;rw[if_pos (by simp)]
 have hd4:∀(E:Env) (p q s t:Option Blk),kD 4 E [p,q,s,t]=[p,q,s,t]:=by
  intro E p q s t;simp[kD]
 simp[ziv,zf,hS,hT,hO,Dz,h2,hrep,zg,ku,hd0,hd4,-leave,-kD];have hbl:(zkj (List.replicate m.jd.length false) (zbK m 0 m.jd)).length=m.jd.length:=by rw[znN];simp
 refine zid ?_ (r':=.w (.a (zh m l nn))) rfl;refine(hfz _ _ _ _).trans ?_;rw[hbl];have e2:∀(a b d:Option Blk),zdR (a::b::some { box:=false,esz:=1,rows:=zgU (zkj (List.replicate m.jd.length false) (zbK m 0 m.jd)),gen:=m.jd.length,fz:=false,ver:=v2 }::d::G) (.slice 2 m.jd.length 1 0 m.jd.length none)=some (.jb (zgU (zkj (List.replicate m.jd.length false) (zbK m 0 m.jd)))):=fun a b d=>zra (v:=v2) rfl (by simp[hbl])
 rw[e2];rfl
def zaK(m:zD)(i:Int):Int:=((m.jd[i.toNat]?).map zfn.kind).getD 0
abbrev zqY:zk:=⟨-1,0,0,0,0,0⟩
def AE(m:zD)(b:zk):Prop:=b.lo<0\/b.hi<b.lo\/z8 m b.lane<b.hi\/b.vlo<0\/b.vhi<b.vlo\/zeR (zaK m b.lane)<b.vhi\/b.hold<0\/z8 m b.lane<b.hold
instance(m:zD)(b:zk):Decidable (AE m b):=by unfold AE;infer_instance
def zmM(p b:zk):Prop:=b.lane<p.lane\/(b.lane=p.lane/\b.lo<=p.hi+1)
instance(p b:zk):Decidable (zmM p b):=by unfold zmM;infer_instance
def zer(m:zD)(p b:zk):Int:=if b.lane<0\/(m.jd.length:Int)<=b.lane then 7 else if AE m b then 2 else if zmM p b then 11 else 0
def zls(m:zD):zk->List zk->Int
 |_,[]=>0
 |p,b::r=>if zer m p b≠0 then zer m p b else zls m b r
theorem ziC(n lo hi:Int):R L Cs zrd [W n,W lo,W hi] []=some (.w (Bo (decide (lo<=n)&&decide (n<=hi))),[]):=by
 rw[zUa zrT rfl];by_cases h:lo<=n
 ·simp[zgJ,h]
 ·simp[zgJ,h]
section
variable{m:zD}(h:zcp m)(k:zci)
abbrev ckM(m:zD)(k:zci)(v:Nat)(p:zk):Mem:=[bx 5 (zf m),bx 6 (zG k),bxv 1 4 (zch k.ego),bxv v 6 (ze p)]
abbrev ckE(k:zci)(i:Nat):Env:=[(62,.w (W k.jR.length)),(61,.w (.c (.jb (zI k.jR)))),(7,.w (Pt 3)),(2,.w (Pt 0)),(63,.w (W i))]
include h in
theorem zw8(hk:k.jR.length<=100000000000)(i:Nat)(hi:i<k.jR.length)(p:zk)(v:Nat)(hp:-1<=p.lane/\0<=p.hi/\p.hi<=1000000) :
  (zer m p k.jR[i]=0->Y L Cs zTe (some [62,61,7,2,63]) 4 (ckE k i) (ckM m k v p)=Y L Cs zTe (some [62,61,7,2,63]) 4 (ckE k (i+1)) (ckM m k (v+1) k.jR[i])) /\
  (zer m p k.jR[i]≠0->Y L Cs zTe (some [62,61,7,2,63]) 4 (ckE k i) (ckM m k v p)=some (.ret,[(4,.w (W (zer m p k.jR[i])))],ckM m k v p++[bxv 1 6 (ze k.jR[i])])):=by
 have hw:=zB (i:=i) (by omega);generalize hb:k.jR[i]=b;obtain⟨bl,lo,hi',vlo,vhi,hold⟩:=b;have hpw:=qG (p.hi+1);by_cases c1:bl<0
 ·have e:zer m p ⟨bl,lo,hi',vlo,vhi,hold⟩=7:=by simp[zer,c1]
  rw[e];refine⟨fun h=>(by cases h),fun _=>?_⟩;rw[ZfM zTe.eq_1];simp[hi,hb,ze,c1]
 by_cases c2:(m.jd.length:Int)<=bl
 ·have e:zer m p ⟨bl,lo,hi',vlo,vhi,hold⟩=7:=by simp[zer,c2]
  rw[e];refine⟨fun h=>(by cases h),fun _=>?_⟩;rw[ZfM zTe.eq_1];simp[hi,hb,ze,c1,c2,zf]
 obtain⟨n,rfl⟩:=jB (show 0<=bl by omega);have hn:n<m.jd.length:=by omega
 have hL:=zrQ h hn;have hB:=zmo (h.kind _ (jf hn));have eL:z8 m (n:Int)=m.jd[n].len:=by simp[z8,hn]
 have eK:zaK m (n:Int)=m.jd[n].kind:=by simp[zaK,hn]
 have hl1:=h.Cj _ (jf hn);have hW:=ziC hold 0 m.jd[n].len;generalize Aj:m.jd[n]=ln at *;simp only[zf]at hL;have c1':¬((n:Int)<0):=by omega
 have Cx:AE m ⟨(n:Int),lo,hi',vlo,vhi,hold⟩->zer m p ⟨(n:Int),lo,hi',vlo,vhi,hold⟩=2:=fun ho=>by
  unfold zer;rw[if_neg (by simp;omega),if_pos ho]
 by_cases d1:lo<0
 ·have e:=Cx (by simp only[AE,eL,eK];omega);rw[e];refine⟨fun h=>(by cases h),fun _=>?_⟩;rw[ZfM zTe.eq_1];simp[hi,hb,ze,c1',c2,hn,Aj,zf,zo,zG,hL,hB,hW,d1]
 by_cases d2:hi'<lo
 ·have e:=Cx (by simp only[AE,eL,eK];omega);rw[e];refine⟨fun h=>(by cases h),fun _=>?_⟩;rw[ZfM zTe.eq_1];simp[hi,hb,ze,c1',c2,hn,Aj,zf,zo,zG,hL,hB,hW,d1,d2]
 by_cases d3:ln.len<hi'
 ·have e:=Cx (by simp only[AE,eL,eK];omega);rw[e];refine⟨fun h=>(by cases h),fun _=>?_⟩;rw[ZfM zTe.eq_1];simp[hi,hb,ze,c1',c2,hn,Aj,zf,zo,zG,hL,hB,hW,d1,d2,d3]
 by_cases d4:vlo<0
 ·have e:=Cx (by simp only[AE,eL,eK];omega);rw[e];refine⟨fun h=>(by cases h),fun _=>?_⟩;rw[ZfM zTe.eq_1];simp[hi,hb,ze,c1',c2,hn,Aj,zf,zo,zG,hL,hB,hW,d1,d2,d3,d4]
 by_cases d5:vhi<vlo
 ·have e:=Cx (by simp only[AE,eL,eK];omega);rw[e];refine⟨fun h=>(by cases h),fun _=>?_⟩;rw[ZfM zTe.eq_1];simp[hi,hb,ze,c1',c2,hn,Aj,zf,zo,zG,hL,hB,hW,d1,d2,d3,d4,d5]
 by_cases d6:zeR ln.kind<vhi
 ·have e:=Cx (by simp only[AE,eL,eK];omega);rw[e];refine⟨fun h=>(by cases h),fun _=>?_⟩;rw[ZfM zTe.eq_1];simp[hi,hb,ze,c1',c2,hn,Aj,zf,zo,zG,hL,hB,hW,d1,d2,d3,d4,d5,d6]
 by_cases d7:hold<0
 ·have e:=Cx (by simp only[AE,eL,eK];omega);rw[e];refine⟨fun h=>(by cases h),fun _=>?_⟩;rw[ZfM zTe.eq_1];simp[hi,hb,ze,c1',c2,hn,Aj,zf,zo,zG,hL,hB,hW,d1,d2,d3,d4,d5,d6,d7]
 by_cases d8:ln.len<hold
 ·have e:=Cx (by simp only[AE,eL,eK];omega);rw[e];refine⟨fun h=>(by cases h),fun _=>?_⟩;rw[ZfM zTe.eq_1];simp[hi,hb,ze,c1',c2,hn,Aj,zf,zo,zG,hL,hB,hW,d1,d2,d3,d4,d5,d6,d7,d8]
 have e0:¬AE m ⟨(n:Int),lo,hi',vlo,vhi,hold⟩:=by simp only[AE,eL,eK];omega
 have g1:(0:Int)<=hold:=by omega
 have g2:hold<=ln.len:=by omega
 by_cases o1:(n:Int)<p.lane
 ·have e:zer m p ⟨(n:Int),lo,hi',vlo,vhi,hold⟩=11:=by
   unfold zer;rw[if_neg (by simp;omega),if_neg e0,if_pos (by unfold zmM;simp;omega)]
  rw[e];refine⟨fun h=>(by cases h),fun _=>?_⟩;rw[ZfM zTe.eq_1];simp[hi,hb,ze,c1',c2,hn,Aj,zf,zo,zG,hL,hB,hW,d1,d2,d3,d4,d5,d6,d7,d8,g1,g2,o1]
 by_cases o2:(n:Int)=p.lane
 ·have o2':p.lane=(n:Int):=o2.symm;by_cases o3:lo<=p.hi+1
  ·have e:zer m p ⟨(n:Int),lo,hi',vlo,vhi,hold⟩=11:=by
    unfold zer;rw[if_neg (by simp;omega),if_neg e0,if_pos (by unfold zmM;simp;omega)]
   rw[e];refine⟨fun h=>(by cases h),fun _=>?_⟩;rw[ZfM zTe.eq_1];simp[hi,hb,ze,c1',c2,hn,Aj,zf,zo,zG,hL,hB,hW,d1,d2,d3,d4,d5,d6,d7,d8,g1,g2,o2',o3,hpw]
  ·have e:zer m p ⟨(n:Int),lo,hi',vlo,vhi,hold⟩=0:=by
    unfold zer;rw[if_neg (by simp;omega),if_neg e0,if_neg (by unfold zmM;simp;omega)]
   rw[e];refine⟨fun _=>?_,fun h=>(absurd rfl h)⟩;rw[ZfM zTe.eq_1];simp[hi,hb,ze,c1',c2,hn,Aj,zf,zo,zG,hL,hB,hW,d1,d2,d3,d4,d5,d6,d7,d8,g1,g2,o2',o3,hpw,hw,ckE,ckM]
 ·have e:zer m p ⟨(n:Int),lo,hi',vlo,vhi,hold⟩=0:=by
   unfold zer;rw[if_neg (by simp;omega),if_neg e0,if_neg (by unfold zmM;simp;omega)]
  rw[e];have b2:((n:Int)==p.lane)=false:=by simp[o2]
  refine⟨fun _=>?_,fun h=>(absurd rfl h)⟩;rw[ZfM zTe.eq_1];simp[hi,hb,ze,c1',c2,hn,Aj,zf,zo,zG,hL,hB,hW,d1,d2,d3,d4,d5,d6,d7,d8,g1,g2,o1,o2,b2,hw,ckE,ckM]
end
abbrev zsa:Int:=1099511627776
def ziI(k:zci):Prop:=k.tick<0\/zsa<k.tick\/k.ego.slo<0\/k.ego.shi<k.ego.slo\/zsa<k.ego.shi\/k.ego.vlo<0\/k.ego.vhi<k.ego.vlo\/2000<k.ego.vhi
instance(k:zci):Decidable (ziI k):=by unfold ziI;infer_instance
def zdf(m:zD)(k:zci):Int:=if ziI k then 2 else zls m zqY k.jR
theorem zui{m:zD}(h:zcp m){p b:zk}(hc:zer m p b=0):0<=b.lane/\b.lane<m.jd.length/\0<=b.lo/\b.lo<=b.hi/\b.hi<=z8 m b.lane/\0<=b.vlo/\b.vlo<=b.vhi/\b.vhi<=zeR (zaK m b.lane)/\0<=b.hold/\b.hold<=z8 m b.lane/\z8 m b.lane<=1000000/\¬zmM p b:=by
 unfold zer at hc;split at hc
 ·cases hc
 rename_i h1;split at hc
 ·cases hc
 rename_i h2;split at hc
 ·cases hc
 rename_i h3;unfold AE at h2;obtain⟨n,hn⟩:=jB (show 0<=b.lane by omega);have hl:n<m.jd.length:=by omega
 have hl1:=h.Cj _ (jf hl);have e:z8 m b.lane=m.jd[n].len:=by rw[hn];simp[z8,hl]
 refine⟨by omega,by omega,by omega,by omega,by omega,by omega,by omega,by omega,by omega,by omega,by omega,h3⟩
theorem zw9{m:zD}(h:zcp m)(k:zci)(hk:k.jR.length<=100000000000):∀(r:List zk) (i:Nat) (p:zk) (v:Nat),k.jR.drop i=r->i<=k.jR.length->(-1<=p.lane/\0<=p.hi/\p.hi<=1000000) ->
  ∃M' E',Y L Cs zTe (some [62,61,7,2,63]) 4 (ckE k i) (ckM m k v p)=some (if zls m p r=0 then(.exit 0,E',M') else(.ret,[(4,.w (W (zls m p r)))],M')):=by
 intro r;induction r with
 |nil =>
  intro i p v hd hi hp;obtain rfl:=zUb hd hi;refine⟨ckM m k v p,[(64,.w (Bo false)),(2,.w (Pt 0)),(7,.w (Pt 3)),(61,.w (.c (.jb (zI k.jR)))),(62,.w (W k.jR.length)),(63,.w (W k.jR.length))],?_⟩;rw[ZfM zTe.eq_1];simp[zls]
 |cons b r ih =>
  intro i p v hd hi hp;obtain⟨hil,hb,hd'⟩:=zL hd;obtain⟨s1,s2⟩:=zw8 h k hk i hil p v hp;rw[hb]at s1 s2;by_cases hc:zer m p b=0
  ·have ho:=zui h hc;obtain⟨M',E',h4⟩:=ih (i+1) b (v+1) hd' hil (by omega);refine⟨M',E',?_⟩;rw[s1 hc,h4];simp[zls,hc]
  ·refine⟨ckM m k v p++[bxv 1 6 (ze b)],[],?_⟩;rw[s2 hc];simp[zls,hc]
theorem zuu{m:zD}(h:zcp m)(k:zci)(hk:k.jR.length<=100000000000):R L Cs zsg [.a (zf m),.a (zG k)] []=some (.w (W (zdf m k)),[]):=by
 have hck:=h.chk;obtain⟨M',E',hl⟩:=zw9 h k hk k.jR 0 zqY 1 rfl (jp _) (by decide);have hW:=ziC k.tick 0 zsa;simp only[ckE,ckM,zf,zG,ze,jg,bx,bxv,zch]at hl hck;rw[zUa zss rfl];by_cases d1:k.tick<0
 ·have e:zdf m k=2:=by rw[zdf,if_pos (by unfold ziI;omega)]
  have d1':¬(0:Int)<=k.tick:=by omega
  simp[zbJ,zf,zG,hck,hW,e,d1,d1']
 by_cases d2:zsa<k.tick
 ·have e:zdf m k=2:=by rw[zdf,if_pos (by unfold ziI;omega)]
  have d2':¬k.tick<=zsa:=by omega
  simp[zbJ,zf,zG,hck,hW,e,d1,d2,d2']
 have g1:(0:Int)<=k.tick:=by omega
 have g2:k.tick<=zsa:=by omega
 by_cases d3:k.ego.slo<0
 ·have e:zdf m k=2:=by rw[zdf,if_pos (by unfold ziI;omega)]
  simp[zbJ,zf,zG,hck,hW,e,d1,d2,g1,g2,d3]
 by_cases d4:k.ego.shi<k.ego.slo
 ·have e:zdf m k=2:=by rw[zdf,if_pos (by unfold ziI;omega)]
  simp[zbJ,zf,zG,hck,hW,e,d1,d2,g1,g2,d3,d4]
 by_cases d5:zsa<k.ego.shi
 ·have e:zdf m k=2:=by rw[zdf,if_pos (by unfold ziI;omega)]
  simp[zbJ,zf,zG,hck,hW,e,d1,d2,g1,g2,d3,d4,d5]
 by_cases d6:k.ego.vlo<0
 ·have e:zdf m k=2:=by rw[zdf,if_pos (by unfold ziI;omega)]
  simp[zbJ,zf,zG,hck,hW,e,d1,d2,g1,g2,d3,d4,d5,d6]
 by_cases d7:k.ego.vhi<k.ego.vlo
 ·have e:zdf m k=2:=by rw[zdf,if_pos (by unfold ziI;omega)]
  simp[zbJ,zf,zG,hck,hW,e,d1,d2,g1,g2,d3,d4,d5,d6,d7]
 by_cases d8:2000<k.ego.vhi
 ·have e:zdf m k=2:=by rw[zdf,if_pos (by unfold ziI;omega)]
  simp[zbJ,zf,zG,hck,hW,e,d1,d2,g1,g2,d3,d4,d5,d6,d7,d8]
 have e:zdf m k=zls m zqY k.jR:=by rw[zdf,if_neg (by unfold ziI;omega)]
 rw[e];by_cases hz:zls m zqY k.jR=0
 ·rw[if_pos hz]at hl;rw[hz];simp[zbJ,zf,zG,hck,hW,hl,d1,d2,g1,g2,d3,d4,d5,d6,d7,d8,-leave];exact zid rfl rfl
 ·rw[if_neg hz]at hl;simp[zbJ,zf,zG,hck,hW,hl,d1,d2,g1,g2,d3,d4,d5,d6,d7,d8,-leave];exact zid rfl rfl
abbrev fn1(f:Nat):WV:=.c (.fn f [] [])
abbrev bad(b:zk):Bool:=decide (b.hi<b.lo)
abbrev blk(v:Nat)(l:List zk):Option Blk:=some { box:=false,esz:=6,rows:=zI l,gen:=l.length,fz:=false,ver:=v }
theorem zeg(l:List zk)(i:Nat)(b:zk):(zI l).set i (ze b)=zI (l.set i b):=by simp[zI,List.map_set]
theorem zwT(l:List zk)(hl:l.length<=900000000000):Y L Cs zbF (some [7,1,0,8]) 0 [(7,.w (W l.length)),(1,.w (fn1 zct)),(0,.w (.c (.jb (zI l)))),(8,.w (W (0:Nat)))] [] =
  some (match l.findIdx? bad with |some i=>(.ret,[(4,.w (W i))],[]) |none=>(.exit 0,[(9,.w (Bo false)),(0,.w (.c (.jb (zI l)))),(1,.w (fn1 zct)),(7,.w (W l.length)),(8,.w (W l.length))],[])):=by
 refine zxf l (fun i=>[(7,.w (W l.length)),(1,.w (fn1 zct)),(0,.w (.c (.jb (zI l)))),(8,.w (W i))]) _ _ _ _ ?_ ?_ ?_
 ·intro i h hp;have hw:=zB (i:=i) (by omega);have hc:=zrR l[i];simp only[bad]at hp;rw[hp]at hc;simp only[ze]at hc;rw[ZfM zbF.eq_1];simp[h,hw,hc,ze]
 ·intro i h hp;have hc:=zrR l[i];simp only[bad]at hp;rw[hp]at hc;simp only[ze]at hc;rw[ZfM zbF.eq_1];simp[h,hc,ze]
 ·rw[ZfM zbF.eq_1];simp
def zbe:Option Nat->Int
 |some i=>i
 |none=>-1
theorem zvV(l:List zk)(hl:l.length<=900000000000):R L Cs zjK [.c (.jb (zI l)),fn1 zct] []=some (.w (W (zbe (l.findIdx? bad))),[]):=by
 have h:=zwT l hl;simp only[jg]at h;rw[zUa zj5 rfl];cases hf:l.findIdx? bad with
 |none =>
  simp only[hf]at h;simp[zc2,h,zbe]
 |some i =>
  simp only[hf]at h;simp[zc2,h,zbe]
theorem zvq(n:Nat)(hn:n<=900000000000):∀(r:List zk) (l:List zk) (i j v:Nat),l.length=n->l.drop j=r->i<j->j<=n->∃l' i' v',v<=v'/\(v'=v->l'=l)/\l'.length=n/\i'<=n/\l'.take i'=l.take i++r.filter (fun b=>!bad b) /\
  Y L Cs zbw (some [5,6,1,0]) 2 [(5,.w (W i)),(6,.w (W j)),(1,.w (fn1 zct)),(0,.w (.c (.slice 0 n 6 0 n none)))] [blk v l,gb 6] =
    some (.exit 0,[(19,.w (Bo false)),(5,.w (W i')),(6,.w (W n)),(1,.w (fn1 zct)),(0,.w (.c (.slice 0 n 6 0 n none)))],[blk v' l',gb 6]):=by
 intro r;induction r with
 |nil =>
  intro l i j v hl hd hij hj;obtain rfl:=zUb hd (by omega);refine⟨l,i,v,jm _,fun _=>rfl,hl,by omega,by simp,?_⟩;rw[ZfM zbw.eq_1];simp[hl]
 |cons x r ih =>
  intro l i j v hl hd hij hj;obtain⟨hjl,hx,hd'⟩:=zL hd;have hw:=zB (i:=j) (by omega);have hw2:=zB (i:=i) (by omega);have hc:=zrR x;have hjn:j<n:=by omega
  have hin:i<n:=by omega
  by_cases hb:x.hi<x.lo
  ·obtain⟨l',i',v',g1,g2,h1,h2,h3,h4⟩:=ih l i (j+1) v hl hd' (by omega) (by omega);refine⟨l',i',v',g1,g2,h1,h2,by simp[h3,hb],?_⟩;rw[<-h4,ZfM zbw.eq_1];simp[hb,ze]at hc;simp[hl,hjl,hjn,hx,hc,hw,ze]
  ·obtain⟨l',i',v',g1,g2,h1,h2,h3,h4⟩:=ih (l.set i x) (i+1) (j+1) (v+1) (by simp[hl]) (by rw[List.drop_set_of_lt (by omega)];exact hd') (by omega) (by omega);have ht:(l.set i x).take (i+1)=l.take i++[x]:=by
    rw[qJ (by simp;omega),List.take_set_of_le (jm _)];simp
   refine⟨l',i',v',by omega,fun hv=>by omega,h1,h2,by rw[h3,ht];simp[hb],?_⟩;rw[<-h4,ZfM zbw.eq_1];simp[hb,ze]at hc;have hs:=zeg l i x;simp only[ze]at hs;simp[hl,hjl,hjn,hin,hx,hc,hw,hw2,hs,ze,blk]
abbrev z9:zk:=⟨0,0,0,0,0,0⟩
@[simp] theorem zCd(l:List zk)(k:Nat):(zI l).take k=zI (l.take k):=by simp[zI,Af]
@[simp] theorem zCx(l:List zk)(k:Nat):(zI l).drop k=zI (l.drop k):=by simp[zI,List.map_drop]
@[simp] theorem zCv(k:Nat):List.replicate k [I 0,I 0,I 0,I 0,I 0,I 0]=zI (List.replicate k z9):=by simp[zI,ze]
theorem zuw(l:List zk)(v:Nat)(hn:l.length<=900000000000):∃l' v',v<=v'/\(v'=v->l'=l)/\l'.length=l.length/\(l.filter (fun b=>!bad b)).length<=l.length/\l'.take (l.filter (fun b=>!bad b)).length=l.filter (fun b=>!bad b) /\
  R L Cs zjk [.c (.slice 0 l.length 6 0 l.length none),fn1 zct] [blk v l]=some (.w (.c (.slice 0 l.length 6 0 (l.filter (fun b=>!bad b)).length none)),[blk v' l']):=by
 have hi:=zvV l hn;rw[zUa zjx rfl];cases hf:l.findIdx? bad with
 |none =>
  have vh:∀b∈l,bad b=false:=fun b hb=>kl.1 hf b hb
  have hfil:l.filter (fun b=>!bad b)=l:=List.filter_eq_self.2 fun b hb=>by rw[vh b hb];rfl
  refine⟨l,v,jm _,fun _=>rfl,rfl,by rw[hfil];exact jm _,by rw[hfil];simp,?_⟩;rw[hfil];simp only[hf,zbe]at hi;simp[zb6,hi,zX]
 |some k =>
  obtain⟨hk,hbk,Ct⟩:=jT.1 hf;obtain⟨l',i',v',g1,g2,h1,h2,h3,h4⟩:=zvq l.length hn (l.drop (k+1)) l k (k+1) v rfl rfl (by omega) hk;have hpre:l.filter (fun b=>!bad b)=l.take k++(l.drop (k+1)).filter (fun b=>!bad b):=by
   conv=>lhs;rw[<-kd k l,List.filter_append,js hk,uq]
   rw[if_neg (by simp[hbk])]
   congr 1
   refine List.filter_eq_self.2 fun b hb=>?_
   obtain⟨j,hj,rfl⟩:=uD hb;simp at hj;have:=Ct j (by omega);simpa using this
  rw[<-hpre]at h3;have hlen:(l.filter (fun b=>!bad b)).length=i':=by rw[<-h3];simp;omega
  have hw:=zB (i:=k) (by omega);simp only[hf,zbe]at hi;refine⟨if l.length-i'=0 then l' else l'.take i'++List.replicate (l.length-i') z9++l'.drop (i'+(l.length-i')),if l.length-i'=0 then v' else v'+1,by split<;>omega,fun hv=>?_,?_,by omega,?_,?_⟩
  ·split at hv
   ·rename_i h0;rw[if_pos h0];exact g2 hv
   ·omega
  ·split
   ·exact h1
   ·simp;omega
  ·rw[hlen,h3.symm];split
   ·rfl
   ·rw[jJ,uN (by simp;omega)];rw[List.take_take,Nat.min_self]
  ·rw[hlen];have hne:((k:Int) == -1)=false:=by simp
   have hi0:(0:Int)<=i'/\(i':Int)<=(l.length:Int):=by omega
   have hil:i'+(l.length-i')<=l'.length:=by omega
   simp only[ju,kg,blk]at h4;by_cases h0:l.length-i'=0
   ·simp[zb6,hi,zX,hne,hw,h4,h0,h2,hi0,h1,blk,zgI,zcl]
   ·simp[zb6,hi,zX,hne,hw,h4,h0,h2,hi0,h1,hil,zgI,zcl,blk]
def bub(l:List zk):Nat->List zk
 |0=>l
 |j+1=>if ziK (l.getD (j+1) z9) (l.getD j z9)<0 then bub ((l.set (j+1) (l.getD j z9)).set j (l.getD (j+1) z9)) j else l
def zq4(l:List zk)(i:Nat):Nat->List zk
 |0=>l
 |m+1=>zq4 (bub l i) (i+1) m
def zeM(a b:zk):zk:=⟨a.lane,min a.lo b.lo,max a.hi b.hi,min a.vlo b.vlo,max a.vhi b.vhi,if a.hold=0\/b.hold=0 then 0 else max a.hold b.hold⟩
theorem zCU(a b:zk):R L Cs zsi [.a (ze a),.a (ze b)] []=some (.w (.a (ze (zeM a b))),[]):=by
 rw[zUa zsw rfl];by_cases h1:a.hold=0
 ·simp[zfO,ze,zeM,h1]
 ·have b1:(a.hold==0)=false:=by simp[h1]
  by_cases h2:b.hold=0
  ·simp[zfO,ze,zeM,h1,h2,b1]
  ·have b2:(b.hold==0)=false:=by simp[h2]
   simp[zfO,ze,zeM,h1,h2,b1,b2]
def meets(a b:zk):Bool:=decide (a.lane=b.lane)&&(decide (b.lo<=a.hi)||decide (b.lo-1=a.hi))
def zaQ(out:List zk)(b:zk):List zk :=
 if 0<out.length/\meets (out.getD (out.length-1) z9) b=true then out.set (out.length-1) (zeM (out.getD (out.length-1) z9) b) else out++[b]
structure OKB(b:zk):Prop where
 lo1:-9223372036854775808<=b.lo
 lo2:b.lo<=9223372036854775807
 hi1:-9223372036854775808<=b.hi
 hi2:b.hi<=9223372036854775807
theorem zBI{a b:zk}(ha:OKB a)(hb:OKB b):OKB (zeM a b):=⟨by simp[zeM];have:=ha.lo1;have:=hb.lo1;omega,by simp[zeM];have:=ha.lo2;have:=hb.lo2;omega,by simp[zeM];have:=ha.hi1;have:=hb.hi1;omega,by simp[zeM];have:=ha.hi2;have:=hb.hi2;omega⟩
theorem zva{out:List zk}{b:zk}(h:∀x∈out,OKB x)(hb:OKB b):∀x∈zaQ out b,OKB x:=by
 intro x hx;unfold zaQ at hx;split at hx
 ·rename_i hc;rcases vE hx with h1|h1
  ·exact h x h1
  ·subst h1;refine zBI (h _ ?_) hb;have:out.length-1<out.length:=by omega
   rw[jw,jr this];exact jf this
 ·rcases jN.1 hx with h1|h1
  ·exact h x h1
  ·simp at h1;subst h1;exact hb
theorem zt3(out:List zk)(b:zk):(zaQ out b).length<=out.length+1:=by
 unfold zaQ;split<;>simp
theorem zyO(S:List zk)(k:Nat)(hk:k<=900000000000)(hS:k<=S.length)(v:Nat)(hok:∀x∈S.take k,OKB x):∀(r:List zk) (i:Nat) (out:List zk) (w:Nat),(S.take k).drop i=r->i<=k->out.length<=i->(∀x∈out,OKB x)->∃w',
  Y L Cs zfv (some [15,14,13,4]) 3 [(15,.w (W i)),(14,.w (W k)),(13,.w (.c (.slice 1 S.length 6 0 k none))),(4,.w (.c (.slice 2 out.length 6 0 out.length none)))] [gb 6,blk v S,blk w out] =
    some (.exit 0,[(16,.w (Bo false)),(15,.w (W k)),(14,.w (W k)),(13,.w (.c (.slice 1 S.length 6 0 k none))),(4,.w (.c (.slice 2 (r.foldl zaQ out).length 6 0 (r.foldl zaQ out).length none)))],[gb 6,blk v S,blk w' (r.foldl zaQ out)]):=by
 intro r;induction r with
 |nil =>
  intro i out w hd hi ho hoo;have:i=k:=by
   have:=zUb hd (by simp;omega);simp at this;omega
  subst this;refine⟨w,?_⟩;rw[ZfM zfv.eq_1];simp
 |cons b r ih =>
  intro i out w hd hi ho hoo;obtain⟨hil,hb,hd'⟩:=zL hd;simp at hil hb;have hik:i<k:=by omega
  have hiS:i<S.length:=by omega
  have hbok:OKB b:=hok b (qw (i:=i) (by rw[hd];exact jy));have hw:=zB (i:=i) (by omega);obtain⟨w',h4⟩:=ih (i+1) (zaQ out b) (if 0<out.length/\meets (out.getD (out.length-1) z9) b=true then w+1 else w+1) hd' hik (by have:=zt3 out b;omega) (zva hoo hbok);refine⟨w',?_⟩;rw[ka,<-h4,ZfM zfv.eq_1];have ku:(out.length+1)*48<=140737488355328:=by omega
  by_cases h0:out.length=0
  ·have e:out=[]:=kh.1 h0;subst e;simp[zaQ,hik,hiS,hb,hw,ze,blk]
  have hp:0<out.length:=by omega
  have hp':(0:Int)<(out.length:Int):=by omega
  have yE:out.length-1<out.length:=by omega
  have e1:out.getD (out.length-1) z9=out[out.length-1]:=by simp[yE]
  have hw1:=qG ((out.length:Int)-1);have i1:(1:Int)<=(out.length:Int):=by omega
  have i2:(out.length:Int)-1<(out.length:Int):=by omega
  have i3:((out.length:Int)-1).toNat=out.length-1:=by omega
  have aok:OKB out[out.length-1]:=hoo _ (jf _);have hc:=zCU out[out.length-1] b;rw[zaQ,e1];generalize ha:out[out.length-1]=a at *;have hs:=zeg out (out.length-1) (zeM a b);simp only[ze]at hc hs;by_cases h2:a.lane=b.lane
  ·rw[h2]at hc;by_cases h3:b.lo<=a.hi
   ·have hm:meets a b=true:=by simp[meets,h2,h3]
    simp[hm,hik,hiS,hb,hw,ze,blk,hp,hp',hw1,i1,i2,i3,yE,ha,h2,h3,hc,hs]
   ·have hw2:IntKind.i64.wrap (b.lo-1)=b.lo-1:=zTd _ (by have:=aok.hi1;omega) (by have:=hbok.lo2;omega);by_cases h5:b.lo-1=a.hi
    ·have hm:meets a b=true:=by simp[meets,h2,h5]
     have hw3:IntKind.i64.wrap a.hi=a.hi:=zTd _ aok.hi1 aok.hi2;simp[hw3,hm,hik,hiS,hb,hw,ze,blk,hp,hp',hw1,i1,i2,i3,yE,ha,h2,h3,hc,hs,hw2,h5]
    ·have hm:meets a b=false:=by simp[meets,h2,h3,h5]
     have b5:(b.lo-1==a.hi)=false:=by simp[h5]
     simp[hm,hik,hiS,hb,hw,ze,blk,hp,hp',hw1,i1,i2,i3,yE,ha,h2,h3,hw2,h5,b5,ku]
  ·have hm:meets a b=false:=by simp[meets,h2]
   have b2:(a.lane==b.lane)=false:=by simp[h2]
   simp[hm,hik,hiS,hb,hw,ze,blk,hp,hp',hw1,i1,i2,i3,yE,ha,h2,b2,ku]
def zzs(l:List zk):List zk:=zq4 l 1 (l.length-1)
def zAj(l:List zk):List zk:=(zzs (l.filter fun b=>!bad b)).foldl zaQ []
def ltB(a b:zk):Bool:=decide (a.lane<b.lane)||(decide (a.lane=b.lane)&&decide (a.lo<b.lo))
theorem znX(a b:zk):(ziK a b<0)<->ltB a b=true:=by
 unfold ziK ltB zgQ;by_cases h1:a.lane<b.lane
 ·simp[h1]
 ·by_cases h2:b.lane<a.lane
  ·have h3:¬a.lane=b.lane:=by omega
   simp[h1,h2,h3]
  ·have h3:a.lane=b.lane:=by omega
   by_cases h4:a.lo<b.lo
   ·simp[h3,h4]
   ·by_cases h5:b.lo<a.lo
    ·simp[h3,h4,h5]
    ·simp[h3,h4,h5]
def zev(x:zk)(s:List zk):Nat->Nat
 |0=>0
 |a+1=>if ltB x (s.getD a z9)=true then zev x s a else a+1
theorem zl0(x:zk)(s:List zk):∀a,zev x s a<=a
 |0=>jm _
 |a+1=>by unfold zev;split;exact uc (zl0 x s a);exact jm _
def zfK(s:List zk)(x:zk):List zk:=s.take (zev x s s.length)++x::s.drop (zev x s s.length)
theorem zn4(s:List zk)(x:zk):(zfK s x).length=s.length+1:=by
 have:=zl0 x s s.length;simp[zfK];omega
def zb5(s:List zk)(x:zk):List zk:=if bad x=true then s else zfK s x
def glue(a b:zk):zk:=⟨b.lane,a.lo,max a.hi b.hi,min a.vlo b.vlo,max a.vhi b.vhi,if a.hold=0\/b.hold=0 then 0 else max a.hold b.hold⟩
def far(a b:zk):Bool:=!decide (a.lane=b.lane)||(decide (a.hi<b.lo)&&decide (a.hi<b.lo-1))
def zcP(out:List zk)(b:zk):List zk :=
 if 0<out.length/\far (out.getD (out.length-1) z9) b=false then out.set (out.length-1) (glue (out.getD (out.length-1) z9) b) else out++[b]
theorem zn6(out:List zk)(b:zk):(zcP out b).length<=out.length+1:=by
 unfold zcP;split<;>simp
theorem zAm{s:List zk}{x y:zk}:y∈zfK s x<->y=x\/y∈s:=by
 grind [zfK,zev,List.take_append_drop]
theorem zuL:∀(l s:List zk) (y:zk),y∈l.foldl zb5 s->y∈l\/y∈s
 |[],s,y,h=>.inr h
 |x::l,s,y,h=>by
  rcases zuL l (zb5 s x) y h with h|h
  ·grind
  grind [zb5,zAm,List.mem_cons_self]
theorem zqq:∀(l s:List zk),(l.foldl zb5 s).length<=l.length+s.length
 |[],s=>by simp
 |x::l,s=>by
  have h:=zqq l (zb5 s x);have h2:(zb5 s x).length<=s.length+1:=by grind [zb5,zn4]
  grind
def zcz(l:List zk):List zk:=(l.foldl zb5 []).foldl zcP []
def leB(a b:zk):Prop:=a.lane<b.lane\/(a.lane=b.lane/\a.lo<=b.lo)
theorem zqc(a b:zk):leB a b<->¬ltB b a=true:=by
 grind [leB,ltB]
theorem zfs{a b c:zk}(h1:leB a b)(h2:leB b c):leB a c:=by grind [leB]
theorem zxy{a b:zk}(h:ltB a b=true):leB a b:=by grind [leB,ltB]
theorem zn5(x:zk)(t u:List zk):∀a,a<=t.length->zev x (t++u) a=zev x t a
 |0,_=>rfl
 |a+1,h=>by
  have e:(t++u).getD a z9=t.getD a z9:=by grind
  unfold zev;rw[e,zn5 x t u a (by omega)]
theorem zup(x:zk):∀(n:Nat) (s r:List zk),s.length=n->bub (s++x::r) n=zfK s x++r
 |0,s,r,h=>by
  grind [List.length_eq_zero_iff,bub,zfK,zev]
 |n+1,s,r,h=>by
  rcases uZ s with e |⟨t,y,e⟩
  ·grind
  ·rw[u5]at e;subst e;have ht:t.length=n:=by grind
   subst ht;have e1:(t++[y]++x::r).getD (t.length+1) z9=x:=by simp[jw]
   have e2:(t++[y]++x::r).getD t.length z9=y:=by grind
   have e3:((t++[y]++x::r).set (t.length+1) y).set t.length x=t++x::(y::r):=by simp
   rw[bub,e1,e2,e3];have e4:zev x (t++[y]) (t.length+1)=if ltB x y=true then zev x t t.length else t.length+1:=by
    simp[zev,z9,jw,zn5,jm]
   by_cases hc:ziK x y<0
   ·have hl:=(znX x y).1 hc;rw[if_pos hc,zup x t.length t (y::r) rfl]
    simp_all [zl0,zfK,jv,jk,jo,jF,if_pos,uN,List.drop_append_of_le_length]
   simp_all [ltB,znX,if_neg,zfK,jv,jk,jo,jF,jx,uk]
theorem zvc:∀(r s:List zk),zq4 (s++r) s.length r.length=r.foldl zfK s
 |[],s=>by simp[zq4]
 |x::r,s=>by
  rw[jk,zq4,zup x s.length s r rfl,ka];have h:=zvc r (zfK s x)
  grind [zn4]
theorem zsN(l:List zk):zzs l=l.foldl zfK []:=by
 cases l with
 |nil=>rfl
 |cons x r =>
  grind [zvc,List.length_cons,List.length_nil,List.singleton_append,zzs,Nat.add_sub_cancel,zfK,zev]
theorem zpi:∀(l s:List zk),l.foldl zb5 s=(l.filter fun b=>!bad b).foldl zfK s
 |[],s=>rfl
 |x::l,s=>by
  rw[ka,zpi l,uq];cases h:bad x with
  |true=>simp[zb5,h]
  |false=>simp[zb5,h]
theorem zpu(x:zk)(s:List zk):∀a,a<=s.length->∀i,zev x s a<=i->i<a->ltB x (s.getD i z9)=true
 |0,_,i,_,h=>by omega
 |a+1,ha,i,h1,h2=>by
  unfold zev at h1;split at h1
  ·rcases qr i a with h3|h3
   ·exact zpu x s a (by omega) i h1 h3
   grind
  grind
theorem zpt(x:zk)(s:List zk):∀a,0<zev x s a->ltB x (s.getD (zev x s a-1) z9)=false
 |0,h=>by grind [zev]
 |a+1,h=>by
  unfold zev at h ⊢;split at h
  ·rename_i h1;rw[if_pos h1];exact zpt x s a h
  grind
theorem zvd(s:List zk)(x:zk)(h:s.Pairwise leB):(zfK s x).Pairwise leB:=by
 unfold zfK;have hab:=zpu x s s.length (jm _);have hbe:=zpt x s s.length;have hle:=zl0 x s s.length;generalize zev x s s.length=a at *;have hs:=vD.1 h;have hx1:∀y∈s.take a,leB y x:=by
  intro y hy;obtain⟨i,hi,rfl⟩:=uD hy
  grind [leB,zqc,Nat.lt_or_ge,zfs]
 have hx2:∀y∈s.drop a,leB x y:=by
  intro y hy;obtain⟨i,hi,rfl⟩:=uD hy
  simp_all [List.getElem_drop,z9,zxy]
 have hsp:(s.take a++s.drop a).Pairwise leB:=by simp_all
 rw[kE]at hsp ⊢
 simp_all
theorem ziR:∀(l s:List zk),s.Pairwise leB->(l.foldl zfK s).Pairwise leB
 |[],s,h=>h
 |x::l,s,h=>ziR l _ (zvd s x h)
theorem zoI(a b:zk):meets a b = !far a b:=by
 grind [meets,far]
theorem zxD:∀(l out:List zk),l.Pairwise leB->(0<out.length->∀b∈l,leB (out.getD (out.length-1) z9) b)->l.foldl zaQ out=l.foldl zcP out
 |[],out,_,_=>rfl
 |b::l,out,h,ho=>by
  rw[kx]at h;have hst:zaQ out b=zcP out b:=by
   unfold zaQ zcP;rw[zoI];by_cases hc:0<out.length/\far (out.getD (out.length-1) z9) b=false
   ·have hle:=ho hc.1 b jy;generalize out.getD (out.length-1) z9=a at *;have hm:=zoI a b
    grind [meets,leB,zeM,glue,min]
   grind
  rw[ka,ka,hst];refine zxD l _ h.2 fun hp c hcm=>?_
  unfold zcP;split
  ·rename_i hcc;have h1:=ho hcc.1 b jy;generalize out.getD (out.length-1) z9=a at *;have:leB (glue a b) b:=by unfold leB glue;unfold leB at h1;have:=zoI a b;grind [meets]
   grind [zfs]
  grind
theorem zAh(l:List zk):zAj l=zcz l:=by
 simp[zAj,zcz,zsN,zpi,zxD,ziR]
theorem zvh:∀(l out:List zk),(l.foldl zcP out).length<=l.length+out.length
 |[],out=>by simp
 |b::l,out=>by
  have:=zvh l (zcP out b);have:=zn6 out b;simp only[ka,jk];omega
theorem zkq(l:List zk):(zcz l).length<=l.length:=by
 have h1:=zvh (l.foldl zb5 []) [];have h2:=zqq l [];simp at h1 h2;unfold zcz;omega
abbrev zmN:Sh:=.int .i64
def zk0(n:Int):Prop:=-9223372036854775808<=n/\n<=9223372036854775807
def zQf(x lo hi tick:Int)(w:zCP):Bool:=decide (w.lane=x)&&decide (w.lo<=hi)&&decide (lo<=w.hi)&&decide (w.Cd<=tick)&&decide (tick<w.ends)
def zOx(x lo hi tick:Int)(n:Int)(w:zCP):Int:=if zQf x lo hi tick w=true then min n w.yd else n
def zLS(m:zD)(x:Int):Int:=((m.jd[x.toNat]?).map zfn.yd).getD 0
def zNi(m:zD)(fr to tick a out x:Int):Int :=
 if max 0 (fr-a)>min (to-a) (z8 m x) then out else
 if out<0\/m.kW.foldl (zOx x (max 0 (fr-a)) (min (to-a) (z8 m x)) tick) (zLS m x)<out then m.kW.foldl (zOx x (max 0 (fr-a)) (min (to-a) (z8 m x)) tick) (zLS m x) else out
def zNU(m:zD)(fr to tick:Int):Int->Int->List Int->Int
 |_,out,[]=>out
 |a,out,x::r=>zNU m fr to tick (a+z8 m x) (zNi m fr to tick a out x) r
theorem zOw{m:zD}(hw:m.kW.length<=1000)(l:List Int)(nn to fr len i out tick x lo hi:Int)(q0:List (List Cl))(n:Int) :
  Y L Cs zIw (some [14,60,59,4,2,1,18,19,20,9,58,11,13,12,3]) 1 [(14,.w (W n)),(60,.w (W (0:Nat))),(59,.w (W m.kW.length)),(4,.w (Pt 0)),(2,.w (W to)),(1,.w (W fr)),(18,.w (.c (.jb q0))),(19,.w (W len)),(20,.w (W i)),(9,.w (W out)),(58,.w (.c (.jb (m.kW.map zaL)))),(11,.w (W x)),(13,.w (W hi)),(12,.w (W lo)),(3,.w (W tick))] [bx 11 (zh m l nn)] =
    some (.exit 2,[(61,.w (Bo false)),(14,.w (W (m.kW.foldl (zOx x lo hi tick) n))),(60,.w (W m.kW.length)),(59,.w (W m.kW.length)),(4,.w (Pt 0)),(2,.w (W to)),(1,.w (W fr)),(18,.w (.c (.jb q0))),(19,.w (W len)),(20,.w (W i)),(9,.w (W out)),(58,.w (.c (.jb (m.kW.map zaL)))),(11,.w (W x)),(13,.w (W hi)),(12,.w (W lo)),(3,.w (W tick))],[bx 11 (zh m l nn)]):=by
 have q:=zPH (L:=L) (Cs:=Cs) (b:=zIw) (live:=some [14,60,59,4,2,1,18,19,20,9,58,11,13,12,3]) (n0:=1) m.kW
  (fun k s=>[(14,.w (W s)),(60,.w (W k)),(59,.w (W m.kW.length)),(4,.w (Pt 0)),(2,.w (W to)),(1,.w (W fr)),(18,.w (.c (.jb q0))),(19,.w (W len)),(20,.w (W i)),(9,.w (W out)),(58,.w (.c (.jb (m.kW.map zaL)))),(11,.w (W x)),(13,.w (W hi)),(12,.w (W lo)),(3,.w (W tick))]) (fun _ _=>[bx 11 (zh m l nn)]) (fun _ _=>True) (fun _=>zOx x lo hi tick)
  (fun s=>(.exit 2,[(61,.w (Bo false)),(14,.w (W s)),(60,.w (W m.kW.length)),(59,.w (W m.kW.length)),(4,.w (Pt 0)),(2,.w (W to)),(1,.w (W fr)),(18,.w (.c (.jb q0))),(19,.w (W len)),(20,.w (W i)),(9,.w (W out)),(58,.w (.c (.jb (m.kW.map zaL)))),(11,.w (W x)),(13,.w (W hi)),(12,.w (W lo)),(3,.w (W tick))],[bx 11 (zh m l nn)])) ?_ ?_ (s0:=n) trivial
 ·rw[zMd]at q;exact q
 ·intro k hk s _;refine⟨trivial,?_⟩;have hww:=zB (i:=k) (by omega);simp only[zh,zi];rw[ZfM zIw.eq_1];generalize hwk:m.kW[k]=w;obtain⟨wl,wf,wt,wb,we,wm⟩:=w;simp only[zOx,zQf];by_cases c1:wl=x
  ·by_cases c2:wf<=hi
   ·by_cases c3:lo<=wt
    ·by_cases c4:wb<=tick
     ·by_cases c5:tick<we
      ·simp[hk,hwk,hww,zaL,c1,c2,c3,c4,c5]
      ·simp[hk,hwk,hww,zaL,c1,c2,c3,c4,c5]
     ·simp[hk,hwk,hww,zaL,c1,c2,c3,c4]
    ·simp[hk,hwk,hww,zaL,c1,c2,c3]
   ·simp[hk,hwk,hww,zaL,c1,c2]
  ·have b1:(wl==x)=false:=by simp[c1]
   simp[hk,hwk,hww,zaL,c1,b1]
 ·intro s _;simp only[zh,zi];rw[ZfM zIw.eq_1];simp
theorem zOv{m:zD}(h:zcp m)(hwk:m.kW.length<=1000)(l:List Int)(hl:l.length<=1000)(hon:zj2 m l)(nn fr to tick:Int)(hfr:0<=fr/\fr<=10000000000)(hto:0<=to/\to<=10000000000):∀(r:List Int) (i:Nat) (out a:Int),l.drop i=r->i<=l.length->(zW m 0 l).drop i=zW m a r->0<=a->a<=i*1000000 ->
  Y L Cs zIv (some [20,19,18,1,2,3,9,4]) 1 [(20,.w (W i)),(19,.w (W l.length)),(18,.w (.c (.jb (zu l)))),(1,.w (W fr)),(2,.w (W to)),(3,.w (W tick)),(9,.w (W out)),(4,.w (Pt 0))] [bx 11 (zh m l nn)] =
    some (.exit 0,[(21,.w (Bo false)),(20,.w (W l.length)),(19,.w (W l.length)),(18,.w (.c (.jb (zu l)))),(1,.w (W fr)),(2,.w (W to)),(3,.w (W tick)),(9,.w (W (zNU m fr to tick a out r))),(4,.w (Pt 0))],[bx 11 (zh m l nn)]):=by
 intro r;induction r with
 |nil =>
  intro i out a hd hi hs ha1 ha2;obtain rfl:=zUb hd hi;simp only[zh,zi];rw[ZfM zIv.eq_1];simp[zNU]
 |cons x r ih =>
  intro i out a hd hi hs ha1 ha2;obtain⟨hil,hx,hd'⟩:=zL hd;have hxm:=hon x (by rw[<-hx];exact jf _);have hle:=zcX h hxm;have hw:=zB (i:=i) (by omega);obtain⟨n,rfl⟩:=jB hxm.1;have hn:n<m.jd.length:=by omega
  have eL:z8 m n=m.jd[n].len:=by simp[z8,hn]
  have eM:zLS m n=m.jd[n].yd:=by simp[zLS,hn]
  rw[zW]at hs;obtain⟨hsl,hsx,hs'⟩:=zL hs;have hw1:=qG (fr-a);have hw2:=qG (to-a);have hin:=zOw (m:=m) hwk l nn to fr l.length i out tick n (max 0 (fr-a)) (min (to-a) (z8 m n)) (zu l) (zLS m n);have ih':=ih (i+1) (zNi m fr to tick a out n) (a+z8 m n) hd' hil hs' (by omega) (by omega);simp only[zNU];rw[<-ih'];simp only[zh,zi,jg]at hin ⊢;rw[ZfM zIv.eq_1];simp only[zNi];rw[eL,eM]at *;generalize hF:m.kW.foldl (zOx n (max 0 (fr-a)) (min (to-a) m.jd[n].len) tick) m.jd[n].yd=F at *;by_cases c1:min (to-a) m.jd[n].len<max 0 (fr-a)
  ·simp[hil,hx,hsl,hsx,hn,hw,hw1,hw2,c1,zo]
  ·by_cases c2:out<0
   ·simp[hil,hx,hsl,hsx,hn,hw,hw1,hw2,c1,c2,zo,hin]
   ·by_cases c3:F<out
    ·simp[hil,hx,hsl,hsx,hn,hw,hw1,hw2,c1,c2,c3,zo,hin]
    ·simp[hil,hx,hsl,hsx,hn,hw,hw1,hw2,c1,c2,c3,zo,hin]
theorem zEC{m:zD}(h:zcp m):∀(r:List Int) (a:Int),zj2 m r->0<=a->0<=zmd m a r/\zmd m a r<=a+r.length*1000000
 |[],a,_,ha=>by simp[zmd];exact ha
 |x::r,a,hon,ha=>by
  have hle:=zcX h (hon x (by simp));have:=zEC h r (a+z8 m x) (fun y hy=>hon y (by simp[hy])) (by omega);simp only[zmd,jk];omega
theorem zPh{m:zD}(h:zcp m)(hwk:m.kW.length<=1000)(l:List Int)(hl:l.length<=1000)(hon:zj2 m l)(nn fr to tick:Int)(hfr:0<=fr/\fr<=10000000000)(hto:0<=to/\to<=10000000000) :
  R L Cs zMX [.a (zh m l nn),W fr,W to,W tick] []=some (.w (W (max (zNU m fr to tick 0 (-1) l) 0)),[]):=by
 have hb:=zOv h hwk l hl hon nn fr to tick hfr hto l 0 (-1) 0 rfl (jp _) rfl (by omega) (by omega);simp only[zh,zi,jg]at hb ⊢;rw[zUa zM1 rfl];simp[zIQ,hb]
def zpO(m:zD)(e:Ego)(len:Int):Int->List Int->List zk->List zk
 |_,[],l=>l
 |a,x::r,l=>zpO m e len (a+z8 m x) r (zhn x (e.shi-len-a) (e.slo-a) l)
theorem zCj(m:zD)(l:List Int)(len:Int)(e:Ego)(he:-1000000000000000<=e.slo/\e.slo<=1000000000000000/\-1000000000000000<=e.shi/\e.shi<=1000000000000000)(hn:0<=len/\len<=20000):R L Cs zhP [.a (zh m l len),.a (zch e)] []=some (.w (Bo (decide (e.shi-len<=e.slo))),[]):=by
 have hw1:=qG (e.shi-len);rw[zUa zm1 rfl];simp[zfG,zh,hw1]
theorem zzJ{m:zD}(h:zcp m)(l:List Int)(hl:l.length<=8)(hon:zj2 m l)(len:Int)(e:Ego)(he:-1000000000000000<=e.slo/\e.slo<=1000000000000000/\-1000000000000000<=e.shi/\e.shi<=1000000000000000)(hn:0<=len/\len<=20000):∀(r:List Int) (i:Nat) (bs:List zk) (a:Int),l.drop i=r->i<=l.length->(zW m 0 l).drop i=zW m a r->0<=a->a<=i*1000000->bs.length*2 ^ r.length<=100000000000 ->
  Y L Cs zdn (some [1,17,16,15,5,3]) 3 [(1,.w (.c (.jb (zI bs)))),(17,.w (W i)),(16,.w (W l.length)),(15,.w (.c (.jb (zu l)))),(5,.w (Pt 1)),(3,.w (Pt 0))] [bx 11 (zh m l len),bx 4 (zch e),gb 6] =
    some (.exit 0,[(18,.w (Bo false)),(1,.w (.c (.jb (zI (zpO m e len a r bs))))),(17,.w (W l.length)),(16,.w (W l.length)),(15,.w (.c (.jb (zu l)))),(5,.w (Pt 1)),(3,.w (Pt 0))],[bx 11 (zh m l len),bx 4 (zch e),gb 6]):=by
 intro r;induction r with
 |nil =>
  intro i bs a hd hi hs ha1 ha2 hb;obtain rfl:=zUb hd hi;simp only[zh,zi];rw[ZfM zdn.eq_1];simp[zpO]
 |cons x r ih =>
  intro i bs a hd hi hs ha1 ha2 hb;obtain⟨hil,hx,hd'⟩:=zL hd;have hxm:=hon x (by rw[<-hx];exact jf _);have hle:=zcX h hxm;have hw:=zB (i:=i) (by omega);rw[zW]at hs;obtain⟨hsl,hsx,hs'⟩:=zL hs;have hw0:=qG (e.shi-len);have hw1:=qG (e.shi-len-a);have hw2:=qG (e.slo-a);have hcl:=zod x (e.shi-len-a) (e.slo-a) bs;have hb2:(zhn x (e.shi-len-a) (e.slo-a) bs).length*2 ^ r.length<=100000000000:=by
   refine jO (kj _ hcl) ?_;simp only[jk,Nat.pow_succ]at hb;rw[uj 2,Nat.mul_assoc,uj 2];exact hb
  have hb1:bs.length<=100000000000:=jO (ud _ (Nat.two_pow_pos _)) hb;have Bk:=zDp x (e.shi-len-a) (e.slo-a) ⟨by omega,by omega⟩ ⟨by omega,by omega⟩ bs hb1;simp only[zpO];rw[<-ih (i+1) (zhn x (e.shi-len-a) (e.slo-a) bs) (a+z8 m x) hd' hil hs' (by omega) (by omega) hb2];clear ih hb hb2 hcl;simp only[zh,zi];rw[ZfM zdn.eq_1];simp[hil,hx,hsl,hsx,hw,hw0,hw1,hw2,Bk]
theorem zuX(m:zD)(e:Ego)(len:Int):∀(r:List Int) (a:Int) (bs:List zk),(zpO m e len a r bs).length<=bs.length*2 ^ r.length
 |[],_,bs=>by simp[zpO]
 |x::r,a,bs=>by
  have h1:=zuX m e len r (a+z8 m x) (zhn x (e.shi-len-a) (e.slo-a) bs);have h2:=kj (2 ^ r.length) (zod x (e.shi-len-a) (e.slo-a) bs);simp only[zpO,jk,Nat.pow_succ];refine jO h1 (jO h2 ?_);rw[uj 2 bs.length,Nat.mul_assoc,uj 2];exact jm _
theorem zEn(n k:Int)(hk:0<k):n % k=if n.tmod k<0 then n.tmod k+k else n.tmod k:=by
 have h1:=vS n (show k≠0 by omega);have h2:=uR n hk;have h:=@Int.tmod_eq_emod n k;have h3:(k.natAbs:Int)=k:=by omega
 split at h
 ·simp at h;rw[h];split<;>omega
 ·rw[h3]at h;rw[h];split<;>omega
theorem zEW(n k:Int)(hk:0<k)(hk2:k<=4000000000000000000):R L Cs zny [W n,W k] []=some (.w (W (n % k)),[]):=by
 rw[zUa znH rfl];have he:=zEn n k hk;have hb:=uR n hk;have hb0:=vS n (show k≠0 by omega);have hz:(k==0)=false:=beq_false_of_ne (by omega);have hz':k≠0:=by omega
 by_cases h:n.tmod k<0
 ·rw[if_pos h]at he;have e:IntKind.i64.wrap (n.tmod k+k)=n % k:=by rw[<-he];exact zTd _ (by omega) (by omega)
  simp[zeK,h,e,hz,hz']
 ·rw[if_neg h]at he;rw[he]at *;simp[zeK,h,hz,hz']
theorem zD0(n k:Int)(hk:0<k)(hk2:k<=4000000000000000000):R L Cs zEd [W n,W k] []=some (.w (W (n % k)),[]):=by
 rw[zUa zEh rfl];have he:=zEn n k hk;have hb:=uR n hk;have hb0:=vS n (show k≠0 by omega);have hz:(k==0)=false:=beq_false_of_ne (by omega);have hz':k≠0:=by omega
 by_cases h:n.tmod k<0
 ·rw[if_pos h]at he;have e:IntKind.i64.wrap (n.tmod k+k)=n % k:=by rw[<-he];exact zTd _ (by omega) (by omega)
  simp[zDP,h,e,hz,hz']
 ·rw[if_neg h]at he;rw[he]at *;simp[zDP,h,hz,hz']
theorem zDJ(a b:Int)(h:0<b):0<=a % b/\a % b<b:=⟨vS _ (by omega),uR _ h⟩
theorem ztL{m:zD}(h:zcp m):∀(r:List zfn) (i:Nat) (out:List Int),m.jd.drop i=r->i<=m.jd.length->out.length<=i ->
  Y L Cs zbx (some [3,4,1]) 3 [(3,.w (.c (sl 2 1 (zu out)))),(4,.w (W i)),(1,.w (Pt 0))] [bx 5 (zf m),gb 1,some (own 1 (zu out))] =
    some (.exit 0,[(9,.w (Bo false)),(3,.w (.c (sl 2 1 (zu (out++zbK m i r))))),(4,.w (W m.jd.length)),(1,.w (Pt 0))],[bx 5 (zf m),gb 1,some (own 1 (zu (out++zbK m i r)))]):=by
 intro r;induction r with
 |nil =>
  intro i out hd hi ho;obtain rfl:=zUb hd hi;rw[ZfM zbx.eq_1];simp[zbK,zf]
 |cons l r ih =>
  intro i out hd hi ho;obtain⟨hil,hl,hd'⟩:=zL hd;have hn:=h.small.jd;have hw:=zB (i:=i) (by omega);have hb:=zpG m i (by omega) (fun l hl=>by have:=h.small.next l hl;omega);simp only[zf]at hb;have ku:(out.length+1)*8<=140737488355328:=by omega
  rw[zbK];by_cases he:zes i 0 m.jd=[]
  ·rw[if_pos he,show out++(i:Int)::zbK m (i+1) r=(out++[(i:Int)])++zbK m (i+1) r by simp,<-ih (i+1) (out++[(i:Int)]) hd' hil (by simp;omega),ZfM zbx.eq_1];rw[he]at hb;simp at hb;simp[hil,zf,hb,hw,ku,zg,zH]
  ·rw[if_neg he,<-ih (i+1) out hd' hil (by omega),ZfM zbx.eq_1];have hz:(((zes i 0 m.jd).length:Int)==0)=false:=by
    have:0<(zes i 0 m.jd).length:=kN.2 he;exact beq_false_of_ne (by omega)
   simp[hil,zf,hb,hw,he,hz,zg,zH]
theorem zzc{m:zD}(h:zcp m):R L Cs zjm [.a (zf m)] []=some (.w (.c (.jb (zu (zbK m 0 m.jd)))),[]):=by
 have hl:=ztL h m.jd 0 [] rfl (jp _) (jp _);simp only[zf,jg,je,zay,sl,own,jo,zfq]at hl;rw[zUa zjy rfl];simp[zd0,zf,hl,zg]
theorem zv4{q:Nat}(h:q<2000000):IntKind.i64.wrap (q:Int)=(q:Int):=zTd _ (by omega) (by omega)
def zS(m:zD)(a:Int):List Int:=((m.jd[a.toNat]?).map zfn.next).getD []
def goR(m:zD):Nat->Int->Nat->List Int
 |0,_,_=>[]
 |f+1,a,n=>if(zS m a).length=0 then [] else(zS m a).getD (n % (zS m a).length) 0::goR m f ((zS m a).getD (n % (zS m a).length) 0) (n / (zS m a).length)
theorem zEZ(m:zD):∀(f:Nat) (a:Int) (n:Nat),(goR m f a n).length<=f
 |0,_,_=>by simp[goR]
 |f+1,a,n=>by
  unfold goR;split
  ·simp
  ·have:=zEZ m f ((zS m a).getD (n % (zS m a).length) 0) (n / (zS m a).length);rw[jk];omega
theorem zEL{m:zD}(h:zcp m):∀(f:Nat) (a:Int) (n:Nat) (out:List Int),out.length+f=8->0<=a->a<m.jd.length->n<2000000 ->
  ∃b t,Y L Cs zDH (some [6,1,7,2]) 3 [(6,.w (W a)),(1,.w (W n)),(7,.w (.c (sl 2 1 (zu out)))),(2,.w (Pt 0))] [bx 5 (zf m),gb 1,some (own 1 (zu out))] =
   some (.exit 0,[(41,.w (Bo false)),(6,.w (W b)),(1,.w (W t)),(7,.w (.c (sl 2 1 (zu (out++goR m f a n))))),(2,.w (Pt 0))],[bx 5 (zf m),gb 1,some (own 1 (zu (out++goR m f a n)))]):=by
 intro f;induction f with
 |zero =>
  intro a n out hf ha1 ha2 hn;obtain⟨j,rfl⟩:=jB ha1;have hj:j<m.jd.length:=by omega
  refine⟨(j:Int),(n:Int),?_⟩;rw[ZfM zDH.eq_1];have h8:¬((out.length:Int)<8):=by omega
  by_cases c:0<m.jd[j].next.length
  ·simp[goR,zf,zo,hj,c,h8]
  ·simp[goR,zf,zo,hj,c]
 |succ f ih =>
  intro a n out hf ha1 ha2 hn;obtain⟨j,rfl⟩:=jB ha1;have hj:j<m.jd.length:=by omega
  have h8:(out.length:Int)<8:=by omega
  have en:zS m (j:Int)=m.jd[j].next:=by simp[zS,hj]
  by_cases c:0<m.jd[j].next.length
  ·have hk:=h.small.next _ (jf hj);have hm:n % m.jd[j].next.length<m.jd[j].next.length:=ug _ c;have hq:n / m.jd[j].next.length<=n:=Nat.div_le_self _ _;have hval:=h.small.valid _ (jf hj) _ (jf hm);rw[goR,en,if_neg (by omega)];have eg:m.jd[j].next.getD (n % m.jd[j].next.length) 0=m.jd[j].next[n % m.jd[j].next.length]:=by simp[jw,hm]
   rw[eg];obtain⟨b,t,hy⟩:=ih (m.jd[j].next[n % m.jd[j].next.length]) (n / m.jd[j].next.length) (out++[m.jd[j].next[n % m.jd[j].next.length]]) (by simp;omega) hval.1 hval.2 (by omega);refine⟨b,t,?_⟩;rw[show out++(m.jd[j].next[n % m.jd[j].next.length]::goR m f m.jd[j].next[n % m.jd[j].next.length] (n / m.jd[j].next.length))=(out++[m.jd[j].next[n % m.jd[j].next.length]])++goR m f m.jd[j].next[n % m.jd[j].next.length] (n / m.jd[j].next.length) by simp,<-hy,ZfM zDH.eq_1];clear ih hy;have e1:(n:Int).tmod (m.jd[j].next.length:Int)=((n % m.jd[j].next.length:Nat):Int):=by
    rw[qx (by omega)];rfl
   have e2:(n:Int).tdiv (m.jd[j].next.length:Int)=((n / m.jd[j].next.length:Nat):Int):=by
    rw[qy (by omega)];rfl
   have e3:IntKind.i64.wrap ((n / m.jd[j].next.length:Nat):Int)=((n / m.jd[j].next.length:Nat):Int):=zv4 (by omega);have hz:((m.jd[j].next.length:Int)==0)=false:=beq_false_of_ne (by omega);have hz':(m.jd[j].next.length:Int)≠0:=by omega
   have hz'':m.jd[j].next≠[]:=kN.1 c;have ku:(out.length+1)*8<=140737488355328:=by omega
   generalize hq2:n / m.jd[j].next.length=q at *;generalize hm2:n % m.jd[j].next.length=p at *;generalize hln:m.jd[j]=ln at *;simp[zf,zo,hj,hln,c,h8,e1,e2,e3,hz,hz',hz'',hm,ku,zg,zH]
  ·refine⟨(j:Int),(n:Int),?_⟩;rw[goR,en,if_pos (by omega),ZfM zDH.eq_1];simp[zf,zo,hj,c]
def zsP(k:Nat)(r:Int):List Zon:=match k with
 |0=>[]
 |1=>[⟨[⟨0,28000,32000,r⟩,⟨1,18000,22000,2-2*r⟩],0⟩]
 |2=>[⟨[⟨0,28000,32000,r⟩,⟨1,18000,22000,2-2*r⟩],1⟩]
 |3=>[]
 |4=>[⟨[⟨0,25000,30000,1⟩,⟨1,20000,26000,0⟩,⟨2,0,5000,0⟩],0⟩]
 |5=>[⟨[⟨1,14000,16000,0⟩,⟨2,6000,10000,3⟩],0⟩]
 |_=>[⟨[⟨1,14000,18000,1⟩,⟨3,10000,14000,0⟩],if r=1 then 1 else 0⟩,⟨[⟨2,14000,21000,1⟩,⟨3,14500,23000,0⟩],if r=1 then 2 else 0⟩]
def sgP(o a b:Int):Sgn:=⟨o,[⟨12,[a]⟩,⟨5,[]⟩,⟨9,[b]⟩,⟨4,[]⟩]⟩
def ssP(k:Nat)(r o1 o2 o3:Int):List Sgn:=match k with
 |2=>[sgP o1 0 1]
 |6=>if r=1 then [sgP o2 1 3,sgP o3 2 3] else []
 |_=>[]
theorem zxQ(k:Nat)(hk:k<7)(r:Int):zO k r=zk8 (zsP k r):=by
 match k,hk with
 |0,_ |1,_ |2,_ |3,_ |4,_ |5,_ |6,_=>simp[zO,zsP,zk8,zdP,zfa,zkl,zeB,zdK]
theorem zzt(o a b:Int):zaY o a b=zeq (sgP o a b):=by simp[zaY,zeq,sgP,zje,zr6]
theorem zuN(k:Nat)(hk:k<7)(r o1 o2 o3:Int):zt k r o1 o2 o3=zjd (ssP k r o1 o2 o3):=by
 match k,hk with
 |0,_ |1,_ |3,_ |4,_ |5,_=>simp[zt,ssP,zjd]
 |2,_=>simp[zt,ssP,zjd,zzt]
 |6,_ =>
  simp only[zt,ssP];split<;>simp[zjd,zzt]
theorem zwk(o a b:Int):zvY (sgP o a b).j8:=⟨by simp[sgP],by simp[sgP],by simp[sgP],by simp[sgP]⟩
theorem zDs(k:Nat)(hk:k<7){lim r o1 o2 o3 v:Int}{ws:List zCP}(h:zp2 k lim r o1 o2 o3 v ws):Zd (zq k lim r o1 o2 o3 v ws) (zsP k r) (ssP k r o1 o2 o3) where
 z:=zxQ k hk r
 s:=zuN k hk r o1 o2 o3
 few:=by
  match k,hk with
  |0,_ |1,_ |2,_ |3,_ |4,_ |5,_ |6,_=>simp[zsP]
 sfew:=by
  match k,hk with
  |0,_ |1,_ |2,_ |3,_ |4,_ |5,_=>simp[ssP]
  |6,_=>simp only[ssP];split<;>simp
 sig:=by
  match k,hk with
  |0,_ |1,_ |2,_ |3,_ |4,_ |5,_=>simp[ssP,zsP]
  |6,_ =>
   rcases h.r with c|c<;>(subst c;simp[ssP,zsP])
 pfew:=by
  match k,hk with
  |0,_ |1,_ |2,_ |3,_ |4,_ |5,_ |6,_=>simp[zsP]
 ph:=by
  match k,hk with
  |0,_ |1,_ |3,_ |4,_ |5,_=>simp[ssP]
  |2,_=>simp[ssP];exact zwk _ _ _
  |6,_ =>
   simp only[ssP];split
   ·simp;exact⟨zwk _ _ _,zwk _ _ _⟩
   ·simp
theorem zDu(k:Nat)(hk:k<7)(r:Int):∀z∈zsP k r,(z.parts.map Prt.lane).Nodup:=by
 match k,hk with
 |0,_ |1,_ |2,_ |3,_ |4,_ |5,_ |6,_=>simp[zsP]
theorem zlX(ss:List Sgn)(lane tick:Int)(z:Zon):zff ss lane tick z=[]\/∃p,zjF z lane=some p/\zff ss lane tick z=[p.lo]:=by
 unfold zff;split
 ·exact .inl rfl
 ·split
  ·exact .inl rfl
  ·rename_i p hp;split
   ·exact .inl rfl
   ·exact .inr ⟨p,hp,rfl⟩
theorem zDl(k:Nat)(hk:k<7)(r o1 o2 o3 lane tick:Int):Asc ((zsP k r).flatMap (zff (ssP k r o1 o2 o3) lane tick)):=by
 have one:∀z,Asc ([z].flatMap (zff (ssP k r o1 o2 o3) lane tick)):=fun z=>by
  rcases zlX (ssP k r o1 o2 o3) lane tick z with h |⟨p,_,h⟩<;>simp[h]
 match k,hk with
 |0,_ |3,_=>simp[zsP]
 |1,_ |2,_ |4,_ |5,_=>exact one _
 |6,_ =>
  simp only[zsP,j9,List.flatMap_nil,kT];rcases zlX (ssP 6 r o1 o2 o3) lane tick ⟨[⟨1,14000,18000,1⟩,⟨3,10000,14000,0⟩],if r=1 then 1 else 0⟩with h |⟨p,hp,h⟩<;>rcases zlX (ssP 6 r o1 o2 o3) lane tick ⟨[⟨2,14000,21000,1⟩,⟨3,14500,23000,0⟩],if r=1 then 2 else 0⟩with h' |⟨p',hp',h'⟩
  ·simp[h,h']
  ·simp[h,h']
  ·simp[h,h']
  ·rw[h,h'];have e1:p.lane=lane/\(p.lo=14000/\p.lane=1\/p.lo=10000/\p.lane=3):=by
    have:=vQ hp;have hm:=qP hp;simp at this hm;rcases hm with rfl|rfl<;>simp_all
   have e2:p'.lane=lane/\(p'.lo=14000/\p'.lane=2\/p'.lo=14500/\p'.lane=3):=by
    have:=vQ hp';have hm:=qP hp';simp at this hm;rcases hm with rfl|rfl<;>simp_all
   simp;omega
structure zmX(m:zD):Prop where
 few:m.jd.length<=4
 nx:∀a,(zS m a).length<=2
 leaf:∀a,∀x∈zS m a,zS m x=[]
 up:∀a,∀x∈zS m a,a<x
 kn:∀a,∀x∈zS m a,zaK m x=zaK m a
theorem zyt{m:zD}{a:Int}(h:m.jd.length<=a.toNat):zS m a=[]:=by
 simp[zS,qE h]
theorem zCl(k:Nat)(hk:k<7)(lim r o1 o2 o3 v:Int)(ws:List zCP):zmX (zq k lim r o1 o2 o3 v ws):=by
 have key:∀a:Int,a.toNat=0\/a.toNat=1\/a.toNat=2\/a.toNat=3\/4<=a.toNat:=fun a=>by omega
 have few:(zq k lim r o1 o2 o3 v ws).jd.length<=4:=by
  match k,hk with
  |0,_ |1,_ |2,_ |3,_ |4,_ |5,_ |6,_=>simp[zq,zy]
 have out:∀a:Int,4<=a.toNat->zS (zq k lim r o1 o2 o3 v ws) a=[]:=fun a h=>zyt (by omega)
 refine⟨few,fun a=>?_,fun a=>?_,fun a=>?_,fun a=>?_⟩
 all_goals
  rcases key a with h|h|h|h|h
  case inr.inr.inr.inr=>simp[out a h]
 all_goals
  clear out few
  match k,hk with
  |0,_ |1,_ |2,_ |3,_ |4,_ |5,_ |6,_ =>
   first
    |(simp[zS,zq,zy,h,zQ];done)
    |(simp[zS,zq,zy,h,zQ];omega)
    |(simp[zS,zaK,zq,zy,h,zQ];done)
structure zmq(m:zD)(zs:List Zon)(ss:List Sgn):Prop where
 qW:zcp m
 one:zmp m
 yz:zmX m
 zd:Zd m zs ss
 asc:∀lane tick,Asc (zs.flatMap (zff ss lane tick))
 nd:∀z∈zs,(z.parts.map Prt.lane).Nodup
 pv:∀z∈zs,∀p∈z.parts,(0<=p.lane/\p.lane<m.jd.length)/\0<=p.lo/\p.lo<p.hi/\p.hi<=z8 m p.lane/\0<=p.BN/\p.BN<=100
theorem zDt(k:Nat)(hk:k<7){lim r o1 o2 o3 v:Int}{ws:List zCP}(h:zp2 k lim r o1 o2 o3 v ws):∀z∈zsP k r,∀p∈z.parts,(0<=p.lane/\p.lane<(zq k lim r o1 o2 o3 v ws).jd.length)/\0<=p.lo/\p.lo<p.hi/\p.hi<=z8 (zq k lim r o1 o2 o3 v ws) p.lane/\0<=p.BN/\p.BN<=100:=by
 have hr:=h.r
 match k,hk with
 |0,_ |3,_=>simp[zsP]
 |1,_ |2,_ |4,_ |5,_ |6,_=>simp[zsP,zq,zy,z8,zQ];try omega
theorem zCE(k:Nat)(hk:k<7){lim r o1 o2 o3 v:Int}{ws:List zCP}(h:zp2 k lim r o1 o2 o3 v ws):zmq (zq k lim r o1 o2 o3 v ws) (zsP k r) (ssP k r o1 o2 o3):=by
 refine⟨?_,?_,zCl k hk _ _ _ _ _ _ _,zDs k hk h,zDl k hk r o1 o2 o3,zDu k hk r,zDt k hk h⟩
 ·exact zTy k hk h
 ·match k,hk with
  |0,_=>exact zAd _ _ _ _ _ _ _
  |1,_=>exact zAc _ _ _ _ _ _ _
  |2,_=>exact zAb _ _ _ _ _ _ _
  |3,_=>exact zAa _ _ _ _ _ _ _
  |4,_=>exact zz9 _ _ _ _ _ _ _
  |5,_=>exact zz8 _ _ _ _ _ _ _
  |6,_=>exact zz7 _ _ _ _ _ _ _
theorem zA5(n:Int):∃k lim r o1 o2 o3 v ws,k<7/\zp2 k lim r o1 o2 o3 v ws/\R L Cs zY [W n] []=some (.w (.a (zf (zq k lim r o1 o2 o3 v ws))),[]):=by
 have hN:0<=n % 16777216/\n % 16777216<16777216:=by omega
 have h7:0<=(n % 16777216).tmod 7/\(n % 16777216).tmod 7<7:=by
  rw[qx hN.1];omega
 have hr:=zE _ 28 2 hN (by decide) (by decide);have nu:=zBA n;exact⟨((n % 16777216).tmod 7).toNat,_,_,_,_,_,_,_,by omega,nu _ (by omega),zTw _ n (by omega) (by omega)⟩
def zet(v b:Int):Int:=if v<1 then 0 else(v-1) / b*v-b*(((v-1) / b)*((v-1) / b+1) / 2)
theorem zzj(n:Int):(n+1)*(n+1+1) / 2=n*(n+1) / 2+(n+1):=by
 have e:(n+1)*(n+1+1)=n*(n+1)+(n+1)*2:=by simp only[Int.add_mul,Int.mul_add];omega
 rw[e,Int.add_mul_ediv_right _ _ (by decide)]
theorem zsG{v b:Int}(hb:1<=b)(h:b<v):zet v b=(v-b)+zet (v-b) b:=by
 have e:(v-b-1) / b=(v-1) / b-1:=by
  rw[show v-b-1=(v-1)+(-1)*b by omega,Int.add_mul_ediv_right _ _ (by omega)];omega
 unfold zet;rw[if_neg (by omega),if_neg (by omega),e];generalize (v-1) / b=n;have t:=zzj (n-1);rw[show n-1+1=n by omega]at t ⊢;rw[t];generalize (n-1)*n / 2=q;simp only[Int.mul_add,Int.mul_sub,Int.sub_mul,Int.one_mul];rw[Int.mul_comm b n];omega
theorem zki{v b:Int}(hb:1<=b)(h:v<=b):zet v b=0:=by
 unfold zet;split
 ·rfl
 ·have:(v-1) / b=0:=Int.ediv_eq_zero_of_lt (by omega) (by omega);rw[this];simp
theorem ztT{a b A B:Int}(ha:0<=a/\a<=A)(hb:0<=b/\b<=B):0<=a*b/\a*b<=A*B :=
 ⟨yn ha.1 hb.1,Int.mul_le_mul ha.2 hb.2 hb.1 (by omega)⟩
theorem zBV(v b:Int)(hv:v<=10000)(hb:1<=b/\b<=1000):R L Cs zua [W v,W b] []=some (.w (W (zet v b)),[]):=by
 rw[zUa zuy rfl];by_cases c:v<1
 ·simp[zh2,c,zet]
 ·have n1:0<=(v-1) / b:=AB (by omega) (by omega);have n2:(v-1) / b<=10000:=Int.le_trans (Int.ediv_le_self _ (by omega)) (by omega);have et:(v-1).tdiv b=(v-1) / b:=qy (by omega);have hz:b≠0:=by omega
  have m1:min v 1000000=v:=by omega
  have m2:min b 1000000=b:=by omega
  have c2:¬b<1:=by omega
  have w1:=qG (v-1);unfold zet;rw[if_neg c];generalize (v-1) / b=n at *;have w2:=qG n;have p1:=ztT ⟨n1,n2⟩ (show 0<=v/\v<=10000 by omega);have p2:=ztT ⟨n1,n2⟩ (show 0<=n+1/\n+1<=10001 by omega);have p3:0<=n*(n+1) / 2/\n*(n+1) / 2<=100010000:=by omega
  have e2:(n*(n+1)).tdiv 2=n*(n+1) / 2:=qy (by omega);have w3:=qG (n*v);have w4:=qG (n+1);have w5:=qG (n*(n+1));have w6:=qG (n*(n+1) / 2);have p4:=ztT (show 0<=b/\b<=1000 by omega) p3;generalize hx:n*v=x at *;generalize n*(n+1) / 2=y at *;have w7:=qG (b*y);have w8:=qG (x-b*y);simp[zh2,c,c2,m1,m2,w1,et,hz,w2,hx,w3,w4,w5,e2,w6,w7,w8]
def zgH(m:zD)(l:List Int)(act:Int):Int:=max (-zd4 (zaK m (l.getD 0 0))) (min act (zif (zaK m (l.getD 0 0))))
def zcD(m:zD)(l:List Int)(act v:Int):Int:=max 0 (min (v+zgH m l act) (zeR (zaK m (l.getD 0 0))))
def zaN(m:zD)(l:List Int)(e:Ego)(act:Int):Ego:=⟨e.slo+zcD m l act e.vlo,e.shi+zcD m l act e.vhi,zcD m l act e.vlo,zcD m l act e.vhi⟩
theorem ztm(v act top:Int)(p q:Nat)(hv:-100000<=v/\v<=100000)(ha:-100000<=act/\act<=100000):R L Cs zjL [W v,Pt 0,Pt 1] [bxv p 1 [I act],bxv q 1 [I top]]=some (.w (W (max 0 (min (v+act) top))),[bxv p 1 [I act],bxv q 1 [I top]]):=by
 have w1:=qG (v+act);rw[zUa zj6 rfl];simp[zel,w1]
theorem tops{k:Int}(h:k=1\/k=2\/k=3):1<=zd4 k/\zd4 k<=300/\1<=zif k/\zif k<=100/\300<=zeR k/\zeR k<=2000:=by
 rcases h with rfl|rfl|rfl<;>simp[zd4,zif,zeR]
theorem zu9{m:zD}(h:zcp m){x:Int}(hx:0<=x/\x<m.jd.length):zaK m x=1\/zaK m x=2\/zaK m x=3:=by
 obtain⟨n,rfl⟩:=jB hx.1;have hn:n<m.jd.length:=by omega
 have:=h.kind _ (jf hn);simpa [zaK,hn]using this
structure znd(e:Ego):Prop where
 s:0<=e.slo/\e.slo<=e.shi/\e.shi<=1099511627776
 v:0<=e.vlo/\e.vlo<=e.vhi/\e.vhi<=2000
theorem zge{m:zD}(h:zcp m){x:Int}(r:List Int)(hx:0<=x/\x<m.jd.length)(act v:Int):0<=zcD m (x::r) act v/\zcD m (x::r) act v<=2000:=by
 have:=tops (zu9 h hx);unfold zcD;simp only[uE];omega
theorem zvQ{m:zD}(h:zcp m)(x:Int)(r:List Int)(len:Int)(hx:0<=x/\x<m.jd.length)(e:Ego)(he:znd e)(act:Int)(ha:zk0 act):R L Cs zgW [.a (zh m (x::r) len),.a (zch e),W act] []=some (.w (.a (zch (zaN m (x::r) e act))),[]):=by
 obtain⟨n,rfl⟩:=jB hx.1;have hn:n<m.jd.length:=by omega
 have hk:=h.kind _ (jf hn);have hB:=zmo hk;have ek:zaK m n=m.jd[n].kind:=by simp[zaK,hn]
 have ht:=tops hk;have hs1:=zge h r hx act e.vlo;have hs2:=zge h r hx act e.vhi;have es:=he.s;have ev:=he.v;have hc:zgH m ((n:Int)::r) act=max (-zd4 m.jd[n].kind) (min act (zif m.jd[n].kind)):=by simp only[zgH,uE,ek]
 have hcb:-300<=zgH m ((n:Int)::r) act/\zgH m ((n:Int)::r) act<=100:=by rw[hc];omega
 have hD1:=fun p q=>ztm e.vlo (zgH m ((n:Int)::r) act) (zeR m.jd[n].kind) p q (by omega) (by omega)
 have hD2:=fun p q=>ztm e.vhi (zgH m ((n:Int)::r) act) (zeR m.jd[n].kind) p q (by omega) (by omega)
 have e1:max 0 (min (e.vlo+zgH m ((n:Int)::r) act) (zeR m.jd[n].kind))=zcD m ((n:Int)::r) act e.vlo:=by simp only[zcD,uE,ek]
 have e2:max 0 (min (e.vhi+zgH m ((n:Int)::r) act) (zeR m.jd[n].kind))=zcD m ((n:Int)::r) act e.vhi:=by simp only[zcD,uE,ek]
 rw[e1]at hD1;rw[e2]at hD2;have wB:=qG (-zd4 m.jd[n].kind);have w1:=qG (e.slo+zcD m ((n:Int)::r) act e.vlo);have w2:=qG (e.shi+zcD m ((n:Int)::r) act e.vhi);unfold zaN;generalize hS1:zcD m ((n:Int)::r) act e.vlo=s1 at *;generalize hS2:zcD m ((n:Int)::r) act e.vhi=s2 at *;rw[hc]at hD1 hD2;rw[zUa zly rfl];simp[zeZ,zh,zi,zo,hn,hB,wB,hD1,hD2,w1,w2,zch]
structure VB(m:zD)(b:zk):Prop where
 lane:0<=b.lane/\b.lane<m.jd.length
 lo:0<=b.lo
 le:b.lo<=b.hi
 hi:b.hi<=z8 m b.lane
 vlo:0<=b.vlo
 vle:b.vlo<=b.vhi
 vhi:b.vhi<=zeR (zaK m b.lane)
 hold:0<=b.hold/\b.hold<=z8 m b.lane
def zcY(m:zD)(b:zk)(line:Int):Bool:=decide (b.hi<line)&&(decide (b.hi+zet b.vhi (zd4 (zaK m b.lane))<line)||(decide (b.hold≠0)&&decide (b.hold<=line)))
def zcW(m:zD)(b:zk):Int:=max 0 (b.vlo-zd4 (zaK m b.lane))
def zde(m:zD)(b:zk):Int:=min (zeR (zaK m b.lane)) (b.vhi+zif (zaK m b.lane))
def zdC(m:zD)(red:List Int)(b:zk)(signals src:Bool):zk :=
 { lane:=b.lane,lo:=if src=true/\b.lo=0 then 0 else b.lo+zcW m b,
   hi:=match (if signals then red.find? (zcY m b) else none)with |some l=>min (b.hi+zde m b) (l-1) |none=>b.hi+zde m b,
   vlo:=zcW m b,vhi:=zde m b,hold:=((if signals then red.find? (zcY m b) else none)).getD 0 }
theorem zqp:∀(s:List Int) (l:List Bool) (i:Nat),i<l.length->(∀x∈s,0<=x)->(zkj l s).getD i false=(l.getD i false||decide ((i:Int)∈s))
 |[],l,i,_,_=>by simp[zkj]
 |x::s,l,i,hi,hs=>by
  have h0:=hs x (jy ..);show(zkj (l.set x.toNat true) s).getD i false=_;rw[zqp s _ i (by grind) fun y hy=>hs y (jI _ hy)]
  grind
theorem zzq{v b:Int}(hv:v<=10000)(hb:1<=b/\b<=1000):∀(f:Nat),v<=f->f<=10000->0<=zet v b/\zet v b<=10000*f:=by
 intro f;induction f generalizing v with
 |zero=>grind [zki]
 |succ f ih =>
  grind [zsG,zki]
structure zDx(m:zD)(b:zk):Prop where
 k:zaK m b.lane=1\/zaK m b.lane=2\/zaK m b.lane=3
 t:1<=zd4 (zaK m b.lane)/\zd4 (zaK m b.lane)<=300/\1<=zif (zaK m b.lane)/\zif (zaK m b.lane)<=100/\300<=zeR (zaK m b.lane)/\zeR (zaK m b.lane)<=2000
 s:0<=zcW m b/\zcW m b<=2000
 f:0<=zde m b/\zde m b<=2000
 sf:zcW m b<=zde m b
 pos:b.lo<=1000000/\b.hi<=1000000
 st:0<=zet b.vhi (zd4 (zaK m b.lane))/\zet b.vhi (zd4 (zaK m b.lane))<=100000000
theorem zqQ{m:zD}(h:zcp m){b:zk}(hb:VB m b):zDx m b:=by
 have hk:=zu9 h hb.lane;have ht:=tops hk;have hl:=zcX h hb.lane;have a2:=hb.le;have a3:=hb.hi;have a4:=hb.vlo;have a5:=hb.vle;have a6:=hb.vhi;have hs:=zzq (v:=b.vhi) (b:=zd4 (zaK m b.lane)) (by omega) (by omega) 10000 (by omega) (by omega);exact⟨hk,ht,by grind [zcW],by grind [zde],by grind [zcW,zde],by omega,hs.1,by omega⟩
theorem zyu{m:zD}(h:zcp m){b:zk}(hb:VB m b)(src:Bool)(red:List Int):(zdC m red b false src).lo<=(zdC m red b false src).hi:=by
 have ho:=zqQ h hb;have a2:=hb.le;have a3:=ho.sf;have a4:=ho.f;simp only[zdC,jE,if_false];split<;>omega
def zpT(m:zD)(b x:zk)(rr:List Int):zk:=match rr.find? (zcY m b)with |some l=>{ x with hi:=min x.hi (l-1),hold:=l } |none=>x
theorem zwF{m:zD}(r:List Int)(len:Int)(b x z:zk)(v:Nat)(hb:OKB b)(red:List Int)(hred:∀l∈red,-1000000000<=l/\l<=1000000000)(hlen:red.length<=1000):∀(rr:List Int) (i:Nat),red.drop i=rr->i<=red.length->∃E v',
  Y L Cs zb7 (some [85,84,14,5,86,13,8]) 4 [(85,.w (W red.length)),(84,.w (.c (.jb (zu red)))),(14,.w (W (b.hi+zet b.vhi (zd4 (zaK m b.lane))))),(5,.w (Pt 1)),(86,.w (W i)),(13,.w (Pt 3)),(8,.w (Pt 2))] [bx 11 (zh m r len),bx 6 (ze b),bx 6 (ze z),bxv v 6 (ze x)] =
    some (.exit 0,E,[bx 11 (zh m r len),bx 6 (ze b),bx 6 (ze z),bxv v' 6 (ze (zpT m b x rr))])/\E.get 13=some (.w (Pt 3))/\E.get 8=some (.w (Pt 2)):=by
 intro rr;induction rr with
 |nil =>
  intro i hd hi;obtain rfl:=zUb hd hi;rw[show zpT m b x []=x from rfl];refine⟨[(87,.w (Bo false)),(5,.w (Pt 1)),(14,.w (W (b.hi+zet b.vhi (zd4 (zaK m b.lane))))),(84,.w (.c (.jb (zu red)))),(85,.w (W red.length)),(86,.w (W red.length)),(13,.w (Pt 3)),(8,.w (Pt 2))],v,?_,by simp⟩;rw[ZfM zb7.eq_1];simp
 |cons l rr ih =>
  intro i hd hi;obtain⟨hil,hl,hd'⟩:=zL hd;have hw:=zB (i:=i) (by omega);have hlb:=hred l (hl ▸ jf hil);by_cases c:zcY m b l=true
  ·rw[show zpT m b x (l::rr)={ x with hi:=min x.hi (l-1),hold:=l } by rw[zpT,List.find?_cons_of_pos c]];refine⟨[(13,.w (Pt 3)),(8,.w (Pt 2))],v+1+1,?_,by simp⟩;have w1:=qG (l-1);rw[ZfM zb7.eq_1];clear ih;unfold zcY at c;simp only[jl,AC,decide_eq_true_eq]at c;obtain⟨c1,c2⟩:=c;by_cases c3:b.hi+zet b.vhi (zd4 (zaK m b.lane))<l
   ·simp[hil,hl,hw,w1,c1,c3,ze]
   ·have c2:=c2.resolve_left c3;have c4:(b.hold !=0)=true:=by simp[c2.1]
    simp[hil,hl,hw,w1,c1,c3,c2.1,c2.2,c4,ze]
  ·rw[show zpT m b x (l::rr)=zpT m b x rr by rw[zpT,List.find?_cons_of_neg c];rfl];obtain⟨E,v',h1,h2⟩:=ih (i+1) hd' hil;refine⟨E,v',?_,h2⟩;rw[<-h1,ZfM zb7.eq_1];clear ih h1 h2;have c:zcY m b l=false:=by simpa using c
   unfold zcY at c;by_cases c1:b.hi<l
   ·by_cases c2:b.hi+zet b.vhi (zd4 (zaK m b.lane))<l
    ·simp[c1,c2]at c
    ·by_cases c3:b.hold=0
     ·simp[hil,hl,hw,c1,c2,c3,ze]
     ·have c4:¬b.hold<=l:=by simp[c1,c2,c3]at c;omega
      have c3':(b.hold !=0)=true:=by simp[c3]
      simp[hil,hl,hw,c1,c2,c3,c3',c4,ze]
   ·simp[hil,hl,hw,c1,ze]
def zeA(zs:List Zon)(ss:List Sgn)(lane tick:Int):List Int:=zs.flatMap (zff ss lane tick)
theorem zBp{m:zD}{zs:List Zon}{ss:List Sgn}(h:zmq m zs ss)(lane tick:Int):zpN zs ss lane tick=zeA zs ss lane tick:=by
 have key:∀l:List Zon,(∀z∈l,(z.parts.map Prt.lane).Nodup)->l.flatMap (zqJ ss lane tick)=l.flatMap (zff ss lane tick):=by
  intro l;induction l with
  |nil=>grind
  |cons z l ih=>grind [zyf,List.mem_cons_self,List.mem_cons_of_mem]
 exact key zs h.nd
theorem zqK(zs:List Zon)(ss:List Sgn)(lane tick:Int):(zeA zs ss lane tick).length<=zs.length:=by
 unfold zeA;induction zs with
 |nil=>simp
 |cons z l ih =>
  grind [List.length_append,List.length_cons,zlX,List.length_nil]
theorem zuT{m:zD}{zs:List Zon}{ss:List Sgn}(h:zmq m zs ss){lane tick l:Int}(hl:l∈zeA zs ss lane tick):0<=l/\l<z8 m lane:=by
 unfold zeA at hl;rw[qd]at hl;obtain⟨z,hz,hl⟩:=hl;rcases zlX ss lane tick z with e |⟨p,hp,e⟩
 ·grind
 ·have h1:=vQ hp;have h2:=qP hp;have h3:=h.pv z hz p h2
  grind
theorem zBW{m:zD}{zs:List Zon}{ss:List Sgn}(h:zmq m zs ss)(lane tick:Int):R L Cs zpy [.a (zf m),W lane,W tick] []=some (.w (.c (.jb (zu (zeA zs ss lane tick)))),[]):=by
 have e:=zBp h lane tick;have ha:=h.asc lane tick;have hl:=zqK zs ss lane tick;have hf:=h.zd.few;have:=zCQ h.zd lane tick (by rw[e];exact ha) (by grind)
 grind
theorem zqo(m:zD):∀(r:List zfn) (i:Nat),∀x∈zbK m i r,0<=x/\x<i+r.length
 |[],i,x,h=>by grind [zbK]
 |y::r,i,x,h=>by
  unfold zbK at h;rw[jk];split at h
  ·rcases jQ.1 h with h|h
   ·grind
   ·have:=zqo m r (i+1) x h;omega
  ·have:=zqo m r (i+1) x h;omega
theorem zAU{m:zD}{zs:List Zon}{ss:List Sgn}(hf:zmq m zs ss)(r:List Int)(len:Int)(b:zk)(hb:VB m b)(tick:Int)(signals:Bool):R L Cs zgV [.a (zh m r len),.a (ze b),W tick,Bo signals] [] =
  some (.t [.a (ze (zdC m (zeA zs ss b.lane tick) b signals (decide (b.lane∈zbK m 0 m.jd)))),Bo (decide ((zdC m (zeA zs ss b.lane tick) b signals (decide (b.lane∈zbK m 0 m.jd))).lo<=(zdC m (zeA zs ss b.lane tick) b signals (decide (b.lane∈zbK m 0 m.jd))).hi))],[]):=by
 have h:=hf.qW;have ho:=zqQ h hb;have hle:=zyu h hb (decide (b.lane∈zbK m 0 m.jd)) (zeA zs ss b.lane tick);obtain⟨n,hn0⟩:=jB hb.lane.1;have hn:n<m.jd.length:=by have:=hb.lane.2;omega
 have hk:=h.kind _ (jf hn);have hB:=zmo hk;have ek:zaK m b.lane=m.jd[n].kind:=by grind [zaK]
 have a1:=hb.lo;have a2:=hb.le;have a4:=hb.vlo;have a5:=hb.vle;have a6:=hb.vhi;have ht:=ho.t;have hp:=ho.pos;have hs:=ho.s;have hff:=ho.f;have hst:=ho.st;have w1:IntKind.i64.wrap (b.vlo-zd4 m.jd[n].kind)=b.vlo-zd4 m.jd[n].kind:=by grind [zTd]
 have w2:IntKind.i64.wrap (b.vhi+zif m.jd[n].kind)=b.vhi+zif m.jd[n].kind:=by grind [zTd]
 have e1:max 0 (b.vlo-zd4 m.jd[n].kind)=zcW m b:=by rw[zcW,ek]
 have e2:min (zeR m.jd[n].kind) (b.vhi+zif m.jd[n].kind)=zde m b:=by rw[zde,ek]
 have w3:=qG (b.lo+zcW m b);have w4:=qG (b.hi+zde m b);have CG:(zkj (List.replicate m.jd.length false) (zbK m 0 m.jd))[n]?=some (decide (b.lane∈zbK m 0 m.jd)):=by
  have hl:n<(zkj (List.replicate m.jd.length false) (zbK m 0 m.jd)).length:=by grind [znN]
  have:=zqp (zbK m 0 m.jd) (List.replicate m.jd.length false) n (by grind) (fun x hx=>(zqo m m.jd 0 x hx).1)
  grind
 have hsl:n<(zkj (List.replicate m.jd.length false) (zbK m 0 m.jd)).length:=(jK.1 CG).1;have hsg:(zkj (List.replicate m.jd.length false) (zbK m 0 m.jd))[n]=decide (b.lane∈zbK m 0 m.jd):=(jK.1 CG).2;have hred:=fun l hl=>zuT hf (lane:=b.lane) (tick:=tick) (l:=l) hl
 have hrl:=zqK zs ss b.lane tick;have hzf:=hf.zd.few;have hln:=zcX h hb.lane;have hR:=zBW hf b.lane tick;have hS:=zBV b.vhi (zd4 m.jd[n].kind) (by omega) (by grind);have w5:IntKind.i64.wrap (b.hi+zet b.vhi (zd4 m.jd[n].kind))=b.hi+zet b.vhi (zd4 m.jd[n].kind):=by grind [zTd]
 generalize hsrcE:decide (b.lane∈zbK m 0 m.jd)=src at *;rw[zUa zlx rfl];cases signals with
 |false =>
  have hb1:decide ((zdC m (zeA zs ss b.lane tick) b false src).lo<=(zdC m (zeA zs ss b.lane tick) b false src).hi)=true:=by simpa using hle
  rw[hb1];by_cases c:b.lo=0
  ·cases src with
   |true=>simp[za9,zh,zi,zo,ze,hn0,hn,hB,w1,w2,e1,e2,w3,w4,hsg,hsl,c,zdC]
   |false =>
    rw[c,Int.zero_add]at w3;simp[za9,zh,zi,zo,ze,hn0,hn,hB,w1,w2,e1,e2,w3,w4,hsg,hsl,c,zdC]
  ·have c':(b.lo==0)=false:=by simp[c]
   simp[za9,zh,zi,zo,ze,hn0,hn,hB,w1,w2,e1,e2,w3,w4,hsg,hsl,c,c',zdC]
 |true =>
  rw[ek]at hst;have hmv:zdC m (zeA zs ss b.lane tick) b true src=zpT m b ⟨b.lane,if src=true/\b.lo=0 then 0 else b.lo+zcW m b,b.hi+zde m b,zcW m b,zde m b,0⟩ (zeA zs ss b.lane tick):=by
   simp only[zdC,zpT,if_true];cases (zeA zs ss b.lane tick).find? (zcY m b)<;>rfl
  have BX:=fun x v=>zwF (m:=m) r len b x z9 v ⟨by omega,by omega,by omega,by omega⟩ (zeA zs ss b.lane tick) (fun l hl=>by have:=hred l hl;omega) (by omega) (zeA zs ss b.lane tick) 0 rfl (jp _)
  rw[hmv];generalize zeA zs ss b.lane tick=red at *;rw[hn0]at hR;simp only[zf]at hR;by_cases c:b.lo=0
  ·cases src with
   |true =>
    obtain⟨E,v',h1,h2,h3⟩:=BX ⟨b.lane,0,b.hi+zde m b,zcW m b,zde m b,0⟩ 7;have hx:(if true=true/\b.lo=0 then 0 else b.lo+zcW m b)=0:=if_pos ⟨rfl,c⟩;rw[hx];generalize zpT m b ⟨b.lane,0,b.hi+zde m b,zcW m b,zde m b,0⟩ red=y at *;rw[ek]at h1;simp only[jg,zh,zi,ze,hn0,c]at h1;simp[za9,zh,zi,zo,ze,zf,hn0,hn,hB,w1,w2,e1,e2,w3,w4,w5,hsg,hsl,c,hR,hS,h1,h2,h3]
   |false =>
    obtain⟨E,v',h1,h2,h3⟩:=BX ⟨b.lane,b.lo+zcW m b,b.hi+zde m b,zcW m b,zde m b,0⟩ 6;have hx:(if false=true/\b.lo=0 then 0 else b.lo+zcW m b)=b.lo+zcW m b:=if_neg (fun h=>by cases h.1);rw[hx];generalize zpT m b ⟨b.lane,b.lo+zcW m b,b.hi+zde m b,zcW m b,zde m b,0⟩ red=y at *;rw[ek]at h1;simp only[jg,zh,zi,ze,hn0,c,Int.zero_add]at h1;rw[c,Int.zero_add]at w3;simp[za9,zh,zi,zo,ze,zf,hn0,hn,hB,w1,w2,e1,e2,w3,w4,w5,hsg,hsl,c,hR,hS,h1,h2,h3]
  ·have c':(b.lo==0)=false:=by simp[c]
   obtain⟨E,v',h1,h2,h3⟩:=BX ⟨b.lane,b.lo+zcW m b,b.hi+zde m b,zcW m b,zde m b,0⟩ 6;have hx:(if src=true/\b.lo=0 then 0 else b.lo+zcW m b)=b.lo+zcW m b:=if_neg (fun h=>c h.2);rw[hx];generalize zpT m b ⟨b.lane,b.lo+zcW m b,b.hi+zde m b,zcW m b,zde m b,0⟩ red=y at *;rw[ek]at h1;simp only[jg,zh,zi,ze,hn0]at h1;simp[za9,zh,zi,zo,ze,zf,hn0,hn,hB,w1,w2,e1,e2,w3,w4,w5,hsg,hsl,c,c',hR,hS,h1,h2,h3]
def zgo(l:List Int)(x:Int):Option Nat:=l.findIdx? fun y=>decide (y=x)
theorem zfT{l:List Int}{x:Int}{i:Nat}(h:zgo l x=some i):∃hi:i<l.length,l[i]=x:=by
 obtain⟨h1,h2,_⟩:=jT.1 h
 grind
theorem zoq(l:List Int)(x:Int)(hl:l.length<=100000):R L Cs zf1 [.c (.jb (zu l)),W x] []=some (.w (W (zbe (zgo l x))),[]):=by
 obtain⟨h1,h2⟩:=zpv l x hl l 0 rfl (jp _);simp only[jg]at h1 h2;by_cases h:x∈l
 ·obtain⟨k,hk,hk1,hk2⟩:=h2 h;obtain⟨hkl,hkx⟩:=jK.1 hk1;have e:zgo l x=some k:=by
   refine jT.2 ⟨hkl,by grind,fun j hj=>?_⟩
   grind
  rw[e,zUa zeL rfl];simp[zcI,hk,zbe]
 ·obtain⟨E',hE⟩:=h1 h;have e:zgo l x=none:=kl.2 fun y hy=>by
   have:y≠x:=fun e=>h (e ▸ hy)
   simp[this]
  rw[e,zUa zeL rfl];simp[zcI,hE,zbe]
def kM(m:zD)(r:List Int)(i:Nat):Int:=(zW m 0 r).getD i 0
def zcV(r:List Int)(lane:Int)(cap:Bool):Bool:=cap&&(zgo r lane).isSome
def zcj(m:zD)(r:List Int)(bar lane hi:Int)(cap:Bool):Int:=match zgo r lane with
 |some i=>if cap then min hi (min (z8 m lane) (bar-kM m r i)) else min hi (z8 m lane)
 |none=>min hi (z8 m lane)
abbrev LB:=zk×Bool
def lbC(x:LB):List Cl:=[I x.1.lane,I x.1.lo,I x.1.hi,I x.1.vlo,I x.1.vhi,I x.1.hold,.bool x.2]
def zdz(l:List LB):List (List Cl):=l.map lbC
@[simp] theorem zx8(l:List LB):(zdz l).length=l.length:=by simp[zdz]
@[simp] theorem zgf:zdz []=[]:=rfl
@[simp] theorem zfd(x:LB)(l:List LB):zdz (x::l)=lbC x::zdz l:=rfl
@[simp] theorem zx9(l k:List LB):zdz (l++k)=zdz l++zdz k:=by simp[zdz]
@[simp] theorem zBc{l:List LB}{i:Nat}(h:i<(zdz l).length):(zdz l)[i]=lbC (l[i]'(by simpa using h)):=by simp[zdz]
@[simp] theorem zCs(l:List LB):(zdz l).take l.length=zdz l:=jx (by simp)
def zhO(m:zD)(r:List Int)(bar:Int)(b:zk)(lo hi:Int)(cap:Bool):zk:=⟨b.lane,max 0 lo,zcj m r bar b.lane hi cap,b.vlo,b.vhi,b.hold⟩
def stays(m:zD)(r:List Int)(bar:Int)(b:zk)(lo hi:Int)(cap:Bool):Bool:=decide (lo<=z8 m b.lane)&&decide (max 0 lo<=zcj m r bar b.lane hi cap)
def zbA(m:zD)(r:List Int)(bar:Int)(b:zk)(lo hi:Int)(cap:Bool):List LB :=
 if stays m r bar b lo hi cap=true then [(zhO m r bar b lo hi cap,zcV r b.lane cap)] else []
def zm(m:zD)(r:List Int)(len bar:Int)(e:Ego):List Cl:=zh m r len++[I bar,I e.slo,I e.shi,I e.vlo,I e.vhi]
abbrev zbt(j:Nat):Option Blk:=some { box:=true,esz:=1,rows:=[[.fn zcg [] [.ptr 0 0 0 0,.ptr 1 0 0 0,.ptr j 0 0 0]]],gen:=0,fz:=false,ver:=1 }
structure ziO(m:zD)(r:List Int)(bar:Int):Prop where
 qW:zcp m
 len:r.length<=8
 on:zj2 m r
 bar:-4000000000000<=bar/\bar<=4000000000000
theorem zqm{m:zD}(h:zcp m):∀(r:List Int),zj2 m r->∀(a:Int) (i:Nat),0<=a->i<r.length->a<=(zW m a r).getD i 0/\(zW m a r).getD i 0<=a+1000000*i
 |[],_,a,i,_,hi=>by grind
 |x::r,hon,a,0,ha,_=>by simp[zW]
 |x::r,hon,a,i+1,ha,hi=>by
  have hx:=zcX h (hon x (jy ..));have:=zqm h r (fun y hy=>hon y (jI _ hy)) (a+z8 m x) i (by omega) (by grind)
  grind [zW,List.getD_cons_succ]
theorem zmA{m:zD}{r:List Int}{bar:Int}(h:ziO m r bar){i:Nat}(hi:i<r.length):0<=kM m r i/\kM m r i<=8000000:=by
 have:=zqm h.qW r h.on 0 i (kS _) hi;have h8:=h.len
 grind [kM]
theorem zz6{m:zD}{r:List Int}{bar:Int}(h:ziO m r bar)(len:Int)(e:Ego)(b:zk)(hb:0<=b.lane/\b.lane<m.jd.length)(hn:zS m b.lane=[])(lo hi:Int)(hlo:-100000000<=lo/\lo<=100000000)(hhi:-100000000<=hi/\hi<=100000000)(cap:Bool)(l:List LB)(hl:l.length<=1000)(v:Nat) :
  R L Cs zcg [.a (ze b),W lo,W hi,Bo cap,Pt 0,Pt 1,Pt 3] [bx 16 (zm m r len bar e),bxv v 1 [.slice 2 l.length 7 0 l.length none],some (own 7 (zdz l)),zbt 3] =
    some (.t [],[bx 16 (zm m r len bar e),bxv (if stays m r bar b lo hi cap=true then v+1 else v) 1 [.slice 2 (l++zbA m r bar b lo hi cap).length 7 0 (l++zbA m r bar b lo hi cap).length none],some (own 7 (zdz (l++zbA m r bar b lo hi cap))),zbt 3]):=by
 obtain⟨n,hn0⟩:=jB hb.1;have hnl:n<m.jd.length:=by omega
 have hI:=zoq r b.lane (by have:=h.len;omega);have hlen:=zcX h.qW hb;have el:z8 m b.lane=m.jd[n].len:=by grind [z8]
 have en:m.jd[n].next=[]:=by grind [zS]
 have hY:∀(n0:Nat) (a c d e1 f g q s u1:AV) (M:Mem),Y L Cs zU (some [89,88,87,7,12,4,6,1,2,11,3]) n0 [(89,.w (W 0)),(88,.w (W 0)),(87,a),(7,c),(12,d),(4,e1),(6,f),(1,g),(2,q),(11,s),(3,u1)] M=some (.exit 0,[(90,.w (Bo false)),(89,.w (W 0)),(88,.w (W 0)),(87,a),(7,c),(12,d),(4,e1),(6,f),(1,g),(2,q),(11,s),(3,u1)],M):=by
  intro n0 a c d e1 f g q s u1 M;rw[ZfM zU.eq_1];simp
 have hrm:(l.length+1)*56<=140737488355328:=by omega
 rw[el]at hlen;cases hix:zgo r b.lane with
 |none =>
  rw[hix]at hI;simp only[hn0,zbe]at hI;cases cap with
  |true =>
   have ec:zcV r b.lane true=false:=by simp[zcV,hix]
   have et:zcj m r bar b.lane hi true=min hi m.jd[n].len:=by simp[zcj,hix,el]
   unfold zbA stays zhO;rw[ec,et,el,zUa zam rfl];by_cases d1:lo<=m.jd[n].len
   ·by_cases d2:max 0 lo<=min hi m.jd[n].len
    ·by_cases d3:hi<m.jd[n].len
     ·simp[za,zm,zh,zi,ze,zo,hn0,hnl,hI,d1,d2,d3,hrm,en,hY,lbC,zg,zr]
     ·simp[za,zm,zh,zi,ze,zo,hn0,hnl,hI,d1,d2,d3,hrm,en,hY,lbC,zg,zr]
    ·by_cases d3:hi<m.jd[n].len
     ·simp[za,zm,zh,zi,ze,zo,hn0,hnl,hI,d1,d2,d3,hrm,en,hY,lbC,zg,zr]
     ·simp[za,zm,zh,zi,ze,zo,hn0,hnl,hI,d1,d2,d3,hrm,en,hY,lbC,zg,zr]
   ·by_cases d3:hi<m.jd[n].len
    ·simp[za,zm,zh,zi,ze,zo,hn0,hnl,hI,d1,d3,hrm,en,hY,lbC,zg,zr]
    ·simp[za,zm,zh,zi,ze,zo,hn0,hnl,hI,d1,d3,hrm,en,hY,lbC,zg,zr]
  |false =>
   have ec:zcV r b.lane false=false:=by simp[zcV,hix]
   have et:zcj m r bar b.lane hi false=min hi m.jd[n].len:=by simp[zcj,hix,el]
   unfold zbA stays zhO;rw[ec,et,el,zUa zam rfl];by_cases d1:lo<=m.jd[n].len
   ·by_cases d2:max 0 lo<=min hi m.jd[n].len
    ·by_cases d3:hi<m.jd[n].len
     ·simp[za,zm,zh,zi,ze,zo,hn0,hnl,hI,d1,d2,d3,hrm,en,hY,lbC,zg,zr]
     ·simp[za,zm,zh,zi,ze,zo,hn0,hnl,hI,d1,d2,d3,hrm,en,hY,lbC,zg,zr]
    ·by_cases d3:hi<m.jd[n].len
     ·simp[za,zm,zh,zi,ze,zo,hn0,hnl,hI,d1,d2,d3,hrm,en,hY,lbC,zg,zr]
     ·simp[za,zm,zh,zi,ze,zo,hn0,hnl,hI,d1,d2,d3,hrm,en,hY,lbC,zg,zr]
   ·by_cases d3:hi<m.jd[n].len
    ·simp[za,zm,zh,zi,ze,zo,hn0,hnl,hI,d1,d3,hrm,en,hY,lbC,zg,zr]
    ·simp[za,zm,zh,zi,ze,zo,hn0,hnl,hI,d1,d3,hrm,en,hY,lbC,zg,zr]
 |some i =>
  obtain⟨hil,_⟩:=zfT hix;have hsb:=zmA h hil;have hbar:=h.bar;have wS:=qG (bar-kM m r i);have hsl:i<(zW m 0 r).length:=by rw[zcO];exact hil
  have hsi:(zW m 0 r)[i]=kM m r i:=by simp[kM,hsl]
  rw[hix]at hI;simp only[hn0,zbe]at hI;cases cap with
  |true =>
   have ec:zcV r b.lane true=true:=by simp[zcV,hix]
   have et:zcj m r bar b.lane hi true=min hi (min m.jd[n].len (bar-kM m r i)):=by simp[zcj,hix,el]
   unfold zbA stays zhO;rw[ec,et,el,zUa zam rfl];by_cases d1:lo<=m.jd[n].len
   ·by_cases d2:max 0 lo<=min hi (min m.jd[n].len (bar-kM m r i))
    ·by_cases d3:hi<m.jd[n].len
     ·simp[za,zm,zh,zi,ze,zo,hn0,hnl,hI,hil,hsl,hsi,wS,d1,d2,d3,hrm,en,hY,lbC,zg,zr]
     ·simp[za,zm,zh,zi,ze,zo,hn0,hnl,hI,hil,hsl,hsi,wS,d1,d2,d3,hrm,en,hY,lbC,zg,zr]
    ·by_cases d3:hi<m.jd[n].len
     ·simp[za,zm,zh,zi,ze,zo,hn0,hnl,hI,hil,hsl,hsi,wS,d1,d2,d3,hrm,en,hY,lbC,zg,zr]
     ·simp[za,zm,zh,zi,ze,zo,hn0,hnl,hI,hil,hsl,hsi,wS,d1,d2,d3,hrm,en,hY,lbC,zg,zr]
   ·by_cases d3:hi<m.jd[n].len
    ·simp[za,zm,zh,zi,ze,zo,hn0,hnl,hI,hil,hsl,hsi,wS,d1,d3,hrm,en,hY,lbC,zg,zr]
    ·simp[za,zm,zh,zi,ze,zo,hn0,hnl,hI,hil,hsl,hsi,wS,d1,d3,hrm,en,hY,lbC,zg,zr]
  |false =>
   have ec:zcV r b.lane false=false:=by simp[zcV,hix]
   have et:zcj m r bar b.lane hi false=min hi m.jd[n].len:=by simp[zcj,hix,el]
   unfold zbA stays zhO;rw[ec,et,el,zUa zam rfl];by_cases d1:lo<=m.jd[n].len
   ·by_cases d2:max 0 lo<=min hi m.jd[n].len
    ·by_cases d3:hi<m.jd[n].len
     ·simp[za,zm,zh,zi,ze,zo,hn0,hnl,hI,hil,hsl,hsi,wS,d1,d2,d3,hrm,en,hY,lbC,zg,zr]
     ·simp[za,zm,zh,zi,ze,zo,hn0,hnl,hI,hil,hsl,hsi,wS,d1,d2,d3,hrm,en,hY,lbC,zg,zr]
    ·by_cases d3:hi<m.jd[n].len
     ·simp[za,zm,zh,zi,ze,zo,hn0,hnl,hI,hil,hsl,hsi,wS,d1,d2,d3,hrm,en,hY,lbC,zg,zr]
     ·simp[za,zm,zh,zi,ze,zo,hn0,hnl,hI,hil,hsl,hsi,wS,d1,d2,d3,hrm,en,hY,lbC,zg,zr]
   ·by_cases d3:hi<m.jd[n].len
    ·simp[za,zm,zh,zi,ze,zo,hn0,hnl,hI,hil,hsl,hsi,wS,d1,d3,hrm,en,hY,lbC,zg,zr]
    ·simp[za,zm,zh,zi,ze,zo,hn0,hnl,hI,hil,hsl,hsi,wS,d1,d3,hrm,en,hY,lbC,zg,zr]
def zbi(r:List Int)(lane x:Int):Bool:=match zgo r lane,zgo r x with
 |some i,some j=>decide (j=i+1)
 |_,_=>false
def zb2(m:zD)(r:List Int)(slo lane x:Int):Bool:=match zgo r x with
 |some j=>!zbi r lane x&&decide (kM m r j<=slo)
 |none=>false
def zhq(m:zD)(r:List Int)(slo lane x:Int)(cap:Bool):Bool:=(zbi r lane x&&zcV r lane cap)||zb2 m r slo lane x
def za6(b:zk)(x:Int):zk:=⟨x,b.lo,b.hi,b.vlo,b.vhi,0⟩
abbrev lyE(m:zD)(r:List Int)(b:zk)(lo hi:Int)(cap:Bool)(i:Nat):Env:=[(89,.w (W i)),(88,.w (W (zS m b.lane).length)),(87,.w (.c (.jb (zu (zS m b.lane))))),(7,.w (Pt 3)),(12,.w (W (zbe (zgo r b.lane)))),(4,.w (Pt 0)),(6,.w (Pt 2)),(1,.w (W lo)),(2,.w (W hi)),(11,.w (W (z8 m b.lane))),(3,.w (Bo (zcV r b.lane cap)))]
theorem zxc(l:List Int)(x:Int)(hl:l.length<=100000)(M:Mem):zx (R L Cs) ⟨true⟩ (.c (.fn zf1 [] [])) [.c (.jb (zu l)),W x] M=some (.w (W (zbe (zgo l x))),M,.no):=by
 have h:=zoq l x hl;simp[h]
theorem zqW{m:zD}{r:List Int}{bar:Int}(h:ziO m r bar)(len:Int)(e:Ego)(b:zk)(hb:0<=b.lane/\b.lane<m.jd.length)(lo hi:Int)(hlo:-100000000<=lo/\lo<=100000000)(hhi:-100000000<=hi/\hi<=100000000)(cap:Bool)(n0:Nat)(i:Nat)(hi1:i<(zS m b.lane).length)(hi2:i<1000)(O:Option Blk)(T M2:Mem)(fp:FP)
  (qI:zx (R L Cs) ⟨true⟩ (.c (.fn zcg [] [.ptr 0 0 0 0,.ptr 1 0 0 0,.ptr 2 0 0 0])) [.a (ze (za6 b (zS m b.lane)[i])),W (lo-z8 m b.lane),W (hi-z8 m b.lane),Bo (zhq m r e.slo b.lane (zS m b.lane)[i] cap)] (bx 16 (zm m r len bar e)::O::zbt 2::bx 6 (ze b)::(T++[bxv 3 6 (ze (za6 b (zS m b.lane)[i]))]))=some (.t [],M2,fp)) :
  Y L Cs zU (some [89,88,87,7,12,4,6,1,2,11,3]) n0 (lyE m r b lo hi cap i) (bx 16 (zm m r len bar e)::O::zbt 2::bx 6 (ze b)::T) =
    Y L Cs zU (some [89,88,87,7,12,4,6,1,2,11,3]) n0 (lyE m r b lo hi cap (i+1)) (kD n0 (lyE m r b lo hi cap (i+1)) M2):=by
 have hlen:=zcX h.qW hb;have hw:=zB (i:=i) (by omega);have hI:=zxc r (zS m b.lane)[i] (by have:=h.len;omega);have w1:=qG (lo-z8 m b.lane);have w2:=qG (hi-z8 m b.lane);rw[ZfM zU.eq_1];generalize hx:(zS m b.lane)[i]=x at *;simp only[zm,zh,zi,ze,za6,ji,je]at qI ⊢;cases hL:zgo r b.lane with
 |none =>
  have hcT:zcV r b.lane cap=false:=by simp[zcV,hL]
  cases hX:zgo r x with
  |none =>
   rw[hX]at hI;simp only[zbe]at hI;have hc:zhq m r e.slo b.lane x cap=false:=by simp[zhq,zb2,zbi,zcV,hL,hX]
   rw[hc]at qI;simp[lyE,hi1,hx,hw,w1,w2,hI,zbe,zg,qI,hL,hcT,-zx,-kD]
  |some j =>
   obtain⟨hjl,_⟩:=zfT hX;have hsl:j<(zW m 0 r).length:=by rw[zcO];exact hjl
   have hsi:(zW m 0 r)[j]=kM m r j:=by simp[kM,hsl]
   rw[hX]at hI;simp only[zbe]at hI;by_cases d:kM m r j<=e.slo
   ·have hc:zhq m r e.slo b.lane x cap=true:=by simp[zhq,zb2,zbi,zcV,hL,hX,d]
    rw[hc]at qI;simp[lyE,hi1,hx,hw,w1,w2,hI,zbe,zg,qI,hL,hcT,hjl,hsl,hsi,d,-zx,-kD]
   ·have hc:zhq m r e.slo b.lane x cap=false:=by simp[zhq,zb2,zbi,zcV,hL,hX,d]
    rw[hc]at qI;simp[lyE,hi1,hx,hw,w1,w2,hI,zbe,zg,qI,hL,hcT,hjl,hsl,hsi,d,-zx,-kD]
 |some q =>
  obtain⟨hql,_⟩:=zfT hL;have hq8:=h.len;have hwq:IntKind.i64.wrap ((q:Int)+1)=((q+1:Nat):Int):=zB (by omega);have hcT:zcV r b.lane cap=cap:=by simp[zcV,hL]
  cases hX:zgo r x with
  |none =>
   rw[hX]at hI;simp only[zbe]at hI;have hne:((-1:Int)==((q:Int)+1))=false:=by simp;omega
   have hc:zhq m r e.slo b.lane x cap=false:=by simp[zhq,zb2,zbi,zcV,hL,hX]
   rw[hc]at qI;simp[lyE,hi1,hx,hw,w1,w2,hI,zbe,zg,qI,hL,hcT,hwq,hne,-zx,-kD]
  |some j =>
   obtain⟨hjl,_⟩:=zfT hX;have hsl:j<(zW m 0 r).length:=by rw[zcO];exact hjl
   have hsi:(zW m 0 r)[j]=kM m r j:=by simp[kM,hsl]
   rw[hX]at hI;simp only[zbe]at hI;by_cases f:j=q+1
   ·subst f;have hq0:(0:Int)<=(q:Int)+1:=by omega
    cases cap with
    |true =>
     have hc:zhq m r e.slo b.lane x true=true:=by simp[zhq,zb2,zbi,zcV,hL,hX]
     rw[hc]at qI;simp[lyE,hi1,hx,hw,w1,w2,hI,zbe,zg,qI,hL,hcT,hwq,hq0,-zx,-kD]
    |false =>
     have hc:zhq m r e.slo b.lane x false=false:=by simp[zhq,zb2,zbi,zcV,hL,hX]
     rw[hc]at qI;simp[lyE,hi1,hx,hw,w1,w2,hI,zbe,zg,qI,hL,hcT,hwq,hq0,-zx,-kD]
   ·have hne:((j:Int)==((q:Int)+1))=false:=by simp;omega
    by_cases d:kM m r j<=e.slo
    ·have hc:zhq m r e.slo b.lane x cap=true:=by simp[zhq,zb2,zbi,zcV,hL,hX,f,d]
     rw[hc]at qI;simp[lyE,hi1,hx,hw,w1,w2,hI,zbe,zg,qI,hL,hcT,hwq,hne,f,hjl,hsl,hsi,d,-zx,-kD]
    ·have hc:zhq m r e.slo b.lane x cap=false:=by simp[zhq,zb2,zbi,zcV,hL,hX,f,d]
     rw[hc]at qI;simp[lyE,hi1,hx,hw,w1,w2,hI,zbe,zg,qI,hL,hcT,hwq,hne,f,hjl,hsl,hsi,d,-zx,-kD]
end Go.TrRun
