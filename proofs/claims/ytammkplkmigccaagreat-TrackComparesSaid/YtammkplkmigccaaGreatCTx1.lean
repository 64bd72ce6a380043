/- This text proves what functions of this seat's program answer, run by the evaluator; no condition. -/
import Derived.Test.YtammkplkmigccaaGreatCTb1
set_option maxHeartbeats 8000000
set_option linter.unusedVariables false
set_option linter.unusedSimpArgs false
set_option linter.unusedSectionVars false
set_option maxRecDepth 10000
namespace Go.TrRun
open Go Go.Eng
theorem zL{α:Type}{l r:List α}{i:Nat}{x:α}(h:l.drop i=x::r):∃hi:i<l.length,l[i]=x/\l.drop (i+1)=r:=by
 have hi:i<l.length:=by
  have:=congrArg List.length h;simp at this;omega
 rw[jW hi]at h;exact⟨hi,(u0 h).1,(u0 h).2⟩
theorem zUb{α:Type}{l:List α}{i:Nat}(h:l.drop i=[])(hi:i<=l.length):i=l.length:=by
 have:=congrArg List.length h;simp at this;omega
theorem zB{i:Nat}(h:i<4000000000000000000):IntKind.i64.wrap ((i:Int)+1)=((i+1:Nat):Int):=by
 rw[zTd _ (by omega) (by omega)];simp
def zu(l:List Int):List (List Cl):=l.map fun x=>[I x]
@[simp] theorem zfq(l:List Int):(zu l).length=l.length:=by simp[zu]
@[simp] theorem zBj(l m:List Int):zu (l++m)=zu l++zu m:=by simp[zu]
@[simp] theorem zay:zu []=[]:=rfl
@[simp] theorem zaP(x:Int)(l:List Int):zu (x::l)=[I x]::zu l:=rfl
@[simp] theorem zCt(l:List Int):(zu l).take l.length=zu l:=jX (by simp)
@[simp] theorem zBd{l:List Int}{i:Nat}(h:i<(zu l).length):(zu l)[i]=[I (l[i]'(by simpa using h))]:=by simp[zu]
@[simp] theorem zCu(t:List Int):(∀x,x∈zu t->x.length=1)<->True:=by simp[zu]
structure zk where
 lane:Int
 lo:Int
 hi:Int
 vlo:Int
 vhi:Int
 hold:Int
 deriving DecidableEq
structure Ego where
 slo:Int
 shi:Int
 vlo:Int
 vhi:Int
 deriving DecidableEq
structure zci where
 tick:Int
 ju:List zk
 ego:Ego
def ze(b:zk):List Cl:=[I b.lane,I b.lo,I b.hi,I b.vlo,I b.vhi,I b.hold]
def zI(l:List zk):List (List Cl):=l.map ze
def zG(k:zci):List Cl:=[I k.tick,.jc (zI k.ju),I k.ego.slo,I k.ego.shi,I k.ego.vlo,I k.ego.vhi]
@[simp] theorem zgg(l:List zk):(zI l).length=l.length:=by simp[zI]
@[simp] theorem znQ(l m:List zk):zI (l++m)=zI l++zI m:=by simp[zI]
@[simp] theorem zic:zI []=[]:=rfl
@[simp] theorem zCy(x:zk)(l:List zk):zI (x::l)=ze x::zI l:=rfl
@[simp] theorem zCw(l:List zk):(zI l).take l.length=zI l:=jX (by simp)
@[simp] theorem zBe{l:List zk}{i:Nat}(h:i<(zI l).length):(zI l)[i]=ze (l[i]'(by simpa using h)):=by simp[zI]
@[simp] theorem zDd(b:zk):(ze b).length=6:=rfl
@[simp] theorem zCF(b:zk):(ze b).take 6=ze b:=rfl
@[simp] theorem zDb(t:List zk):(∀x,x∈zI t->x.length=6)<->True:=by simp[zI]
theorem zvv(l:List zk)(hl:l.length<=100000000000):R L Cs zmP [.c (.jc (zI l))] []=some (.w (.c (sl 0 6 (zI l))),[some (own 6 (zI l))]):=by
 have hr:l.length*48<=140737488355328:=by omega
 have hL:Cs.lookup zmP=some (6,48,false):=by kernel_rfl
 rw[zrP rfl];simp[vK,hL,zuh,hr]
theorem z1I(k:zci)(hl:k.ju.length<=100000000000):R L Cs zZq [.a (zG k)] []=some (.w (.a (zG k)),[]):=by
 have hc:=zvv k.ju hl;rw[zUa zZz rfl];simp[zul,zG,hc]
theorem zy8(k:zci)(hl:k.ju.length<=100000000000):R L Cs zln [.a (zG k)] []=some (.w (.a (zG k)),[]):=by
 have hr:k.ju.length*48<=140737488355328:=by omega
 rw[zUa zlD rfl];cases hb:k.ju with
 |nil=>simp[zdH,zG,hb]
 |cons b l =>
  rw[hb]at hr;simp at hr;simp[zdH,zG,hb,hr]
def zgQ(a b:Int):Int:=if a<b then -1 else if b<a then 1 else 0
theorem zpH(a:Int):R L Cs zlc [W a] []=some (.w (Bo false),[]):=by
 rw[zUa zle rfl];simp[zfU]
theorem zsr(a b:Int):R L Cs zi6 [W a,W b] []=some (.w (W (zgQ a b)),[]):=by
 rw[zUa zja rfl];have h1:=zpH a;have h2:=zpH b;by_cases h:a<b
 ·simp[zb3,h1,h2,h,zgQ]
 ·by_cases h':b<a
  ·simp[zb3,h1,h2,h,h',zgQ]
  ·simp[zb3,h1,h2,h,h',zgQ]
theorem zBq(l:List Int)(hl:l.length<=1000):Y L Cs zab (some [7,6,3,8]) 0 [(7,.w (W l.length)),(6,.w (.c (.jc (zu l)))),(3,.w (W 0)),(8,.w (W (0:Nat)))] [] =
  some (match l.findIdx? (fun x=>x !=0)with |some i=>(.ret,[(2,.w (W ((l[i]?).getD 0)))],[]) |none=>(.exit 0,[(9,.w (Bo false)),(3,.w (W 0)),(6,.w (.c (.jc (zu l)))),(7,.w (W l.length)),(8,.w (W l.length))],[])):=by
 refine zxf l (fun i=>[(7,.w (W l.length)),(6,.w (.c (.jc (zu l)))),(3,.w (W 0)),(8,.w (W i))]) _ _ _ _ ?_ ?_ ?_
 ·intro i h hp;have hw:=zB (i:=i) (by omega);simp at hp;rw[zj zab.eq_1];simp[h,hw,hp]
 ·intro i h hp;rw[zj zab.eq_1];simp[h,hp]
 ·rw[zj zab.eq_1];simp
theorem zA0(x y:Int):R L Cs zob [.c (.jc (zu [x,y]))] []=some (.w (W (if x≠0 then x else y)),[]):=by
 have h:=zBq [x,y] (by simp);simp only[ji,zaP,zay,jM,jL]at h;rw[zUa zow rfl];by_cases hx:x=0
 ·by_cases hy:y=0
  ·simp[hx,hy,qL]at h;simp[zfw,h,hx,hy]
  ·have hb:(y !=0)=true:=by simp[hy]
   simp[hx,hy,hb,qL]at h;simp[zfw,h,hx,hy]
 ·have hb:(x !=0)=true:=by simp[hx]
  simp[hx,hb,qL]at h;simp[zfw,h,hx]
theorem zpv(l:List Int)(x:Int)(hl:l.length<=100000):∀(r:List Int) (i:Nat),l.drop i=r->i<=l.length ->
  (x∉r->∃E',Y L Cs za7 (some [7,1,0,8]) 0 [(7,.w (W l.length)),(1,.w (W x)),(0,.w (.c (.jc (zu l)))),(8,.w (W i))] []=some (.exit 0,E',[])) /\
  (x∈r->∃k:Nat,Y L Cs za7 (some [7,1,0,8]) 0 [(7,.w (W l.length)),(1,.w (W x)),(0,.w (.c (.jc (zu l)))),(8,.w (W i))] []=some (.ret,[(4,.w (W k))],[])/\l[k]?=some x/\∀m,i<=m->m<k->l[m]?≠some x):=by
 intro r;induction r with
 |nil =>
  intro i hd hi;obtain rfl:=zUb hd hi;refine⟨fun _=>⟨_,zhJ (r:=(.exit 0,[(9,.w (Bo false)),(0,.w (.c (.jc (zu l)))),(1,.w (W x)),(7,.w (W l.length)),(8,.w (W l.length))],[])) ?_ (by simp)⟩,fun h=>by simp at h⟩;simp[za7]
 |cons y r ih =>
  intro i hd hi;obtain⟨hil,hy,hd'⟩:=zL hd;obtain⟨ih1,ih2⟩:=ih (i+1) hd' hil;have hw:=zB (i:=i) (by omega);by_cases hxy:x=y
  ·refine⟨fun h=>by simp[hxy]at h,fun _=>⟨i,zhJ ?_ (by simp),?_,?_⟩⟩
   ·have hb:(x==y)=true:=by simp[hxy]
    simp[za7,hil,hy,hb]
   ·rw[jk hil,hy,hxy]
   ·intro m h1 h2;omega
  ·have hb:(x==y)=false:=by simp[hxy]
   have vh:Y L Cs za7 (some [7,1,0,8]) 0 [(7,.w (W l.length)),(1,.w (W x)),(0,.w (.c (.jc (zu l)))),(8,.w (W i))] []=Y L Cs za7 (some [7,1,0,8]) 0 [(7,.w (W l.length)),(1,.w (W x)),(0,.w (.c (.jc (zu l)))),(8,.w (W (i+1:Nat)))] []:=by
    rw[zrL];simp[za7,hil,hy,hb,hw]
   rw[vh];refine⟨fun h=>ih1 (fun h'=>h (jt _ h')),fun h=>?_⟩;have h:x∈r:=by rcases jx.1 h with h |h;exact absurd h hxy;exact h
   obtain⟨k,h1,h2,h3⟩:=ih2 h;refine⟨k,h1,h2,fun m h4 h5=>?_⟩;rcases Nat.eq_or_lt_of_le h4 with rfl|h6
   ·rw[jk hil,hy];intro h;exact hxy (Option.some.inj h).symm
   ·exact h3 m h6 h5
theorem znC(l:List Int)(x:Int)(hl:l.length<=100000):R L Cs zli [.c (.jc (zu l)),W x] []=some (.w (Bo (decide (x∈l))),[]):=by
 obtain⟨h1,h2⟩:=zpv l x hl l 0 rfl (jE _);simp only[ji]at h1 h2;have key:∃k:Int,R L Cs zf1 [.c (.jc (zu l)),W x] []=some (.w (W k),[])/\(decide (0<=k)=decide (x∈l)):=by
  by_cases h:x∈l
  ·obtain⟨k,hk,_,_⟩:=h2 h;refine⟨k,?_,by simp[h]⟩;rw[zUa zeL rfl];simp[zcI,hk]
  ·obtain⟨E',hE⟩:=h1 h;refine⟨-1,?_,by simp[h]⟩;rw[zUa zeL rfl];simp[zcI,hE]
 obtain⟨k,hk,hd⟩:=key;rw[zUa zlu rfl];simp[zeW,hk,hd]
structure zfn where
 kind:Int
 pts:List (Int×Int)
 half:Int
 vg:Int
 next:List Int
 len:Int
structure zCP where
 lane:Int
 lo:Int
 hi:Int
 Ae:Int
 ends:Int
 vg:Int
structure zD where
 version:Int
 jf:List zfn
 ke:List (List Cl)
 signals:List (List Cl)
 qj:List zCP
def zo(l:zfn):List Cl:=[I l.kind,.jc (l.pts.map fun p=>[I p.1,I p.2]),I l.half,I l.vg,.jc (zu l.next)]
def zaL(w:zCP):List Cl:=[I w.lane,I w.lo,I w.hi,I w.Ae,I w.ends,I w.vg]
def zf(m:zD):List Cl:=[I m.version,.jc (m.jf.map zo),.jc m.ke,.jc m.signals,.jc (m.qj.map zaL)]
def zes(x:Int):Nat->List zfn->List Int
 |_,[]=>[]
 |k,l::ls=>if x∈l.next then(k:Int)::zes x (k+1) ls else zes x (k+1) ls
theorem zvG(m:zD)(x:Int)(hn:m.jf.length<=100)(hx:∀l∈m.jf,l.next.length<=1000):∀(r:List zfn) (i:Nat) (out:List Int),m.jf.drop i=r->i<=m.jf.length->out.length<=i ->
  Y L Cs zdU (some [5,11,10,9,1]) 3 [(5,.w (.c (sl 2 1 (zu out)))),(11,.w (W i)),(10,.w (W m.jf.length)),(9,.w (.c (.jc (m.jf.map zo)))),(1,.w (W x))] [some { box:=true,esz:=5,rows:=[zf m],gen:=0,fz:=false,ver:=0 },some { box:=false,esz:=1,rows:=[],gen:=0,fz:=false,ver:=0 },some (own 1 (zu out))] =
    some (.exit 0,[(12,.w (Bo false)),(5,.w (.c (sl 2 1 (zu (out++zes x i r))))),(11,.w (W m.jf.length)),(10,.w (W m.jf.length)),(9,.w (.c (.jc (m.jf.map zo)))),(1,.w (W x))],[some { box:=true,esz:=5,rows:=[zf m],gen:=0,fz:=false,ver:=0 },some { box:=false,esz:=1,rows:=[],gen:=0,fz:=false,ver:=0 },some (own 1 (zu (out++zes x i r)))]):=by
 intro r;induction r with
 |nil =>
  intro i out hd hi ho;obtain rfl:=zUb hd hi;refine zhJ ?_ (by simp);simp[zdU,zes]
 |cons l r ih =>
  intro i out hd hi ho;obtain⟨hil,hl,hd'⟩:=zL hd;have hw:=zB (i:=i) (by omega);have hc:=znC l.next x (by have:=hx l (by rw[<-hl];exact je hil);omega);have kj:(out.length+1)*8<=140737488355328:=by omega
  by_cases hb:x∈l.next
  ·have yn:=ih (i+1) (out++[(i:Int)]) hd' hil (by simp;omega);rw[zes,if_pos hb,show out++(i:Int)::zes x (i+1) r=(out++[(i:Int)])++zes x (i+1) r by simp,<-yn,zrL];simp[hb]at hc;simp[zdU,hil,hl,zo,zf,hc,hw,kj]
  ·have yn:=ih (i+1) out hd' hil (by omega);rw[zes,if_neg hb,<-yn,zrL];simp[hb]at hc;simp[zdU,hil,hl,zo,zf,hc,hw]
theorem zvT(m:zD)(x:Int)(hn:m.jf.length<=100)(hx:∀l∈m.jf,l.next.length<=1000):R L Cs zrg [.a (zf m),W x] []=some (.w (.c (.jc (zu (zes x 0 m.jf)))),[]):=by
 have h:=zvG m x hn hx m.jf 0 [] rfl (jE _) (jE _);simp only[ji,jP,zf,zay,sl,own,jL,zfq]at h;rw[zUa zrW rfl];simp[zis,zf,h]
theorem zAo(l:List Int)(x:Int)(hl:l.length<=100000):∀(r:List Int) (i:Nat),l.drop i=r->i<=l.length ->
  (x∉r->Y L Cs zaT (some [0,1,5]) 0 [(0,.w (.c (.jc (zu l)))),(1,.w (W x)),(5,.w (W i))] []=some (.exit 0,[(9,.w (Bo false)),(1,.w (W x)),(0,.w (.c (.jc (zu l)))),(5,.w (W l.length))],[])) /\
  (x∈r->Y L Cs zaT (some [0,1,5]) 0 [(0,.w (.c (.jc (zu l)))),(1,.w (W x)),(5,.w (W i))] []=some (.ret,[(4,.w (Bo true))],[])):=by
 intro r;induction r with
 |nil =>
  intro i hd hi;obtain rfl:=zUb hd hi;refine⟨fun _=>zhJ ?_ (by simp),fun h=>by simp at h⟩;simp[zaT]
 |cons y r ih =>
  intro i hd hi;obtain⟨hil,hy,hd'⟩:=zL hd;obtain⟨ih1,ih2⟩:=ih (i+1) hd' hil;have hw:=zB (i:=i) (by omega);by_cases hxy:y=x
  ·refine⟨fun h=>by simp[hxy]at h,fun _=>zhJ ?_ (by simp)⟩;have hb:(y==x)=true:=by simp[hxy]
   simp[zaT,hil,hy,hb]
  ·have hb:(y==x)=false:=by simp[hxy]
   have vh:Y L Cs zaT (some [0,1,5]) 0 [(0,.w (.c (.jc (zu l)))),(1,.w (W x)),(5,.w (W i))] []=Y L Cs zaT (some [0,1,5]) 0 [(0,.w (.c (.jc (zu l)))),(1,.w (W x)),(5,.w (W (i+1:Nat)))] []:=by
    rw[zrL];simp[zaT,hil,hy,hb,hw]
   rw[vh];refine⟨fun h=>ih1 (fun h'=>h (jt _ h')),fun h=>ih2 ?_⟩;rcases jx.1 h with h|h
   ·exact absurd h.symm hxy
   ·exact h
theorem zAX(l:List Int)(x:Int)(hl:l.length<=100000):R L Cs zmb [.c (.jc (zu l)),W x] []=some (.w (Bo (decide (x∈l))),[]):=by
 obtain⟨h1,h2⟩:=zAo l x hl l 0 rfl (jE _);simp only[ji]at h1 h2;rw[zUa zmu rfl];by_cases h:x∈l
 ·simp[zdY,h2 h,h]
 ·simp[zdY,h1 h,h]
theorem zqI(m:zD)(x:Int)(hn:m.jf.length<=100)(hx:∀l∈m.jf,l.next.length<=1000):∀(r:List zfn) (i:Nat) (out:List Int),m.jf.drop i=r->i<=m.jf.length->out.length<=i ->
  Y L Cs zbI (some [5,6,2,1]) 3 [(5,.w (.c (sl 2 1 (zu out)))),(6,.w (W i)),(2,.w (Pt 0)),(1,.w (W x))] [some { box:=true,esz:=5,rows:=[zf m],gen:=0,fz:=false,ver:=0 },some { box:=false,esz:=1,rows:=[],gen:=0,fz:=false,ver:=0 },some (own 1 (zu out))] =
    some (.exit 0,[(11,.w (Bo false)),(5,.w (.c (sl 2 1 (zu (out++zes x i r))))),(6,.w (W m.jf.length)),(2,.w (Pt 0)),(1,.w (W x))],[some { box:=true,esz:=5,rows:=[zf m],gen:=0,fz:=false,ver:=0 },some { box:=false,esz:=1,rows:=[],gen:=0,fz:=false,ver:=0 },some (own 1 (zu (out++zes x i r)))]):=by
 intro r;induction r with
 |nil =>
  intro i out hd hi ho;obtain rfl:=zUb hd hi;refine zhJ ?_ (by simp);simp[zbI,zes,zf]
 |cons l r ih =>
  intro i out hd hi ho;obtain⟨hil,hl,hd'⟩:=zL hd;have hw:=zB (i:=i) (by omega);have hc:=zAX l.next x (by have:=hx l (by rw[<-hl];exact je hil);omega);have kj:(out.length+1)*8<=140737488355328:=by omega
  by_cases hb:x∈l.next
  ·have yn:=ih (i+1) (out++[(i:Int)]) hd' hil (by simp;omega);rw[zes,if_pos hb,show out++(i:Int)::zes x (i+1) r=(out++[(i:Int)])++zes x (i+1) r by simp,<-yn,zrL];simp[hb]at hc;simp[zbI,hil,hl,zo,zf,hc,hw,kj]
  ·have yn:=ih (i+1) out hd' hil (by omega);rw[zes,if_neg hb,<-yn,zrL];simp[hb]at hc;simp[zbI,hil,hl,zo,zf,hc,hw]
theorem zpG(m:zD)(x:Int)(hn:m.jf.length<=100)(hx:∀l∈m.jf,l.next.length<=1000):R L Cs zjP [.a (zf m),W x] []=some (.w (.c (.jc (zu (zes x 0 m.jf)))),[]):=by
 have h:=zqI m x hn hx m.jf 0 [] rfl (jE _) (jE _);simp only[ji,jP,zf,zay,sl,own,jL,zfq]at h;rw[zUa zkb rfl];simp[zeo,zf,h]
def goF(m:zD):Int->List Int->Bool
 |_,[]=>true
 |a,x::xs=>decide (x∈((m.jf[a.toNat]?).map zfn.next).getD [])&&goF m x xs
structure zvM(m:zD):Prop where
 jf:m.jf.length<=14
 next:∀l∈m.jf,l.next.length<=10
 valid:∀l∈m.jf,∀x∈l.next,0<=x/\x<m.jf.length
theorem zwq(m:zD)(h:zvM m)(l:List Int)(hl:l.length<=1000):∀(r:List Int) (i:Nat) (a:Int),l.drop i=r->i<=l.length->0<=a->a<m.jf.length ->
  (goF m a r=true->∃b,Y L Cs za8 (some [6,51,50,2,52]) 1 [(6,.w (W a)),(51,.w (W l.length)),(50,.w (.c (.jc (zu l)))),(2,.w (Pt 0)),(52,.w (W i))] [some { box:=true,esz:=5,rows:=[zf m],gen:=0,fz:=false,ver:=0 }]=some (.exit 0,[(53,.w (Bo false)),(6,.w (W b)),(2,.w (Pt 0)),(50,.w (.c (.jc (zu l)))),(51,.w (W l.length)),(52,.w (W l.length))],[some { box:=true,esz:=5,rows:=[zf m],gen:=0,fz:=false,ver:=0 }])) /\
  (goF m a r=false->Y L Cs za8 (some [6,51,50,2,52]) 1 [(6,.w (W a)),(51,.w (W l.length)),(50,.w (.c (.jc (zu l)))),(2,.w (Pt 0)),(52,.w (W i))] [some { box:=true,esz:=5,rows:=[zf m],gen:=0,fz:=false,ver:=0 }]=some (.ret,[(4,.w (W 13))],[some { box:=true,esz:=5,rows:=[zf m],gen:=0,fz:=false,ver:=0 }])):=by
 intro r;induction r with
 |nil =>
  intro i a hd hi h1 h2;obtain rfl:=zUb hd hi;refine⟨fun _=>⟨a,zhJ ?_ (by simp)⟩,fun h=>by simp[goF]at h⟩;simp[za8]
 |cons x r ih =>
  intro i a hd hi h1 h2;obtain⟨hil,hx,hd'⟩:=zL hd;have hw:=zB (i:=i) (by omega);have hal:a.toNat<m.jf.length:=by omega
  have qr:((m.jf[a.toNat]?).map zfn.next).getD []=(m.jf[a.toNat]).next:=by rw[jk hal];rfl
  have vI:m.jf[a.toNat]∈m.jf:=je hal;have hc:=znC (m.jf[a.toNat]).next x (by have:=h.next _ vI;omega);by_cases hb:x∈(m.jf[a.toNat]).next
  ·obtain⟨v1,v2⟩:=h.valid _ vI x hb;obtain⟨ih1,ih2⟩:=ih (i+1) x hd' hil v1 v2;have vh:Y L Cs za8 (some [6,51,50,2,52]) 1 [(6,.w (W a)),(51,.w (W l.length)),(50,.w (.c (.jc (zu l)))),(2,.w (Pt 0)),(52,.w (W i))] [some { box:=true,esz:=5,rows:=[zf m],gen:=0,fz:=false,ver:=0 }]=Y L Cs za8 (some [6,51,50,2,52]) 1 [(6,.w (W x)),(51,.w (W l.length)),(50,.w (.c (.jc (zu l)))),(2,.w (Pt 0)),(52,.w (W (i+1:Nat)))] [some { box:=true,esz:=5,rows:=[zf m],gen:=0,fz:=false,ver:=0 }]:=by
    rw[zrL];simp[hb]at hc;simp[za8,hil,hx,zf,zo,hc,hw,h1,h2,hal]
   rw[vh];simp only[goF,qr,hb,decide_true,uk];exact⟨ih1,ih2⟩
  ·refine⟨fun hg=>by simp[goF,qr,hb]at hg,fun _=>zhJ ?_ (by simp)⟩;simp[hb]at hc;simp[za8,hil,hx,zf,zo,hc,hw,h1,h2,hal]
def zdA(m:zD):List Int->Int
 |[]=>13
 |x::t=>if 8<t.length+1 then 13 else if x<0 then 13 else if(m.jf.length:Int)<=x then 13 else if zes x 0 m.jf≠[] then 13 else if goF m x t then 0 else 13
theorem zos(m:zD)(h:zvM m)(hck:R L Cs zjl [.a (zf m)] []=some (.w (W 0),[]))(l:List Int)(hl:l.length<=1000):R L Cs znv [.a (zf m),.c (.jc (zu l))] []=some (.w (W (zdA m l)),[]):=by
 have yU:=zwq m h;simp only[zf]at hck yU;rw[zUa znF rfl];cases l with
 |nil=>simp[zbl,zf,hck,zdA]
 |cons x t =>
 have hne:((t.length:Int)+1==0)=false:=by simp;omega
 have vW:=zvT m x (by have:=h.jf;omega) (fun l hl=>by have:=h.next l hl;omega);simp only[zf]at vW;simp only[zdA];by_cases h8:8<t.length+1
 ·have h8':(8:Int)<(t.length:Int)+1:=by omega
  simp[zbl,zf,hck,hne,h8,h8']
 have h8':¬(8:Int)<(t.length:Int)+1:=by omega
 rw[if_neg h8];by_cases h0:x<0
 ·simp[zbl,zf,hck,hne,h8',h0]
 by_cases hn:(m.jf.length:Int)<=x
 ·simp[zbl,zf,hck,hne,h8',h0,hn]
 by_cases hb:zes x 0 m.jf=[]
 ·rw[hb]at vW;simp only[zay]at vW;obtain⟨l1,l2⟩:=yU t (by simp at hl;omega) t 0 x rfl (jE _) (by omega) (by omega);simp only[ji]at l1 l2;have q1:(1:Int)<=(t.length:Int)+1:=by omega
  have q2:(0:Int)<=(t.length:Int)+1:=by omega
  have q3:1+t.length<=t.length+1:=by omega
  cases hg:goF m x t with
  |true =>
   obtain⟨b,l1⟩:=l1 hg;simp[zbl,zf,hck,hne,h8',h0,hn,hb,vW,l1,q1,q2,q3]
  |false =>
   have l2:=l2 hg;simp[zbl,zf,hck,hne,h8',h0,hn,hb,vW,l2,q1,q2,q3]
 ·have kA:0<(zes x 0 m.jf).length:=jD.2 hb;have yE:(0:Int)<((zes x 0 m.jf).length:Int):=by omega
  simp[zbl,zf,hck,hne,h8',h0,hn,hb,vW,kA,yE]
theorem zr4(m:zD)(h:zvM m)(l:List Int)(hl:l.length<=1000):∀(r:List Int) (i:Nat) (a:Int),l.drop i=a::r->0<=a->a<m.jf.length ->
  (goF m a r=true->Y L Cs zag (some [2,1,6]) 1 [(2,.w (Pt 0)),(1,.w (.c (.jc (zu l)))),(6,.w (W (i+1:Nat)))] [some { box:=true,esz:=5,rows:=[zf m],gen:=0,fz:=false,ver:=0 }]=some (.exit 0,[(47,.w (Bo false)),(1,.w (.c (.jc (zu l)))),(2,.w (Pt 0)),(6,.w (W l.length))],[some { box:=true,esz:=5,rows:=[zf m],gen:=0,fz:=false,ver:=0 }])) /\
  (goF m a r=false->Y L Cs zag (some [2,1,6]) 1 [(2,.w (Pt 0)),(1,.w (.c (.jc (zu l)))),(6,.w (W (i+1:Nat)))] [some { box:=true,esz:=5,rows:=[zf m],gen:=0,fz:=false,ver:=0 }]=some (.ret,[(4,.w (W 13))],[some { box:=true,esz:=5,rows:=[zf m],gen:=0,fz:=false,ver:=0 }])):=by
 intro r;induction r with
 |nil =>
  intro i a hd h1 h2;obtain⟨hil,hx,hd'⟩:=zL hd;have hlen:=zUb hd' hil;rw[hlen];refine⟨fun _=>zhJ ?_ (by simp),fun h=>by simp[goF]at h⟩;simp[zag]
 |cons x r ih =>
  intro i a hd h1 h2;obtain⟨hil,ha,hd'⟩:=zL hd;obtain⟨hil2,hx,_⟩:=zL hd';have hal:a.toNat<m.jf.length:=by omega
  have qr:((m.jf[a.toNat]?).map zfn.next).getD []=(m.jf[a.toNat]).next:=by rw[jk hal];rfl
  have vI:m.jf[a.toNat]∈m.jf:=je hal;have hc:=zAX (m.jf[a.toNat]).next x (by have:=h.next _ vI;omega);have hlt:((i:Int)+1<l.length):=by omega
  have hwi2:IntKind.i64.wrap (i:Int)=(i:Int):=zTd _ (by omega) (by omega);have h0:(0:Int)<=(i:Int)+1:=by omega
  have ht:((i:Int)+1).toNat=i+1:=by omega
  have hw2:=qc ((i:Int)+1+1);by_cases hb:x∈(m.jf[a.toNat]).next
  ·obtain⟨v1,v2⟩:=h.valid _ vI x hb;obtain⟨ih1,ih2⟩:=ih (i+1) x hd' v1 v2;have vh:Y L Cs zag (some [2,1,6]) 1 [(2,.w (Pt 0)),(1,.w (.c (.jc (zu l)))),(6,.w (W (i+1:Nat)))] [some { box:=true,esz:=5,rows:=[zf m],gen:=0,fz:=false,ver:=0 }]=Y L Cs zag (some [2,1,6]) 1 [(2,.w (Pt 0)),(1,.w (.c (.jc (zu l)))),(6,.w (W (i+1+1:Nat)))] [some { box:=true,esz:=5,rows:=[zf m],gen:=0,fz:=false,ver:=0 }]:=by
    rw[zrL];simp[hb]at hc;simp[zag,hil,hil2,ha,hx,zf,zo,hc,hwi2,hw2,hlt,h0,ht,h1,h2,hal]
   rw[vh];simp only[goF,qr,hb,decide_true,uk];exact⟨ih1,ih2⟩
  ·refine⟨fun hg=>by simp[goF,qr,hb]at hg,fun _=>zhJ ?_ (by simp)⟩;simp[hb]at hc;simp[zag,hil,hil2,ha,hx,zf,zo,hc,hwi2,hw2,hlt,h0,ht,h1,h2,hal]
theorem zp0(m:zD)(h:zvM m)(hck:R L Cs zeE [.a (zf m)] []=some (.w (W 0),[]))(l:List Int)(hl:l.length<=1000):R L Cs zh0 [.a (zf m),.c (.jc (zu l))] []=some (.w (W (zdA m l)),[]):=by
 have yU:=zr4 m h;simp only[zf]at hck yU;rw[zUa zia rfl];cases l with
 |nil=>simp[zai,zf,hck,zdA]
 |cons x t =>
 have hne:((t.length:Int)+1==0)=false:=by simp;omega
 have vW:=zpG m x (by have:=h.jf;omega) (fun l hl=>by have:=h.next l hl;omega);simp only[zf]at vW;simp only[zdA];by_cases h8:8<t.length+1
 ·have h8':(8:Int)<(t.length:Int)+1:=by omega
  simp[zai,zf,hck,hne,h8,h8']
 have h8':¬(8:Int)<(t.length:Int)+1:=by omega
 rw[if_neg h8];by_cases h0:x<0
 ·simp[zai,zf,hck,hne,h8',h0]
 by_cases hn:(m.jf.length:Int)<=x
 ·simp[zai,zf,hck,hne,h8',h0,hn]
 by_cases hb:zes x 0 m.jf=[]
 ·rw[hb]at vW;simp only[zay]at vW;obtain⟨l1,l2⟩:=yU (x::t) hl t 0 x rfl (by omega) (by omega);simp at l1 l2;have q1:(1:Int)<=(t.length:Int)+1:=by omega
  have q2:(0:Int)<=(t.length:Int)+1:=by omega
  have q3:1+t.length<=t.length+1:=by omega
  cases hg:goF m x t with
  |true =>
   have l1:=l1 hg;simp[zai,zf,hck,hne,h8',h0,hn,hb,vW,l1,q1,q2,q3]
  |false =>
   have l2:=l2 hg;simp[zai,zf,hck,hne,h8',h0,hn,hb,vW,l2,q1,q2,q3]
 ·have kA:0<(zes x 0 m.jf).length:=jD.2 hb;have yE:(0:Int)<((zes x 0 m.jf).length:Int):=by omega
  simp[zai,zf,hck,hne,h8',h0,hn,hb,vW,kA,yE]
def zeT(l:zfn):Cl:=.jc (l.pts.map fun p=>[I p.1,I p.2])
structure zcp(m:zD):Prop where
 small:zvM m
 chk:R L Cs zjl [.a (zf m)] []=some (.w (W 0),[])
 yc:R L Cs zeE [.a (zf m)] []=some (.w (W 0),[])
 len:∀l∈m.jf,R L Cs zaw [.a [zeT l]] []=some (.w (W l.len),[])
 rlen:∀l∈m.jf,R L Cs zN [.a [zeT l]] []=some (.w (W l.len),[])
 len1:∀l∈m.jf,1000<=l.len/\l.len<=1000000
 kind:∀l∈m.jf,l.kind=1\/l.kind=2\/l.kind=3
 vg:∀l∈m.jf,1<=l.vg/\l.vg<=2000
def z8(m:zD)(i:Int):Int:=if 0<=i then((m.jf[i.toNat]?).map zfn.len).getD 0 else 0
theorem zAV{m:zD}(h:zcp m){i:Nat}(hi:i<m.jf.length):R L Cs zkE [.a (zf m),W i] []=some (.w (W m.jf[i].len),[]):=by
 have hc:=h.len _ (je hi);simp only[zeT]at hc;rw[zUa zou rfl];simp[zh5,zf,hi,zo,hc]
theorem ztk{m:zD}(h:zcp m){i:Nat}(hi:i<m.jf.length):R L Cs zgl [.a (zf m),W i] []=some (.w (W m.jf[i].len),[]):=by
 have hc:=h.rlen _ (je hi);simp only[zeT]at hc;rw[zUa zka rfl];simp[zen,zf,hi,zo,hc]
theorem zA3{m:zD}(h:zcp m){i:Nat}(hi:i<m.jf.length):R L Cs zgX [.a (zf m),W i] []=some (.w (W m.jf[i].len),[]):=by
 have hc:=ztk h hi;simp only[zf]at hc;rw[zUa zlG rfl];simp[ze1,zf,hc]
theorem zrQ{m:zD}(h:zcp m){i:Nat}(hi:i<m.jf.length):R L Cs zri [.a (zf m),W i] []=some (.w (W m.jf[i].len),[]):=by
 have hl:=zAV h hi;have hk:=h.chk;simp only[zf]at hl hk;have his:R L Cs zwZ [.a (zf m),W i] []=some (.w (Bo true),[]):=by
  rw[zUa zxi rfl];simp[znA,zf,hi,hk]
 simp only[zf]at his;rw[zUa zrY rfl];simp[ziu,zf,his,hl]
theorem zEQ{m:zD}(h:zcp m){i:Nat}(hi:i<m.jf.length):R L Cs zDZ [.a (zf m),W i] []=some (.w (W m.jf[i].len),[]):=by
 have hl:=ztk h hi;have hk:=h.yc;simp only[zf]at hl hk;have his:R L Cs zD9 [.a (zf m),W i] []=some (.w (Bo true),[]):=by
  rw[zUa zEa rfl];simp[zDW,zf,hi,hk]
 simp only[zf]at his;rw[zUa zD7 rfl];simp[zDR,zf,his,hl]
def zeR(k:Int):Int:=if k=1 then 2000 else if k=2 then 1000 else 300
def zif(k:Int):Int:=if k=1 then 30 else if k=2 then 20 else 100
def zd4(k:Int):Int:=if k=1 then 90 else if k=2 then 60 else 300
theorem znI:zaH L Cs 400 zgz [W 1] []=some (.t [W 2000,W 30,W 90],[])/\zaH L Cs 400 zgz [W 2] []=some (.t [W 1000,W 20,W 60],[])/\zaH L Cs 400 zgz [W 3] []=some (.t [W 300,W 100,W 300],[]):=⟨by kernel_rfl,by kernel_rfl,by kernel_rfl⟩
theorem zjg:zaH L Cs 400 zc1 [W 1] []=some (.t [W 2000,W 30,W 90],[])/\zaH L Cs 400 zc1 [W 2] []=some (.t [W 1000,W 20,W 60],[])/\zaH L Cs 400 zc1 [W 3] []=some (.t [W 300,W 100,W 300],[]):=⟨by kernel_rfl,by kernel_rfl,by kernel_rfl⟩
theorem zmo{k:Int}(h:k=1\/k=2\/k=3):R L Cs zgz [W k] []=some (.t [W (zeR k),W (zif k),W (zd4 k)],[]):=by
 rcases h with rfl|rfl|rfl
 ·exact zah.2 ⟨400,znI.1⟩
 ·exact zah.2 ⟨400,znI.2.1⟩
 ·exact zah.2 ⟨400,znI.2.2⟩
theorem zhv{k:Int}(h:k=1\/k=2\/k=3):R L Cs zc1 [W k] []=some (.t [W (zeR k),W (zif k),W (zd4 k)],[]):=by
 rcases h with rfl|rfl|rfl
 ·exact zah.2 ⟨400,zjg.1⟩
 ·exact zah.2 ⟨400,zjg.2.1⟩
 ·exact zah.2 ⟨400,zjg.2.2⟩
theorem zid{M:Mem}{r r':AV}(h:zoS M r=some r')(hb:r'.below 0=true):leave true 0 r M=some (r',[]):=by
 unfold leave;simp only[if_true,h];unfold finish;split
 ·rename_i h0;have:zbg M r.sls=[]:=List.length_eq_zero_iff.1 h0;rw[this]
 ·rw[if_pos (by rw[hb];simp[zH])];rfl
theorem zvj(M:Mem)(k:IntKind)(n:Int):zdR M (.int k n)=some (.int k n):=rfl
abbrev zch(e:Ego):List Cl:=[I e.slo,I e.shi,I e.vlo,I e.vhi]
def zQ(kind lim:Int)(next:List Int)(a b c d len:Int):zfn:={ kind:=kind,pts:=[(a,b),(c,d)],half:=if kind=3 then 500 else 1500,vg:=lim,next:=next,len:=len }
def zaY(o a b:Int):List Cl:=[I o,.jc [[I 12,.jc [[I a]]],[I 5,.jc []],[I 9,.jc [[I b]]],[I 4,.jc []]]]
theorem zaZ(kind lim:Int)(next:List Int)(a b c d len:Int):R L Cs zmT [W kind,W lim,.c (.jc (zu next)),.c (.jc (zu [a,b,c,d]))] []=some (.w (.a (zo (zQ kind lim next a b c d len))),[]):=by
 rw[zUa zm4 rfl];have hw1:IntKind.i64.wrap 1=1:=rfl;have hw2:IntKind.i64.wrap 2=2:=rfl;have hw3:IntKind.i64.wrap 3=3:=rfl;have hw4:IntKind.i64.wrap 4=4:=rfl;have hw5:IntKind.i64.wrap 5=5:=rfl;have hy:∃M' S v,Y L Cs zco (some [10,8,0,3,9]) 2 [(10,.w (W 0)),(8,.w (Pt 0)),(0,.w (W kind)),(3,.w (.c (.jc (zu [a,b,c,d])))),(9,.w (Pt 1))] [bx 5 [I 0,.jd,I 0,I 0,.jd],bxv 1 5 [I kind,.jd,I 1500,I lim,.jc (zu next)]] =
   some (.exit 0,[(19,.w (Bo false)),(10,.w (W 4)),(8,.w (Pt 0)),(0,.w (W kind)),(3,.w (.c (.jc (zu [a,b,c,d])))),(9,.w (Pt 1))],bx 5 [I 0,.jd,I 0,I 0,.jd]::bxv v 5 [I kind,S,I 1500,I lim,.jc (zu next)]::M') /\
   (∀x y:Option Blk,zdR (x::y::M') S=some (.jc [[I a,I b],[I c,I d]])):=by
  refine⟨[some (own 2 [[I a,I b]]),some (own 2 [[I a,I b],[I c,I d]]),some (own 2 [[I c,I d]])],.slice 3 2 2 0 2 none,3,?_,?_⟩
  ·rw[zj zco.eq_1];simp[hw1,hw2,hw3,hw4,hw5,zg,zH];rw[zj zco.eq_1];simp[hw1,hw2,hw3,hw4,hw5,zg,zH];rw[zj zco.eq_1];simp[hw1,hw2,hw3,hw4,hw5,zg,zH]
  ·intro x y;simp[zdR,look]
 obtain⟨M',S,v,h1,h2⟩:=hy;simp only[zaP,zay]at h1;have hf:∀(M:Mem) (x y:Option Blk) (k2 h2 l2:Int),M=x::y::M'->zoS M (.w (.a [I k2,S,I h2,I l2,.jc (zu next)]))=some (.w (.a [I k2,.jc [[I a,I b],[I c,I d]],I h2,I l2,.jc (zu next)])):=by
  intro M x y k2 h2' l2 hM;subst hM;simp only[zoS,zn7,uZ,h2 x y];rfl
 by_cases hk:kind=3
 ·subst hk;simp[zee,h1,-leave];exact zid (hf _ _ _ _ _ _ rfl) rfl
 ·have hb:(kind==3)=false:=by simp[hk]
  simp[zee,h1,hk,hb,-leave];have e:zo (zQ kind lim next a b c d len)=[I kind,.jc [[I a,I b],[I c,I d]],I 1500,I lim,.jc (zu next)]:=by simp[zo,zQ,hk]
  rw[e];exact zid (hf _ _ _ _ _ _ rfl) rfl
theorem zj1(o a b:Int):R L Cs zlr [W o,W a,W b] []=some (.w (.a (zaY o a b)),[]):=by
 rw[zUa zlH rfl];simp[ze2,zaY,zg,zX]
theorem zhR(n:Int):R L Cs zny [W n,W 16777216] []=some (.w (W (n % 16777216)),[]):=by
 rw[zUa znH rfl];have h1:0<=n->n.tmod 16777216=n % 16777216:=j6;have h2:n<0->n.tmod 16777216=-((-n) % 16777216):=fun hn=>by
  have e1:(-n).tmod 16777216=(-n) % 16777216:=j6 (by omega);have e2:=Int.neg_tmod (-n) 16777216;rw[Int.neg_neg,e1]at e2;exact e2
 by_cases h:n.tmod 16777216<0
 ·have e:IntKind.i64.wrap (n.tmod 16777216+16777216)=n % 16777216:=by
   rw[zTd _ (by omega) (by omega)];omega
  simp[zeK,h,e]
 ·have e:n.tmod 16777216=n % 16777216:=by omega
  have h3:¬n % 16777216<0:=by omega
  simp[zeK,h3,e]
theorem zn{N d:Int}(hN:0<=N/\N<16777216)(hd:0<d):IntKind.i64.wrap (N.tdiv d)=N.tdiv d:=by
 rw[kO hN.1];have h1:0<=N / d:=Int.ediv_nonneg hN.1 (by omega);have h2:N / d<=N:=Int.ediv_le_self _ hN.1;exact zTd _ (by omega) (by omega)
theorem zE(N d e:Int)(hN:0<=N/\N<16777216)(hd:0<d)(he:0<e):0<=(N.tdiv d).tmod e/\(N.tdiv d).tmod e<e:=by
 rw[kO hN.1];have h1:0<=N / d:=Int.ediv_nonneg hN.1 (by omega);rw[j6 h1];exact⟨qJ _ (by omega),qg _ he⟩
def zdK(l a b r:Int):List Cl:=[I l,I a,I b,I r]
def zfa(ps:List (List Cl))(s:Int):List Cl:=[.jc ps,I s]
def zy(k:Nat)(lim:Int):List zfn:=match k with
 |0=>[zQ 1 lim [] 0 0 60000 0 60000]
 |1 |2=>[zQ 1 lim [] 0 0 50000 0 50000,zQ 1 1500 [] 30000 (-20000) 30000 20000 40000]
 |3=>[zQ 1 lim [1,2] 0 0 30000 0 30000,zQ 1 1500 [] 30000 0 60000 0 30000,zQ 1 800 [] 30000 0 54000 10000 26000]
 |4=>[zQ 1 lim [2] 0 0 30000 0 30000,zQ 1 1500 [2] 6000 (-10000) 30000 0 26000,zQ 1 1500 [] 30000 0 60000 0 30000]
 |5=>[zQ 1 lim [1] 0 0 20000 0 20000,zQ 1 lim [] 20000 0 50000 0 30000,zQ 3 200 [] 35000 (-8000) 35000 8000 16000]
 |_=>[zQ 1 lim [1,2] 0 0 20000 0 20000,zQ 1 1500 [] 20000 0 50000 0 30000,zQ 1 1000 [] 20000 0 44000 10000 26000,zQ 2 700 [] 36000 (-12000) 36000 18000 30000]
def zO(k:Nat)(r:Int):List (List Cl):=match k with
 |0=>[]
 |1=>[zfa [zdK 0 28000 32000 r,zdK 1 18000 22000 (2-2*r)] 0]
 |2=>[zfa [zdK 0 28000 32000 r,zdK 1 18000 22000 (2-2*r)] 1]
 |3=>[]
 |4=>[zfa [zdK 0 25000 30000 1,zdK 1 20000 26000 0,zdK 2 0 5000 0] 0]
 |5=>[zfa [zdK 1 14000 16000 0,zdK 2 6000 10000 3] 0]
 |_=>[zfa [zdK 1 14000 18000 1,zdK 3 10000 14000 0] (if r=1 then 1 else 0),zfa [zdK 2 14000 21000 1,zdK 3 14500 23000 0] (if r=1 then 2 else 0)]
def zt(k:Nat)(r o1 o2 o3:Int):List (List Cl):=match k with
 |2=>[zaY o1 0 1]
 |6=>if r=1 then [zaY o2 1 3,zaY o3 2 3] else []
 |_=>[]
def zak(w b t:Int):List zCP:=if w=1 then [⟨0,10000,15000,b,b+20,t*200⟩] else []
def zq(k:Nat)(lim r o1 o2 o3 v:Int)(ws:List zCP):zD:={ version:=v,jf:=zy k lim,ke:=zO k r,signals:=zt k r o1 o2 o3,qj:=ws }
def zeC(j:Nat):Int:=match j with |0=>1500 |1=>600 |2=>1000 |_=>300
theorem zea(j:Nat)(hj:j<4):([[I 1500],[I 600],[I 1000],[I 300]]:List (List Cl))[j]?=some [I (zeC j)]:=by
 match j,hj with
 |0,_=>rfl
 |1,_=>rfl
 |2,_=>rfl
 |3,_=>rfl
theorem zdd(j:Nat)(h:j<([[I 1500],[I 600],[I 1000],[I 300]]:List (List Cl)).length):([[I 1500],[I 600],[I 1000],[I 300]]:List (List Cl))[j]=[I (zeC j)]:=by
 match j,h with
 |0,_=>rfl
 |1,_=>rfl
 |2,_=>rfl
 |3,_=>rfl
theorem zTw(k:Nat)(n:Int)(h7:(n % 16777216).tmod 7=k)(hk:k<7) :
  R L Cs zY [W n] []=some (.w (.a (zf (zq k (zeC (((n % 16777216).tdiv 7).tmod 4).toNat) (((n % 16777216).tdiv 28).tmod 2) (((n % 16777216).tdiv 28).tmod 31) (((n % 16777216).tdiv 56).tmod 31) (((n % 16777216).tdiv 56).tmod 17) (((n % 16777216).tdiv 28).tmod 5) (zak (((n % 16777216).tdiv 1736).tmod 3) (((n % 16777216).tdiv 5208).tmod 40) (((n % 16777216).tdiv 208320).tmod 3))))),[]):=by
 have hM:=zhR n;have hN:0<=n % 16777216/\n % 16777216<16777216:=by omega
 generalize n % 16777216=N at *;have wd:=fun(d:Int) (h:0<d)=>zn (N:=N) (d:=d) hN h
 have w7:=wd 7 (by decide);have w28:=wd 28 (by decide);have w56:=wd 56 (by decide);have w1736:=wd 1736 (by decide);have w5208:=wd 5208 (by decide);have AW:=wd 208320 (by decide);have hj:=zE N 7 4 hN (by decide) (by decide);obtain⟨j,hje⟩:=js hj.1;have hj4:j<4:=by omega
 have hj4':(j:Int)<4:=by omega
 have r2:=zE N 28 2 hN (by decide) (by decide);have b40:=zE N 5208 40 hN (by decide) (by decide);have t3:=zE N 208320 3 hN (by decide) (by decide);have hlg:=zea j hj4;have q0:=fun k lim a b c d=>zaZ k lim [] a b c d 0
 have q1:=fun k lim a b c d=>zaZ k lim [1] a b c d 0
 have q2:=fun k lim a b c d=>zaZ k lim [2] a b c d 0
 have q3:=fun k lim a b c d=>zaZ k lim [1,2] a b c d 0
 have s1:=fun o a b=>zj1 o a b
 simp only[zaP,zay,zo,zQ,jT,qd,zaY]at q0 q1 q2 q3 s1;have wr1:=qc (2*(N.tdiv 28).tmod 2);have wr2:=qc (2-2*(N.tdiv 28).tmod 2);have wb:=qc ((N.tdiv 5208).tmod 40+20);have wt:=qc ((N.tdiv 208320).tmod 3*200);have hw:(((N.tdiv 1736).tmod 3==1)=true/\(N.tdiv 1736).tmod 3=1)\/(((N.tdiv 1736).tmod 3==1)=false/\¬(N.tdiv 1736).tmod 3=1):=by by_cases e:(N.tdiv 1736).tmod 3=1<;>simp[e]
 have hc:(k=0/\k<7)\/(k=1/\k<7)\/(k=2/\k<7)\/(k=3/\k<7)\/(k=4/\k<7)\/(k=5/\k<7)\/(k=6/\(N.tdiv 28).tmod 2=0)\/(k=6/\(N.tdiv 28).tmod 2=1):=by omega
 rw[zUa zUq rfl];rcases hc with⟨rfl,hr⟩ |⟨rfl,hr⟩ |⟨rfl,hr⟩ |⟨rfl,hr⟩ |⟨rfl,hr⟩ |⟨rfl,hr⟩ |⟨rfl,hr⟩ |⟨rfl,hr⟩<;>rcases hw with⟨hwb,hw⟩ |⟨hwb,hw⟩ <;>
  simp (config:={ maxSteps:=1000000 }) [zZ,hM,h7,hje,hlg,zdd,hj4,hj4',w7,w28,w56,w1736,w5208,AW,wr1,wr2,wb,wt,hr,hwb,hw,q0,q1,q2,q3,s1,zg,zX,zH,zcl,zf,zq,zy,zO,zt,zak,zo,zQ,zaL,zfa,zdK,zaY]
theorem ziD(n lo hi:Int):R L Cs zre [W n,W lo,W hi] []=some (.w (Bo (decide (lo<=n)&&decide (n<=hi))),[]):=by
 rw[zUa zrU rfl];by_cases h:lo<=n
 ·simp[zgL,h]
 ·simp[zgL,h]
theorem zmm(n lo hi:Int):R L Cs zjO [W n,W lo,W hi] []=some (.w (Bo (decide (lo<=n)&&decide (n<=hi))),[]):=by
 rw[zUa zj9 rfl];by_cases h:lo<=n
 ·simp[zc9,h]
 ·simp[zc9,h]
structure zon(m:zD):Prop where
 v1:0<=m.version
 v2:m.version<=1099511627776
 l1:0<m.jf.length
 l2:m.jf.length<=12
 z:m.ke.length<=12
 s:m.signals.length<=4
 w:m.qj.length<=8
theorem zhb{m:zD}(h:zon m):R L Cs zdG [.a (zf m)] []=some (.w (W 0),[]):=by
 have hW:=ziD m.version 0 1099511627776;have a1:=h.v1;have a2:=h.v2;have l0:((m.jf.length:Int)==0)=false:=by have:=h.l1;exact beq_false_of_ne (by omega)
 have l1:¬(12:Int)<(m.jf.length:Int):=by have:=h.l2;omega
 have l2:¬(12:Int)<(m.ke.length:Int):=by have:=h.z;omega
 have l3:¬(4:Int)<(m.signals.length:Int):=by have:=h.s;omega
 have l4:¬(8:Int)<(m.qj.length:Int):=by have:=h.w;omega
 have l5:¬12<m.jf.length:=by have:=h.l2;omega
 have l6:¬12<m.ke.length:=by have:=h.z;omega
 have l7:¬4<m.signals.length:=by have:=h.s;omega
 have l8:¬8<m.qj.length:=by have:=h.w;omega
 have l9:¬m.jf=[]:=by have:=h.l1;intro e;rw[e]at this;simp at this
 rw[zUa zlw rfl];simp[zeY,zf,hW,a1,a2,l0,l1,l2,l3,l4,l5,l6,l7,l8,l9]
theorem zgb{m:zD}(h1:R L Cs zdG [.a (zf m)] []=some (.w (W 0),[]))(h2:R L Cs zaU [.a (zf m)] []=some (.w (W 0),[]))
  (h3:R L Cs zaM [.a (zf m)] []=some (.w (W 0),[])) (h4:R L Cs zao [.a (zf m)] []=some (.w (W 0),[]))
  (h5:R L Cs zR [.a (zf m)] []=some (.w (W 0),[])) (h6:R L Cs zec [.a (zf m)] []=some (.w (W 0),[])):R L Cs zjl [.a (zf m)] []=some (.w (W 0),[]):=by
 simp only[zf]at h1 h2 h3 h4 h5 h6;have e1:IntKind.i64.wrap 1=1:=rfl;have e2:IntKind.i64.wrap 2=2:=rfl;have e3:IntKind.i64.wrap 3=3:=rfl;have e4:IntKind.i64.wrap 4=4:=rfl;have e5:IntKind.i64.wrap 5=5:=rfl;have e6:IntKind.i64.wrap 6=6:=rfl;have hl:Y L Cs zbP (some [7,6,1,8]) 2 [(7,.w (W 6)),(6,.w (.c (.slice 1 6 1 0 6 none))),(1,.w (Pt 0)),(8,.w (W 0))] [bx 5 (zf m),some { box:=true,esz:=1,rows:=[[.fn zdG [] []],[.fn zaU [] []],[.fn zaM [] []],[.fn zao [] []],[.fn zR [] []],[.fn zec [] []]],gen:=6,fz:=false,ver:=6 }] =
   some (.exit 0,[(9,.w (Bo false)),(1,.w (Pt 0)),(6,.w (.c (.slice 1 6 1 0 6 none))),(7,.w (W 6)),(8,.w (W 6))],[bx 5 (zf m),some { box:=true,esz:=1,rows:=[[.fn zdG [] []],[.fn zaU [] []],[.fn zaM [] []],[.fn zao [] []],[.fn zR [] []],[.fn zec [] []]],gen:=6,fz:=false,ver:=6 }]):=by
  rw[zj zbP.eq_1];simp[zf,h1,e1];rw[zj zbP.eq_1];simp[h2,e2];rw[zj zbP.eq_1];simp[h3,e3];rw[zj zbP.eq_1];simp[h4,e4];rw[zj zbP.eq_1];simp[h5,e5];rw[zj zbP.eq_1];simp[h6,e6];rw[zj zbP.eq_1];simp
 simp only[zf]at hl;rw[zUa zsu rfl];simp[zjp,zf,hl,zg,zcl,zi2,zr,okW]
theorem zd1{m:zD}(h:zon m)(h2:∀i:Nat,i<m.jf.length->R L Cs zav [.a (zf m),W i] []=some (.w (W 0),[]))(h3:R L Cs zau [.a (zf m)] []=some (.w (W 0),[]))
  (hsp:∀s∈m.signals,∃o ps,s=[I o,.jc ps]) (hzp:∀s∈m.ke,∃ps o,s=[.jc ps,I o])
  (h4:∀s∈m.signals,R L Cs zV [.a (zf m),.a s] []=some (.w (W 0),[]))
  (h5:∀z∈m.ke,R L Cs zJ [.a (zf m),.a z] []=some (.w (W 0),[]))
  (e:Int) (h6:(∀w∈m.qj,R L Cs zfh [.a (zf m),.a (zaL w)] []=some (.w (W 0),[]))/\e=0\/∃w,m.qj=[w]/\R L Cs zfh [.a (zf m),.a (zaL w)] []=some (.w (W e),[])):R L Cs zeE [.a (zf m)] []=some (.w (W e),[]):=by
 have hW:=zmm m.version 0 1099511627776;have a1:=h.v1;have a2:=h.v2;have b1:=h.l1;have b2:=h.l2;have b3:=h.z;have b4:=h.s;have b5:=h.w;have l0:((m.jf.length:Int)==0)=false:=beq_false_of_ne (by omega);have l1:¬(12:Int)<(m.jf.length:Int):=by omega
 have l2:¬(12:Int)<(m.ke.length:Int):=by omega
 have l3:¬(4:Int)<(m.signals.length:Int):=by omega
 have l4:¬(8:Int)<(m.qj.length:Int):=by omega
 have l9:¬m.jf=[]:=by intro e;rw[e]at b1;simp at b1
 have k1:Y L Cs zbZ (some [1,3]) 1 [(1,.w (Pt 0)),(3,.w (W (0:Nat)))] [bx 5 (zf m)]=some (.exit 0,[(43,.w (Bo false)),(1,.w (Pt 0)),(3,.w (W m.jf.length))],[bx 5 (zf m)]):=by
  have q:=zpE (L:=L) (Cs:=Cs) (b:=zbZ) (live:=some [1,3]) (n0:=1) m.jf (fun i=>[(1,.w (Pt 0)),(3,.w (W i))]) [bx 5 (zf m)] (fun _=>false) (.ret,[],[]) (.exit 0,[(43,.w (Bo false)),(1,.w (Pt 0)),(3,.w (W m.jf.length))],[bx 5 (zf m)]) ?_ ?_ ?_
  ·simpa using q
  ·intro i hi _;have hw:=zB (i:=i) (by omega);have hc:=h2 i hi;simp only[zf]at hc;rw[zj zbZ.eq_1];simp[zf,hi,hw,hc]
  ·intro i hi hp;cases hp
  ·rw[zj zbZ.eq_1];simp[zf]
 have k2:Y L Cs zbY (some [5,6,1]) 1 [(5,.w (W 0)),(6,.w (W (0:Nat))),(1,.w (Pt 0))] [bx 5 (zf m)]=some (.exit 2,[(62,.w (Bo false)),(5,.w (W 0)),(6,.w (W m.signals.length)),(1,.w (Pt 0))],[bx 5 (zf m)]):=by
  have q:=zpE (L:=L) (Cs:=Cs) (b:=zbY) (live:=some [5,6,1]) (n0:=1) m.signals (fun i=>[(5,.w (W 0)),(6,.w (W i)),(1,.w (Pt 0))]) [bx 5 (zf m)] (fun _=>false) (.ret,[],[]) (.exit 2,[(62,.w (Bo false)),(5,.w (W 0)),(6,.w (W m.signals.length)),(1,.w (Pt 0))],[bx 5 (zf m)]) ?_ ?_ ?_
  ·simpa using q
  ·intro i hi _;have hw:=zB (i:=i) (by omega);have hc:=h4 m.signals[i] (je hi);obtain⟨a,b,hxy⟩:=hsp _ (je hi);rw[hxy]at hc;simp only[zf]at hc;rw[zj zbY.eq_1];simp[zf,hi,hw,hc,hxy]
  ·intro i hi hp;cases hp
  ·rw[zj zbY.eq_1];simp[zf]
 have k3:Y L Cs zbX (some [5,7,1]) 1 [(5,.w (W 0)),(7,.w (W (0:Nat))),(1,.w (Pt 0))] [bx 5 (zf m)]=some (.exit 4,[(80,.w (Bo false)),(5,.w (W 0)),(7,.w (W m.ke.length)),(1,.w (Pt 0))],[bx 5 (zf m)]):=by
  have q:=zpE (L:=L) (Cs:=Cs) (b:=zbX) (live:=some [5,7,1]) (n0:=1) m.ke (fun i=>[(5,.w (W 0)),(7,.w (W i)),(1,.w (Pt 0))]) [bx 5 (zf m)] (fun _=>false) (.ret,[],[]) (.exit 4,[(80,.w (Bo false)),(5,.w (W 0)),(7,.w (W m.ke.length)),(1,.w (Pt 0))],[bx 5 (zf m)]) ?_ ?_ ?_
  ·simpa using q
  ·intro i hi _;have hw:=zB (i:=i) (by omega);have hc:=h5 m.ke[i] (je hi);obtain⟨a,b,hxy⟩:=hzp _ (je hi);rw[hxy]at hc;simp only[zf]at hc;rw[zj zbX.eq_1];simp[zf,hi,hw,hc,hxy]
  ·intro i hi hp;cases hp
  ·rw[zj zbX.eq_1];simp[zf]
 have k4:Y L Cs zbW (some [5,8,1]) 1 [(5,.w (W 0)),(8,.w (W (0:Nat))),(1,.w (Pt 0))] [bx 5 (zf m)]=some (.exit 6,[(98,.w (Bo false)),(5,.w (W e)),(8,.w (W m.qj.length)),(1,.w (Pt 0))],[bx 5 (zf m)]):=by
  rcases h6 with⟨h6,rfl⟩ |⟨w,e1,h6⟩
  ·have q:=zpE (L:=L) (Cs:=Cs) (b:=zbW) (live:=some [5,8,1]) (n0:=1) m.qj (fun i=>[(5,.w (W 0)),(8,.w (W i)),(1,.w (Pt 0))]) [bx 5 (zf m)] (fun _=>false) (.ret,[],[]) (.exit 6,[(98,.w (Bo false)),(5,.w (W 0)),(8,.w (W m.qj.length)),(1,.w (Pt 0))],[bx 5 (zf m)]) ?_ ?_ ?_
   ·simpa using q
   ·intro i hi _;have hw:=zB (i:=i) (by omega);have hc:=h6 m.qj[i] (je hi);simp only[zf,zaL]at hc;rw[zj zbW.eq_1];simp[zf,hi,hw,hc,zaL]
   ·intro i hi hp;cases hp
   ·rw[zj zbW.eq_1];simp[zf]
  ·simp only[zf,e1,jT,qd,zaL]at h6;have w1:IntKind.i64.wrap 1=1:=rfl;rw[zj zbW.eq_1];simp[zf,e1,h6,zaL,w1];rw[zj zbW.eq_1];by_cases he:e=0
   ·simp[e1,he]
   ·have he':(e==0)=false:=by simp[he]
    simp[e1,he,he']
 simp only[zf,ji]at k1 k2 k3 k4 h3;rw[zUa zk7 rfl];simp[zeJ,zf,hW,a1,a2,l0,l1,l2,l3,l4,l9,k1,k2,k3,k4,h3]
def okI(r:Option (AV×Mem))(n:Int):Bool:=match r with
 |some (.w (.c (.int .i64 x)),[])=>x==n
 |_=>false
theorem zaq{f:FuncId}{a:List WV}{n:Int}(h:okI (zaH L Cs 400 f a []) n=true):R L Cs f a []=some (.w (W n),[]):=by
 refine zah.2 ⟨400,?_⟩;unfold okI at h;split at h
 ·rename_i x e;have:x=n:=by simpa using h
  rw[e,this]
 ·cases h
def y9:List Int:=[1500,600,1000,300]
def zdD(v:Int)(k:Nat)(lim:Int)(Z S Wk:List (List Cl)):WV:=.a [I v,.jc ((zy k lim).map zo),.jc Z,.jc S,.jc Wk]
theorem rs2(v lim:Int)(Z S Wk:List (List Cl)):((List.range 31).all fun o=>okI (zaH L Cs 400 zV [zdD v 2 lim Z S Wk,.a (zaY o 0 1)] []) 0)=true:=by kernel_rfl
theorem kz2(v lim:Int)(s:List Cl)(Wk:List (List Cl)):((List.range 2).all fun r=>okI (zaH L Cs 400 zR [zdD v 2 lim (zO 2 r) [s] Wk] []) 0&&(zO 2 r).all fun z=>okI (zaH L Cs 400 zJ [zdD v 2 lim (zO 2 r) [s] Wk,.a z] []) 0)=true:=by kernel_rfl
theorem rs6(v lim:Int)(Z S Wk:List (List Cl)):((List.range 31).all fun o=>okI (zaH L Cs 400 zV [zdD v 6 lim Z S Wk,.a (zaY o 1 3)] []) 0&&okI (zaH L Cs 400 zV [zdD v 6 lim Z S Wk,.a (zaY o 2 3)] []) 0)=true:=by kernel_rfl
theorem kz6(v lim:Int)(Wk:List (List Cl)):(okI (zaH L Cs 400 zR [zdD v 6 lim (zO 6 0) [] Wk] []) 0&&(zO 6 0).all fun z=>okI (zaH L Cs 400 zJ [zdD v 6 lim (zO 6 0) [] Wk,.a z] []) 0)=true:=by kernel_rfl
theorem kz6b(v lim:Int)(s s':List Cl)(Wk:List (List Cl)):(okI (zaH L Cs 400 zR [zdD v 6 lim (zO 6 1) [s,s'] Wk] []) 0&&(zO 6 1).all fun z=>okI (zaH L Cs 400 zJ [zdD v 6 lim (zO 6 1) [s,s'] Wk,.a z] []) 0)=true:=by kernel_rfl
theorem klP(k:Nat)(hk:k<7)(v:Int)(Z S Wk:List (List Cl)):(y9.all fun lim=>okI (zaH L Cs 400 zaU [zdD v k lim Z S Wk] []) 0)=true:=match k,hk with
 |0,_=>by kernel_rfl
 |1,_=>by kernel_rfl
 |2,_=>by kernel_rfl
 |3,_=>by kernel_rfl
 |4,_=>by kernel_rfl
 |5,_=>by kernel_rfl
 |6,_=>by kernel_rfl
theorem kjP(k:Nat)(hk:k<7)(v lim:Int)(Z S Wk:List (List Cl)):okI (zaH L Cs 400 zaM [zdD v k lim Z S Wk] []) 0=true:=match k,hk with
 |0,_=>by kernel_rfl
 |1,_=>by kernel_rfl
 |2,_=>by kernel_rfl
 |3,_=>by kernel_rfl
 |4,_=>by kernel_rfl
 |5,_=>by kernel_rfl
 |6,_=>by kernel_rfl
theorem kcP(k:Nat)(hk:k<7)(lim:Int):((zy k lim).all fun l=>okI (zaH L Cs 400 zaw [.a [zeT l]] []) l.len&&okI (zaH L Cs 400 zN [.a [zeT l]] []) l.len)=true:=match k,hk with
 |0,_=>by kernel_rfl
 |1,_=>by kernel_rfl
 |2,_=>by kernel_rfl
 |3,_=>by kernel_rfl
 |4,_=>by kernel_rfl
 |5,_=>by kernel_rfl
 |6,_=>by kernel_rfl
theorem rlP(k:Nat)(hk:k<7)(v:Int)(Z S Wk:List (List Cl)):(y9.all fun lim=>(List.range (zy k lim).length).all fun i=>okI (zaH L Cs 400 zav [zdD v k lim Z S Wk,W i] []) 0)=true:=match k,hk with
 |0,_=>by kernel_rfl
 |1,_=>by kernel_rfl
 |2,_=>by kernel_rfl
 |3,_=>by kernel_rfl
 |4,_=>by kernel_rfl
 |5,_=>by kernel_rfl
 |6,_=>by kernel_rfl
theorem rjP(k:Nat)(hk:k<7)(v lim:Int)(Z S Wk:List (List Cl)):okI (zaH L Cs 400 zau [zdD v k lim Z S Wk] []) 0=true:=match k,hk with
 |0,_=>by kernel_rfl
 |1,_=>by kernel_rfl
 |2,_=>by kernel_rfl
 |3,_=>by kernel_rfl
 |4,_=>by kernel_rfl
 |5,_=>by kernel_rfl
 |6,_=>by kernel_rfl
theorem kzP(k:Nat)(hk:k<6)(h2:k≠2)(v lim:Int)(Wk:List (List Cl)):((List.range 2).all fun r=>okI (zaH L Cs 400 zR [zdD v k lim (zO k r) [] Wk] []) 0&&(zO k r).all fun z=>okI (zaH L Cs 400 zJ [zdD v k lim (zO k r) [] Wk,.a z] []) 0)=true:=match k,hk with
 |0,_=>by kernel_rfl
 |1,_=>by kernel_rfl
 |2,_=>absurd rfl h2
 |3,_=>by kernel_rfl
 |4,_=>by kernel_rfl
 |5,_=>by kernel_rfl
def zhU(a b:Int):List (List Cl):=[[I 12,.jc [[I a]]],[I 5,.jc []],[I 9,.jc [[I b]]],[I 4,.jc []]]
abbrev zsZ(v:Int)(k:Nat)(lim:Int)(Z S Wk:List (List Cl)):List Cl:=[I v,.jc ((zy k lim).map zo),.jc Z,.jc S,.jc Wk]
theorem cf1:zaH L Cs 400 zap [.c (.jc (zhU 0 1)),.c (.fn zc0 [] [])] []=some (.w (Bo false),[])/\zaH L Cs 400 zap [.c (.jc (zhU 1 3)),.c (.fn zc0 [] [])] []=some (.w (Bo false),[])/\zaH L Cs 400 zap [.c (.jc (zhU 2 3)),.c (.fn zc0 [] [])] []=some (.w (Bo false),[]):=⟨by kernel_rfl,by kernel_rfl,by kernel_rfl⟩
theorem cf2a(v lim:Int)(Z S Wk:List (List Cl)):zaH L Cs 400 zap [.c (.jc (zhU 0 1)),.c (.fn zcZ [] [.ptr 0 0 0 0])] [bx 5 (zsZ v 2 lim Z S Wk)]=some (.w (Bo false),[bx 5 (zsZ v 2 lim Z S Wk)]):=by kernel_rfl
theorem cf2b(v lim:Int)(Z S Wk:List (List Cl)):zaH L Cs 400 zap [.c (.jc (zhU 1 3)),.c (.fn zcZ [] [.ptr 0 0 0 0])] [bx 5 (zsZ v 6 lim Z S Wk)]=some (.w (Bo false),[bx 5 (zsZ v 6 lim Z S Wk)]):=by kernel_rfl
theorem cf2c(v lim:Int)(Z S Wk:List (List Cl)):zaH L Cs 400 zap [.c (.jc (zhU 2 3)),.c (.fn zcZ [] [.ptr 0 0 0 0])] [bx 5 (zsZ v 6 lim Z S Wk)]=some (.w (Bo false),[bx 5 (zsZ v 6 lim Z S Wk)]):=by kernel_rfl
theorem zha{m:zD}(hn:m.signals.length<=10)(h:∀s∈m.signals,∃o a b,s=zaY o a b/\0<=o/\o<=1099511627776 /\
   R L Cs zap [.c (.jc (zhU a b)),.c (.fn zc0 [] [])] []=some (.w (Bo false),[]) /\
   R L Cs zap [.c (.jc (zhU a b)),.c (.fn zcZ [] [.ptr 0 0 0 0])] [bx 5 (zf m)]=some (.w (Bo false),[bx 5 (zf m)])) :
  R L Cs zao [.a (zf m)] []=some (.w (W 0),[]):=by
 have q:=zpE (L:=L) (Cs:=Cs) (b:=zcM) (live:=some [9,8,1,10]) (n0:=1) m.signals (fun i=>[(9,.w (W m.signals.length)),(8,.w (.c (.jc m.signals))),(1,.w (Pt 0)),(10,.w (W i))]) [bx 5 (zf m)] (fun _=>false) (.ret,[],[]) (.exit 0,[(11,.w (Bo false)),(1,.w (Pt 0)),(8,.w (.c (.jc m.signals))),(9,.w (W m.signals.length)),(10,.w (W m.signals.length))],[bx 5 (zf m)]) ?_ ?_ ?_
 ·simp only[zf,ji]at q;simp at q;rw[zUa zlv rfl];simp[zeX,zf,q]
 ·intro i hi _;have hw:=zB (i:=i) (by omega);obtain⟨o,a,b,hs,o1,o2,c1,c2⟩:=h _ (je hi);have hW:=ziD o 0 1099511627776;simp only[zf,zhU]at c1 c2;rw[zj zcM.eq_1];simp[zf,hi,hw,hs,zaY,hW,o1,o2,c1,c2]
 ·intro i hi hp;cases hp
 ·rw[zj zcM.eq_1];simp[zf]
theorem zBY{m:zD}{n:Nat}(hn:n<m.jf.length)(hlen:R L Cs zaw [.a [zeT m.jf[n]]] []=some (.w (W m.jf[n].len),[])):R L Cs zkE [.a (zf m),W n] []=some (.w (W m.jf[n].len),[]):=by
 simp only[zeT]at hlen;rw[zUa zou rfl];simp[zh5,zf,hn,zo,hlen]
def WkV(m:zD)(w:zCP):Prop:=∃(j:Nat) (h:j<m.jf.length),w.lane=j/\0<=w.lo/\w.lo<=w.hi/\w.hi<=m.jf[j].len/\0<=w.Ae/\w.Ae<w.ends/\w.ends<=1099511627776/\0<=w.vg/\w.vg<=zeR m.jf[j].kind
theorem zkY{m:zD}(hlen:∀l∈m.jf,R L Cs zaw [.a [zeT l]] []=some (.w (W l.len),[]))(hk:∀l∈m.jf,l.kind=1\/l.kind=2\/l.kind=3)(hwl:m.qj.length<=8)(hw:∀w∈m.qj,WkV m w):R L Cs zec [.a (zf m)] []=some (.w (W 0),[]):=by
 have q:=zpE (L:=L) (Cs:=Cs) (b:=zdm) (live:=some [12,11,10,1]) (n0:=1) m.qj (fun i=>[(12,.w (W i)),(11,.w (W m.qj.length)),(10,.w (.c (.jc (m.qj.map zaL)))),(1,.w (Pt 0))]) [bx 5 (zf m)] (fun _=>false) (.ret,[],[]) (.exit 0,[(13,.w (Bo false)),(12,.w (W m.qj.length)),(11,.w (W m.qj.length)),(10,.w (.c (.jc (m.qj.map zaL)))),(1,.w (Pt 0))],[bx 5 (zf m)]) ?_ ?_ ?_
 ·simp only[zf,ji]at q;simp at q;rw[zUa zmZ rfl];simp[zfE,zf,q]
 ·intro i hi _;obtain⟨j,hj,e,x1,x2,x3,x4,x5,x6,x7,x8⟩:=hw _ (je hi);have hww:=zB (i:=i) (by omega);have hB:=zmo (hk _ (je hj));have hL:=zBY hj (hlen _ (je hj));have hW:=ziD m.qj[i].vg 0 (zeR m.jf[j].kind);simp only[zf]at hL;generalize hwi:m.qj[i]=w at *;obtain⟨w1,w2,w3,w4,w5,w6⟩:=w;simp only at e x1 x2 x3 x4 x5 x6 x7 x8 hW;subst e;generalize zeR m.jf[j].kind=tv at *;have y0:¬(m.jf.length:Int)<=(j:Int):=by omega
  have yj:¬(j:Int)<0:=by omega
  have y1:¬w2<0:=by omega
  have y2:¬w3<w2:=by omega
  have y3:¬m.jf[j].len<w3:=by omega
  have y4:¬w4<0:=by omega
  have y5:¬w5<=w4:=by omega
  have y6:¬(1099511627776:Int)<w5:=by omega
  rw[zj zdm.eq_1];simp[zf,hi,hww,hwi,zaL,hj,zo,hB,hL,hW,yj,y0,y1,y2,y3,y4,y5,y6,x7,x8]
 ·intro i hi hp;cases hp
 ·rw[zj zdm.eq_1];simp[zf]
theorem zga{m:zD}(hlen:∀l∈m.jf,R L Cs zN [.a [zeT l]] []=some (.w (W l.len),[]))(hk:∀l∈m.jf,l.kind=1\/l.kind=2\/l.kind=3){w:zCP}(hw:WkV m w) :
  R L Cs zfh [.a (zf m),.a (zaL w)] []=some (.w (W 0),[]):=by
 obtain⟨j,hj,e,x1,x2,x3,x4,x5,x6,x7,x8⟩:=hw;have hB:=zhv (hk _ (je hj));have hL:=hlen _ (je hj);have hW:=zmm w.vg 0 (zeR m.jf[j].kind);simp only[zeT]at hL;obtain⟨w1,w2,w3,w4,w5,w6⟩:=w;simp only at e x1 x2 x3 x4 x5 x6 x7 x8 hW;subst e;generalize zeR m.jf[j].kind=tv at *;have y0:¬(m.jf.length:Int)<=(j:Int):=by omega
 have yj:¬(j:Int)<0:=by omega
 have y1:¬w2<0:=by omega
 have y2:¬w3<w2:=by omega
 have y3:¬m.jf[j].len<w3:=by omega
 have y4:¬w4<0:=by omega
 have y5:¬w5<=w4:=by omega
 have y6:¬(1099511627776:Int)<w5:=by omega
 rw[zUa ziH rfl];simp[zdF,zf,zaL,hj,zo,hB,hL,hW,yj,y0,y1,y2,y3,y4,y5,y6,x7,x8]
structure NumsO(k:Nat)(lim r o1 o2 o3 v:Int)(ws:List zCP):Prop where
 lim:lim∈y9
 r:r=0\/r=1
 o1:0<=o1/\o1<31
 o2:0<=o2/\o2<31
 o3:0<=o3/\o3<17
 v:0<=v/\v<5
 wl:ws.length<=1
structure zp2(k:Nat)(li rr p1 p2 p3 vv:Int)(ws:List zCP):Prop extends NumsO k li rr p1 p2 p3 vv ws where
 wv:∀x∈ws,WkV (zq k li rr p1 p2 p3 vv ws) x
structure zWf(m:zD):Prop where
 vA:(∀x∈m.qj,WkV m x)->zcp m
 bad:∀w e,m.qj=[w]->R L Cs zfh [.a (zf m),.a (zaL w)] []=some (.w (W e),[])->R L Cs zeE [.a (zf m)] []=some (.w (W e),[])
theorem zky{lim:Int}(h:lim∈y9):1<=lim/\lim<=2000:=by simp[y9]at h;omega
theorem zTr(k:Nat)(hk:k<7){lim r o1 o2 o3 v:Int}{ws:List zCP}(h:NumsO k lim r o1 o2 o3 v ws)(hz:R L Cs zR [.a (zf (zq k lim r o1 o2 o3 v ws))] []=some (.w (W 0),[])/\∀z∈(zq k lim r o1 o2 o3 v ws).ke,R L Cs zJ [.a (zf (zq k lim r o1 o2 o3 v ws)),.a z] []=some (.w (W 0),[]))(hs:R L Cs zao [.a (zf (zq k lim r o1 o2 o3 v ws))] []=some (.w (W 0),[]))(hrs:∀s∈(zq k lim r o1 o2 o3 v ws).signals,R L Cs zV [.a (zf (zq k lim r o1 o2 o3 v ws)),.a s] []=some (.w (W 0),[]))(hsp:∀s∈(zq k lim r o1 o2 o3 v ws).signals,∃o ps,s=[I o,.jc ps]):zWf (zq k lim r o1 o2 o3 v ws):=by
 have hlim:=zky h.lim;have hv:=h.v;have hsz:zon (zq k lim r o1 o2 o3 v ws):={
  v1:=hv.1
  v2:=by show v<=_;omega
  l1:=by match k,hk with |0,_ |1,_ |2,_ |3,_ |4,_ |5,_ |6,_=>simp[zq,zy]
  l2:=by match k,hk with |0,_ |1,_ |2,_ |3,_ |4,_ |5,_ |6,_=>simp[zq,zy]
  z:=by match k,hk with |0,_ |1,_ |2,_ |3,_ |4,_ |5,_ |6,_=>simp[zq,zO]
  s:=by match k,hk with |0,_ |1,_ |2,_ |3,_ |4,_ |5,_ |6,_=>(simp only[zq,zt];first |(split<;>simp) |simp)
  w:=by have:=h.wl;show ws.length<=8;omega }
 have hlen:∀l∈(zq k lim r o1 o2 o3 v ws).jf,R L Cs zaw [.a [zeT l]] []=some (.w (W l.len),[]):=fun l hl=>by
  have:=jo.1 (kcP k hk lim) l hl;rw[jg]at this;exact zaq this.1
 have hrlen:∀l∈(zq k lim r o1 o2 o3 v ws).jf,R L Cs zN [.a [zeT l]] []=some (.w (W l.len),[]):=fun l hl=>by
  have:=jo.1 (kcP k hk lim) l hl;rw[jg]at this;exact zaq this.2
 have hkd:∀l∈(zq k lim r o1 o2 o3 v ws).jf,l.kind=1\/l.kind=2\/l.kind=3:=by match k,hk with |0,_ |1,_ |2,_ |3,_ |4,_ |5,_ |6,_=>simp[zq,zy,zQ]
 have h0:0<(zq k lim r o1 o2 o3 v ws).jf.length:=hsz.l1;have hzp:∀s∈(zq k lim r o1 o2 o3 v ws).ke,∃ps o,s=[.jc ps,I o]:=by
  match k,hk with
  |0,_ |1,_ |2,_ |3,_ |4,_ |5,_ |6,_ =>
   intro s hs;simp[zq,zO]at hs
   try(first |(rcases hs with hs |hs<;>(subst hs;exact⟨_,_,rfl⟩)) |(subst hs;exact⟨_,_,rfl⟩))
 have hR:=fun e=>zd1 hsz (fun i hi=>zaq (jo.1 (jo.1 (rlP k hk v (zO k r) (zt k r o1 o2 o3) ((ws).map zaL)) lim h.lim) i (qs.2 hi))) (zaq (rjP k hk v lim (zO k r) (zt k r o1 o2 o3) ((ws).map zaL))) hsp hzp hrs hz.2 e
 refine⟨fun hwv=>{
  small:=⟨by match k,hk with |0,_ |1,_ |2,_ |3,_ |4,_ |5,_ |6,_=>simp[zq,zy],by match k,hk with |0,_ |1,_ |2,_ |3,_ |4,_ |5,_ |6,_=>simp[zq,zy,zQ],by match k,hk with |0,_ |1,_ |2,_ |3,_ |4,_ |5,_ |6,_=>simp[zq,zy,zQ]⟩
  chk:=zgb (zhb hsz) (zaq (jo.1 (klP k hk v (zO k r) (zt k r o1 o2 o3) ((ws).map zaL)) lim h.lim)) (zaq (kjP k hk v lim (zO k r) (zt k r o1 o2 o3) ((ws).map zaL))) hs hz.1
   (zkY hlen hkd hsz.w hwv)
  yc:=hR 0 (.inl ⟨fun x hx=>zga hrlen hkd (hwv x hx),rfl⟩)
  len:=hlen
  rlen:=hrlen
  len1:=by match k,hk with |0,_ |1,_ |2,_ |3,_ |4,_ |5,_ |6,_=>simp[zq,zy,zQ]
  kind:=hkd
  vg:=by match k,hk with |0,_ |1,_ |2,_ |3,_ |4,_ |5,_ |6,_=>(simp[zq,zy,zQ];try omega) },fun w e e1 e2=>hR e (.inr ⟨w,e1,e2⟩)⟩
theorem zTo(k:Nat)(hk:k<7){lim r o1 o2 o3 v:Int}{ws:List zCP}(h:NumsO k lim r o1 o2 o3 v ws)(hn:zt k r o1 o2 o3=[])(kz:∀Wk:List (List Cl),((List.range 2).all fun r=>okI (zaH L Cs 400 zR [zdD v k lim (zO k r) [] Wk] []) 0&&(zO k r).all fun z=>okI (zaH L Cs 400 zJ [zdD v k lim (zO k r) [] Wk,.a z] []) 0)=true):zWf (zq k lim r o1 o2 o3 v ws):=by
 have e:(zq k lim r o1 o2 o3 v ws).signals=[]:=hn;refine zTr k hk h ?_ (zha (by rw[e];simp) (fun s hs=>by rw[e]at hs;cases hs)) (fun s hs=>by rw[e]at hs;cases hs) (fun s hs=>by rw[e]at hs;cases hs);have em:zf (zq k lim r o1 o2 o3 v ws)=[I v,.jc ((zy k lim).map zo),.jc (zO k r),.jc [],.jc ((ws).map zaL)]:=by rw[<-hn];rfl
 rw[em];have q0:=jo.1 (kz ((ws).map zaL));rcases h.r with hr|hr
 ·subst hr;have q:=q0 0 (by simp);rw[jg]at q;exact⟨zaq q.1,fun z hz=>zaq (jo.1 q.2 z hz)⟩
 ·subst hr;have q:=q0 1 (by simp);rw[jg]at q;exact⟨zaq q.1,fun z hz=>zaq (jo.1 q.2 z hz)⟩
theorem good2{lim r o1 o2 o3 v:Int}{ws:List zCP}(h:NumsO 2 lim r o1 o2 o3 v ws):zWf (zq 2 lim r o1 o2 o3 v ws):=by
 have hz:R L Cs zR [.a (zf (zq 2 lim r o1 o2 o3 v ws))] []=some (.w (W 0),[])/\∀z∈(zq 2 lim r o1 o2 o3 v ws).ke,R L Cs zJ [.a (zf (zq 2 lim r o1 o2 o3 v ws)),.a z] []=some (.w (W 0),[]):=by
  have q0:=jo.1 (kz2 v lim (zaY o1 0 1) ((ws).map zaL));rcases h.r with hr|hr
  ·subst hr;have q:=q0 0 (by simp);rw[jg]at q;exact⟨zaq q.1,fun z hz=>zaq (jo.1 q.2 z hz)⟩
  ·subst hr;have q:=q0 1 (by simp);rw[jg]at q;exact⟨zaq q.1,fun z hz=>zaq (jo.1 q.2 z hz)⟩
 have hs:R L Cs zao [.a (zf (zq 2 lim r o1 o2 o3 v ws))] []=some (.w (W 0),[]):=zha (by simp[zq,zt]) (fun s hs=>by
  simp[zq,zt]at hs;subst hs;exact⟨o1,0,1,rfl,h.o1.1,by have:=h.o1.2;omega,zah.2 ⟨400,cf1.1⟩,zah.2 ⟨400,cf2a v lim _ _ _⟩⟩)
 have hrs:∀s∈(zq 2 lim r o1 o2 o3 v ws).signals,R L Cs zV [.a (zf (zq 2 lim r o1 o2 o3 v ws)),.a s] []=some (.w (W 0),[]):=fun s hs=>by
  simp[zq,zt]at hs;subst hs;obtain⟨n,hn⟩:=js h.o1.1;subst hn;exact zaq (jo.1 (rs2 v lim _ _ _) n (qs.2 (by have:=h.o1.2;omega)))
 have hsp:∀s∈(zq 2 lim r o1 o2 o3 v ws).signals,∃o ps,s=[I o,.jc ps]:=fun s hs=>by
  simp[zq,zt]at hs;subst hs;exact⟨_,_,rfl⟩
 exact zTr 2 (by decide) h hz hs hrs hsp
theorem good6{lim r o1 o2 o3 v:Int}{ws:List zCP}(h:NumsO 6 lim r o1 o2 o3 v ws):zWf (zq 6 lim r o1 o2 o3 v ws):=by
 have hv:=h.v;have hsz:zon (zq 6 lim r o1 o2 o3 v ws):={
  v1:=hv.1
  v2:=by show v<=_;omega
  l1:=by simp[zq,zy]
  l2:=by simp[zq,zy]
  z:=by simp[zq,zO]
  s:=by simp only[zq,zt];first |(split<;>simp) |simp
  w:=by have:=h.wl;show ws.length<=8;omega }
 have hz:R L Cs zR [.a (zf (zq 6 lim r o1 o2 o3 v ws))] []=some (.w (W 0),[])/\∀z∈(zq 6 lim r o1 o2 o3 v ws).ke,R L Cs zJ [.a (zf (zq 6 lim r o1 o2 o3 v ws)),.a z] []=some (.w (W 0),[]):=by
  rcases h.r with hr|hr
  ·subst hr;have q:=kz6 v lim ((ws).map zaL);rw[jg]at q;exact⟨zaq q.1,fun z hz=>zaq (jo.1 q.2 z hz)⟩
  ·subst hr;have q:=kz6b v lim (zaY o2 1 3) (zaY o3 2 3) ((ws).map zaL);rw[jg]at q;exact⟨zaq q.1,fun z hz=>zaq (jo.1 q.2 z hz)⟩
 have hs:R L Cs zao [.a (zf (zq 6 lim r o1 o2 o3 v ws))] []=some (.w (W 0),[]):=zha (by have:=hsz.s;omega) (fun s hs=>by
  rcases h.r with hr|hr
  ·subst hr;simp[zq,zt]at hs
  ·subst hr;simp[zq,zt]at hs;rcases hs with hs|hs
   ·subst hs;exact⟨o2,1,3,rfl,h.o2.1,by have:=h.o2.2;omega,zah.2 ⟨400,cf1.2.1⟩,zah.2 ⟨400,cf2b v lim _ _ _⟩⟩
   ·subst hs;exact⟨o3,2,3,rfl,h.o3.1,by have:=h.o3.2;omega,zah.2 ⟨400,cf1.2.2⟩,zah.2 ⟨400,cf2c v lim _ _ _⟩⟩)
 have hrs:∀s∈(zq 6 lim r o1 o2 o3 v ws).signals,R L Cs zV [.a (zf (zq 6 lim r o1 o2 o3 v ws)),.a s] []=some (.w (W 0),[]):=fun s hs=>by
  rcases h.r with hr|hr
  ·subst hr;simp[zq,zt]at hs
  ·subst hr;simp[zq,zt]at hs;rcases hs with hs|hs
   ·subst hs;obtain⟨n,hn⟩:=js h.o2.1;subst hn;have q:=jo.1 (rs6 v lim (zO 6 1) (zt 6 1 o1 n o3) ((ws).map zaL)) n (qs.2 (by have:=h.o2.2;omega));rw[jg]at q;exact zaq q.1
   ·subst hs;obtain⟨n,hn⟩:=js h.o3.1;subst hn;have q:=jo.1 (rs6 v lim (zO 6 1) (zt 6 1 o1 o2 n) ((ws).map zaL)) n (qs.2 (by have:=h.o3.2;omega));rw[jg]at q;exact zaq q.2
 have hsp:∀s∈(zq 6 lim r o1 o2 o3 v ws).signals,∃o ps,s=[I o,.jc ps]:=fun s hs=>by
  rcases h.r with hr|hr
  ·subst hr;simp[zq,zt]at hs
  ·subst hr;simp[zq,zt]at hs;rcases hs with hs|hs
   ·subst hs;exact⟨_,_,rfl⟩
   ·subst hs;exact⟨_,_,rfl⟩
 exact zTr 6 (by decide) h hz hs hrs hsp
theorem zV9(k:Nat)(hk:k<7){lim r o1 o2 o3 v:Int}{ws:List zCP}(h:NumsO k lim r o1 o2 o3 v ws):zWf (zq k lim r o1 o2 o3 v ws):=match k,hk with
 |0,_=>zTo 0 (by decide) h rfl (kzP 0 (by decide) (by decide) v lim)
 |1,_=>zTo 1 (by decide) h rfl (kzP 1 (by decide) (by decide) v lim)
 |2,_=>good2 h
 |3,_=>zTo 3 (by decide) h rfl (kzP 3 (by decide) (by decide) v lim)
 |4,_=>zTo 4 (by decide) h rfl (kzP 4 (by decide) (by decide) v lim)
 |5,_=>zTo 5 (by decide) h rfl (kzP 5 (by decide) (by decide) v lim)
 |6,_=>good6 h
theorem zTy(k:Nat)(hk:k<7){lim r o1 o2 o3 v:Int}{ws:List zCP}(h:zp2 k lim r o1 o2 o3 v ws):zcp (zq k lim r o1 o2 o3 v ws):=(zV9 k hk h.toNumsO).vA h.wv
theorem zz4(j:Nat):zeC j∈y9:=by
 unfold zeC y9;split<;>simp
theorem zV6(k:Nat)(hk:k<7)(lim r o1 o2 o3 v w b t:Int)(hb:0<=b/\b<40)(ht:0<=t/\t<3):∀x∈zak w b t,WkV (zq k lim r o1 o2 o3 v (zak w b t)) x:=by
 intro x hx;unfold zak at hx;split at hx
 ·obtain rfl:=kh.1 hx;have hL:∃h0:0<(zq k lim r o1 o2 o3 v (zak w b t)).jf.length,(zq k lim r o1 o2 o3 v (zak w b t)).jf[0].kind=1/\15000<=(zq k lim r o1 o2 o3 v (zak w b t)).jf[0].len:=by match k,hk with |0,_ |1,_ |2,_ |3,_ |4,_ |5,_ |6,_=>simp[zq,zy,zQ]
  obtain⟨h0,h1,h2⟩:=hL;refine⟨0,h0,rfl,(by show(0:Int)<=10000;decide),(by show(10000:Int)<=15000;decide),h2,hb.1,by simp only;omega,by simp only;omega,by simp only;omega,?_⟩;rw[h1];show t*200<=2000;omega
 ·cases hx
theorem zWg(w b t:Int):(zak w b t).length<=1:=by unfold zak;split<;>simp
theorem zBA(n:Int)(k:Nat)(hk:k<7):zp2 k (zeC (((n % 16777216).tdiv 7).tmod 4).toNat) (((n % 16777216).tdiv 28).tmod 2) (((n % 16777216).tdiv 28).tmod 31) (((n % 16777216).tdiv 56).tmod 31) (((n % 16777216).tdiv 56).tmod 17) (((n % 16777216).tdiv 28).tmod 5) (zak (((n % 16777216).tdiv 1736).tmod 3) (((n % 16777216).tdiv 5208).tmod 40) (((n % 16777216).tdiv 208320).tmod 3)):=by
 have hN:0<=n % 16777216/\n % 16777216<16777216:=by omega
 have hr:=zE _ 28 2 hN (by decide) (by decide);exact⟨⟨zz4 _,by omega,zE _ 28 31 hN (by decide) (by decide),zE _ 56 31 hN (by decide) (by decide),zE _ 56 17 hN (by decide) (by decide),zE _ 28 5 hN (by decide) (by decide),zWg _ _ _⟩,zV6 k hk _ _ _ _ _ _ _ _ _ (zE _ 5208 40 hN (by decide) (by decide)) (zE _ 208320 3 hN (by decide) (by decide))⟩
structure Prt where
 lane:Int
 lo:Int
 hi:Int
 uE:Int
structure Zon where
 parts:List Prt
 u7:Int
structure Phs where
 qB:Int
 green:List Int
structure Sgn where
 offset:Int
 kd:List Phs
def zeB(p:Prt):List Cl:=[I p.lane,I p.lo,I p.hi,I p.uE]
def zkl(l:List Prt):List (List Cl):=l.map zeB
def zdP(z:Zon):List Cl:=[.jc (zkl z.parts),I z.u7]
def zk8(l:List Zon):List (List Cl):=l.map zdP
def zr6(p:Phs):List Cl:=[I p.qB,.jc (zu p.green)]
def zje(l:List Phs):List (List Cl):=l.map zr6
def zeq(s:Sgn):List Cl:=[I s.offset,.jc (zje s.kd)]
def zjd(l:List Sgn):List (List Cl):=l.map zeq
@[simp] theorem zCq(l:List Prt):(zkl l).length=l.length:=by simp[zkl]
@[simp] theorem zzy{l:List Prt}{i:Nat}(h:i<(zkl l).length):(zkl l)[i]=zeB (l[i]'(by simpa using h)):=by simp[zkl]
@[simp] theorem zC7(l:List Zon):(zk8 l).length=l.length:=by simp[zk8]
@[simp] theorem zA9{l:List Zon}{i:Nat}(h:i<(zk8 l).length):(zk8 l)[i]=zdP (l[i]'(by simpa using h)):=by simp[zk8]
@[simp] theorem zCr(l:List Phs):(zje l).length=l.length:=by simp[zje]
@[simp] theorem zzz{l:List Phs}{i:Nat}(h:i<(zje l).length):(zje l)[i]=zr6 (l[i]'(by simpa using h)):=by simp[zje]
@[simp] theorem zCp(l:List Sgn):(zjd l).length=l.length:=by simp[zjd]
@[simp] theorem zzx{l:List Sgn}{i:Nat}(h:i<(zjd l).length):(zjd l)[i]=zeq (l[i]'(by simpa using h)):=by simp[zjd]
structure zvY(l:List Phs):Prop where
 ne:0<l.length
 few:l.length<=6
 qB:∀p∈l,1<=p.qB/\p.qB<=10000
 green:∀p∈l,p.green.length<=100
def zdg(l:List Phs):Int:=(l.map Phs.qB).foldl (· + ·) 0
def zpQ(lane:Int):Int->List Phs->Bool
 |_,[]=>false
 |at',p::r=>if p.qB<=at' then zpQ lane (at'-p.qB) r else decide (lane∈p.green)
def zfA(s:Sgn)(lane tick:Int):Bool:=zpQ lane ((s.offset.tmod (zdg s.kd)+tick.tmod (zdg s.kd)).tmod (zdg s.kd)) s.kd
theorem zyV(l:List Int)(a:Int):l.foldl (· + ·) a=a+l.foldl (· + ·) 0:=by
 induction l generalizing a with
 |nil=>simp
 |cons x l ih=>simp only[kS];rw[ih (a+x),ih (0+x)];omega
theorem zoy(p:Phs)(l:List Phs):zdg (p::l)=p.qB+zdg l:=by
 unfold zdg;simp only[jT,kS];rw[zyV];omega
theorem ztt:∀(l:List Phs),(∀p∈l,1<=p.qB/\p.qB<=10000)->(l.length:Int)<=zdg l/\zdg l<=10000*l.length
 |[],_=>by simp[zdg]
 |p::l,h=>by
  have:=ztt l fun q hq=>h q (jt _ hq)
  have hp:=h p (jw ..);rw[zoy,jM];omega
theorem zmy(a b:Int)(h:0<b):-b<a.tmod b/\a.tmod b<b:=by
 have h1:=Int.tmod_lt_of_pos a h;have h2:=Int.lt_tmod_of_pos a h;omega
theorem ztD(s:Sgn)(lane tick:Int)(hl:zvY s.kd):∀(r:List Phs) (i:Nat) (a:Int),s.kd.drop i=r->i<=s.kd.length->0<=a/\a<=10000*i ->
  Y L Cs zcw (some [7,8,1,2,3]) 1 [(7,.w (W a)),(8,.w (W i)),(1,.w (W lane)),(2,.w (W tick)),(3,.w (Pt 0))] [bx 2 (zeq s)] =
    some (.exit 0,[(15,.w (Bo false)),(7,.w (W (a+zdg r))),(8,.w (W s.kd.length)),(1,.w (W lane)),(2,.w (W tick)),(3,.w (Pt 0))],[bx 2 (zeq s)]):=by
 have hf:=hl.few;intro r;induction r with
 |nil =>
  intro i a hd hi ha;obtain rfl:=zUb hd hi;rw[zj zcw.eq_1];simp[zdg,zeq]
 |cons p r ih =>
  intro i a hd hi ha;obtain⟨hil,hp,hd'⟩:=zL hd;have ht:=hl.qB p (hp ▸ je hil);have hw:=zB (i:=i) (by omega);have hwa:=qc (a+p.qB);rw[zoy,show a+(p.qB+zdg r)=(a+p.qB)+zdg r by omega,<-ih (i+1) (a+p.qB) hd' hil (by omega),zj zcw.eq_1];clear ih;simp[hil,hp,hw,hwa,zr6,zeq,zg,zH]
theorem ztC(s:Sgn)(lane:Int)(hl:zvY s.kd):∀(r:List Phs) (i:Nat) (a:Int),s.kd.drop i=r->i<=s.kd.length->-1000000<=a/\a<=100000->∃ex E M,
  Y L Cs zbV (some [9,3,10,1]) 1 [(9,.w (W a)),(3,.w (Pt 0)),(10,.w (W i)),(1,.w (W lane))] [bx 2 (zeq s)]=some (ex,E,M) /\
    ((ex=.ret/\E=[(6,.w (Bo (zpQ lane a r)))])\/(ex=.exit 2/\zpQ lane a r=false)):=by
 have hf:=hl.few;intro r;induction r with
 |nil =>
  intro i a hd hi ha;obtain rfl:=zUb hd hi;rw[zj zbV.eq_1];simp[zpQ,zeq];exact⟨_,_,⟨rfl,rfl⟩,.inr rfl⟩
 |cons p r ih =>
  intro i a hd hi ha;obtain⟨hil,hp,hd'⟩:=zL hd;have ht:=hl.qB p (hp ▸ je hil);have hg:=hl.green p (hp ▸ je hil);have hw:=zB (i:=i) (by omega);have hC:=zAX p.green lane (by omega);rw[zpQ];by_cases c:p.qB<=a
  ·have hwa:=qc (a-p.qB);obtain⟨ex,E,M,h1,h2⟩:=ih (i+1) (a-p.qB) hd' hil (by omega);refine⟨ex,E,M,?_,by rw[if_pos c];exact h2⟩;have c':¬a<p.qB:=by omega
   rw[<-h1,zj zbV.eq_1];clear ih h1 h2;simp[hil,hp,hw,hwa,c,c',zr6,zeq,zg,zH]
  ·rw[if_neg c];clear ih;have c':a<p.qB:=by omega
   refine⟨.ret,[(6,.w (Bo (decide (lane∈p.green))))],[bx 2 (zeq s)],?_,.inl ⟨rfl,rfl⟩⟩;rw[zj zbV.eq_1];simp[hil,hp,hw,c,c',hC,zr6,zeq,zg,zH]
theorem zrO(s:Sgn)(lane tick:Int)(hl:zvY s.kd):R L Cs zkG [.a (zeq s),W lane,W tick] []=some (.w (Bo (zfA s lane tick)),[]):=by
 have hb:=ztt s.kd hl.qB;have hne:=hl.ne;have hf:=hl.few;have h1:=ztD s lane tick hl s.kd 0 0 rfl (jE _) (by omega);rw[Int.zero_add]at h1;have m1:=zmy s.offset (zdg s.kd) (by omega);have m2:=zmy tick (zdg s.kd) (by omega);have m3:=zmy (s.offset.tmod (zdg s.kd)+tick.tmod (zdg s.kd)) (zdg s.kd) (by omega);obtain⟨ex,E,M,h2,h3⟩:=ztC s lane hl s.kd 0 ((s.offset.tmod (zdg s.kd)+tick.tmod (zdg s.kd)).tmod (zdg s.kd)) rfl (jE _) (by omega);have hw:=qc (s.offset.tmod (zdg s.kd)+tick.tmod (zdg s.kd));have hz:zdg s.kd≠0:=by omega
 unfold zfA;generalize zpQ lane ((s.offset.tmod (zdg s.kd)+tick.tmod (zdg s.kd)).tmod (zdg s.kd)) s.kd=q at *;rw[zUa zk5 rfl];simp only[ji,zeq]at h1 h2;rcases h3 with⟨rfl,rfl⟩ |⟨rfl,rfl⟩
 ·simp[zdq,h1,h2,hw,hz,zeq]
 ·simp[zdq,h1,h2,hw,hz,zeq]
structure Zd(m:zD)(zs:List Zon)(ss:List Sgn):Prop where
 z:m.ke=zk8 zs
 s:m.signals=zjd ss
 few:zs.length<=12
 sfew:ss.length<=4
 sig:∀z∈zs,0<=z.u7/\z.u7<=ss.length
 pfew:∀z∈zs,z.parts.length<=6
 ph:∀s∈ss,zvY s.kd
abbrev ztn:Sgn:=⟨0,[]⟩
abbrev Asc(l:List Int):Prop:=l.Pairwise (· < ·)
abbrev zto:Prt:=⟨0,0,0,0⟩
def zjF(z:Zon)(lane:Int):Option Prt:=z.parts.find? fun p=>decide (p.lane=lane)
theorem zyl(z:Zon)(lane:Int)(hp:z.parts.length<=1000):∀(r:List Prt) (i:Nat),z.parts.drop i=r->i<=z.parts.length->∃ex E M,
  Y L Cs zcc (some [1,2,6,4]) 2 [(1,.w (W lane)),(2,.w (Pt 0)),(6,.w (W i)),(4,.w (Pt 1))] [bx 2 (zdP z),bx 4 (zeB zto)]=some (ex,E,M) /\
    ((∃p,r.find? (fun p=>decide (p.lane=lane))=some p/\ex=.ret/\E=[(4,.w (Pt 1)),(5,.w (Bo true))]/\M=[bx 2 (zdP z),bxv 1 4 (zeB p)]) \/
     (r.find? (fun p=>decide (p.lane=lane))=none/\ex=.exit 0/\E=[(11,.w (Bo false)),(1,.w (W lane)),(2,.w (Pt 0)),(6,.w (W z.parts.length)),(4,.w (Pt 1))]/\M=[bx 2 (zdP z),bx 4 (zeB zto)])):=by
 intro r;induction r with
 |nil =>
  intro i hd hi;obtain rfl:=zUb hd hi;refine⟨_,_,_,?_,.inr ⟨rfl,rfl,rfl,rfl⟩⟩;rw[zj zcc.eq_1];simp[zdP]
 |cons p r ih =>
  intro i hd hi;obtain⟨hil,hq,hd'⟩:=zL hd;have hw:=zB (i:=i) (by omega);by_cases c:p.lane=lane
  ·refine⟨_,_,_,?_,.inl ⟨p,by simp[c],rfl,rfl,rfl⟩⟩;rw[zj zcc.eq_1];simp[hil,hq,c,zdP,zeB]
  ·have c':(p.lane==lane)=false:=by simp[c]
   obtain⟨ex,E,M,h1,h2⟩:=ih (i+1) hd' hil;refine⟨ex,E,M,?_,by rw[List.find?_cons_of_neg (by simp[c])];exact h2⟩;rw[<-h1,zj zcc.eq_1];clear ih h1 h2;simp[hil,hq,hw,c,c',zdP,zeB]
theorem zxM(z:Zon)(lane:Int)(hp:z.parts.length<=1000):R L Cs zlp [.a (zdP z),W lane] []=some (.t [.a (zeB ((zjF z lane).getD zto)),Bo (zjF z lane).isSome],[]):=by
 obtain⟨ex,E,M,h1,h2⟩:=zyl z lane hp z.parts 0 rfl (jE _);unfold zjF;rw[zUa zlF rfl];simp only[ji,zdP]at h1;rcases h2 with⟨p,e,rfl,rfl,rfl⟩ |⟨e,rfl,rfl,rfl⟩
 ·rw[e];simp only[zeB]at h1;simp[zdJ,h1,zdP,zeB]
 ·rw[e];simp only[zeB]at h1;simp[zdJ,h1,zdP,zeB]
def zff(ss:List Sgn)(lane tick:Int)(z:Zon):List Int:=if z.u7=0 then [] else match zjF z lane with
 |none=>[]
 |some p=>if zfA (ss.getD (z.u7-1).toNat ztn) lane tick=true then [] else [p.lo]
abbrev crv(x0 y0 x1 y1:Int):Cl:=.jc [[I x0,I y0],[I x1,I y1]]
structure Pc(x0 y0 x1 y1 len:Int):Prop where
 b:(-400000<=x0/\x0<=400000)/\(-400000<=y0/\y0<=400000)/\(-400000<=x1/\x1<=400000)/\(-400000<=y1/\y1<=400000)
 l:1000<=len/\len<=1000000
 chk:R L Cs zsk [.a [crv x0 y0 x1 y1]] []=some (.w (W 0),[])
 yc:R L Cs zkH [.a [crv x0 y0 x1 y1]] []=some (.w (W 0),[])
 root:R L Cs zud [W ((x1-x0)*(x1-x0)+(y1-y0)*(y1-y0))] []=some (.t [W len,Bo true],[])
 rroot:R L Cs zlq [W ((x1-x0)*(x1-x0)+(y1-y0)*(y1-y0))] []=some (.w (W len),[])
theorem pc0:Pc 0 0 60000 0 60000:=⟨by decide,by decide,zah.2 ⟨400,by kernel_rfl⟩,zah.2 ⟨400,by kernel_rfl⟩,zah.2 ⟨400,by kernel_rfl⟩,zah.2 ⟨400,by kernel_rfl⟩⟩
theorem pc1:Pc 0 0 50000 0 50000:=⟨by decide,by decide,zah.2 ⟨400,by kernel_rfl⟩,zah.2 ⟨400,by kernel_rfl⟩,zah.2 ⟨400,by kernel_rfl⟩,zah.2 ⟨400,by kernel_rfl⟩⟩
theorem pc2:Pc 30000 (-20000) 30000 20000 40000:=⟨by decide,by decide,zah.2 ⟨400,by kernel_rfl⟩,zah.2 ⟨400,by kernel_rfl⟩,zah.2 ⟨400,by kernel_rfl⟩,zah.2 ⟨400,by kernel_rfl⟩⟩
theorem pc3:Pc 0 0 30000 0 30000:=⟨by decide,by decide,zah.2 ⟨400,by kernel_rfl⟩,zah.2 ⟨400,by kernel_rfl⟩,zah.2 ⟨400,by kernel_rfl⟩,zah.2 ⟨400,by kernel_rfl⟩⟩
theorem pc4:Pc 30000 0 60000 0 30000:=⟨by decide,by decide,zah.2 ⟨400,by kernel_rfl⟩,zah.2 ⟨400,by kernel_rfl⟩,zah.2 ⟨400,by kernel_rfl⟩,zah.2 ⟨400,by kernel_rfl⟩⟩
theorem pc5:Pc 30000 0 54000 10000 26000:=⟨by decide,by decide,zah.2 ⟨400,by kernel_rfl⟩,zah.2 ⟨400,by kernel_rfl⟩,zah.2 ⟨400,by kernel_rfl⟩,zah.2 ⟨400,by kernel_rfl⟩⟩
theorem pc6:Pc 6000 (-10000) 30000 0 26000:=⟨by decide,by decide,zah.2 ⟨400,by kernel_rfl⟩,zah.2 ⟨400,by kernel_rfl⟩,zah.2 ⟨400,by kernel_rfl⟩,zah.2 ⟨400,by kernel_rfl⟩⟩
theorem pc7:Pc 0 0 20000 0 20000:=⟨by decide,by decide,zah.2 ⟨400,by kernel_rfl⟩,zah.2 ⟨400,by kernel_rfl⟩,zah.2 ⟨400,by kernel_rfl⟩,zah.2 ⟨400,by kernel_rfl⟩⟩
theorem pc8:Pc 20000 0 50000 0 30000:=⟨by decide,by decide,zah.2 ⟨400,by kernel_rfl⟩,zah.2 ⟨400,by kernel_rfl⟩,zah.2 ⟨400,by kernel_rfl⟩,zah.2 ⟨400,by kernel_rfl⟩⟩
theorem pc9:Pc 35000 (-8000) 35000 8000 16000:=⟨by decide,by decide,zah.2 ⟨400,by kernel_rfl⟩,zah.2 ⟨400,by kernel_rfl⟩,zah.2 ⟨400,by kernel_rfl⟩,zah.2 ⟨400,by kernel_rfl⟩⟩
theorem pc10:Pc 20000 0 44000 10000 26000:=⟨by decide,by decide,zah.2 ⟨400,by kernel_rfl⟩,zah.2 ⟨400,by kernel_rfl⟩,zah.2 ⟨400,by kernel_rfl⟩,zah.2 ⟨400,by kernel_rfl⟩⟩
theorem pc11:Pc 36000 (-12000) 36000 18000 30000:=⟨by decide,by decide,zah.2 ⟨400,by kernel_rfl⟩,zah.2 ⟨400,by kernel_rfl⟩,zah.2 ⟨400,by kernel_rfl⟩,zah.2 ⟨400,by kernel_rfl⟩⟩
structure zmp(m:zD):Prop where
 one:∀l∈m.jf,∃x0 y0 x1 y1,l.pts=[(x0,y0),(x1,y1)]/\Pc x0 y0 x1 y1 l.len
 few:m.jf.length<=4/\0<m.jf.length
theorem zAd(lim r o1 o2 o3 v:Int)(ws:List zCP):zmp (zq 0 lim r o1 o2 o3 v ws):=by
 refine⟨fun l hl=>?_,by constructor<;>simp[zq,zy]⟩;simp only[zq,zy,jx,kM,or_false]at hl;subst hl
 ·exact⟨_,_,_,_,rfl,pc0⟩
theorem zAc(lim r o1 o2 o3 v:Int)(ws:List zCP):zmp (zq 1 lim r o1 o2 o3 v ws):=by
 refine⟨fun l hl=>?_,by constructor<;>simp[zq,zy]⟩;simp only[zq,zy,jx,kM,or_false]at hl;rcases hl with rfl|rfl
 ·exact⟨_,_,_,_,rfl,pc1⟩
 ·exact⟨_,_,_,_,rfl,pc2⟩
theorem zAb(lim r o1 o2 o3 v:Int)(ws:List zCP):zmp (zq 2 lim r o1 o2 o3 v ws):=by
 refine⟨fun l hl=>?_,by constructor<;>simp[zq,zy]⟩;simp only[zq,zy,jx,kM,or_false]at hl;rcases hl with rfl|rfl
 ·exact⟨_,_,_,_,rfl,pc1⟩
 ·exact⟨_,_,_,_,rfl,pc2⟩
theorem zAa(lim r o1 o2 o3 v:Int)(ws:List zCP):zmp (zq 3 lim r o1 o2 o3 v ws):=by
 refine⟨fun l hl=>?_,by constructor<;>simp[zq,zy]⟩;simp only[zq,zy,jx,kM,or_false]at hl;rcases hl with rfl|rfl|rfl
 ·exact⟨_,_,_,_,rfl,pc3⟩
 ·exact⟨_,_,_,_,rfl,pc4⟩
 ·exact⟨_,_,_,_,rfl,pc5⟩
theorem zz9(lim r o1 o2 o3 v:Int)(ws:List zCP):zmp (zq 4 lim r o1 o2 o3 v ws):=by
 refine⟨fun l hl=>?_,by constructor<;>simp[zq,zy]⟩;simp only[zq,zy,jx,kM,or_false]at hl;rcases hl with rfl|rfl|rfl
 ·exact⟨_,_,_,_,rfl,pc3⟩
 ·exact⟨_,_,_,_,rfl,pc6⟩
 ·exact⟨_,_,_,_,rfl,pc4⟩
theorem zz8(lim r o1 o2 o3 v:Int)(ws:List zCP):zmp (zq 5 lim r o1 o2 o3 v ws):=by
 refine⟨fun l hl=>?_,by constructor<;>simp[zq,zy]⟩;simp only[zq,zy,jx,kM,or_false]at hl;rcases hl with rfl|rfl|rfl
 ·exact⟨_,_,_,_,rfl,pc7⟩
 ·exact⟨_,_,_,_,rfl,pc8⟩
 ·exact⟨_,_,_,_,rfl,pc9⟩
theorem zz7(lim r o1 o2 o3 v:Int)(ws:List zCP):zmp (zq 6 lim r o1 o2 o3 v ws):=by
 refine⟨fun l hl=>?_,by constructor<;>simp[zq,zy]⟩;simp only[zq,zy,jx,kM,or_false]at hl;rcases hl with rfl|rfl|rfl|rfl
 ·exact⟨_,_,_,_,rfl,pc7⟩
 ·exact⟨_,_,_,_,rfl,pc8⟩
 ·exact⟨_,_,_,_,rfl,pc10⟩
 ·exact⟨_,_,_,_,rfl,pc11⟩
def zj2(m:zD)(r:List Int):Prop:=∀x∈r,0<=x/\x<m.jf.length
def zW(m:zD):Int->List Int->List Int
 |_,[]=>[]
 |a,x::r=>a::zW m (a+z8 m x) r
def zmd(m:zD):Int->List Int->Int
 |a,[]=>a
 |a,x::r=>zmd m (a+z8 m x) r
theorem zcX{m:zD}(h:zcp m){x:Int}(hx:0<=x/\x<m.jf.length):1000<=z8 m x/\z8 m x<=1000000:=by
 obtain⟨n,rfl⟩:=js hx.1;have hn:n<m.jf.length:=by omega
 have:=h.len1 _ (je hn);simpa [z8,hn]using this
theorem zxO{m:zD}(h:zcp m){x:Int}(hx:0<=x/\x<m.jf.length):R L Cs zkE [.a (zf m),W x] []=some (.w (W (z8 m x)),[]):=by
 obtain⟨n,rfl⟩:=js hx.1;have hn:n<m.jf.length:=by omega
 have e:z8 m n=m.jf[n].len:=by simp[z8,hn]
 rw[e];exact zAV h hn
theorem zxg{m:zD}(h:zcp m){x:Int}(hx:0<=x/\x<m.jf.length):R L Cs zgl [.a (zf m),W x] []=some (.w (W (z8 m x)),[]):=by
 obtain⟨n,rfl⟩:=js hx.1;have hn:n<m.jf.length:=by omega
 have e:z8 m n=m.jf[n].len:=by simp[z8,hn]
 rw[e];exact ztk h hn
abbrev znJ:List Cl:=[I 0,.jd,.jd,.jd,.jd,.jd,.jd,I 0]
abbrev zlf(m:zD)(l:List Int)(S:Cl)(n:Int):List Cl:=[I m.version,.jc (m.jf.map zo),.jc m.ke,.jc m.signals,.jc (m.qj.map zaL),.jc (zu l),S,I n]
theorem zvl{m:zD}(h:zcp m)(l:List Int)(hl:l.length<=1000)(hon:zj2 m l)(j:Nat):∀(r:List Int) (i:Nat) (out:List Int) (v:Nat) (a:Int) (G:Mem),l.drop i=r->i<=l.length->out.length=i->0<=a->a<=i*1000000->G[j]?=some (some (own 1 (zu out))) ->
  ∃v' G',G'[j]?=some (some (own 1 (zu (out++zW m a r))))/\Y L Cs zc3 (some [18,17,4,16,2,5]) 3 [(18,.w (W i)),(17,.w (W l.length)),(4,.w (Pt 1)),(16,.w (.c (.jc (zu l)))),(2,.w (Pt 0)),(5,.w (Pt 2))] (bx 5 (zf m)::bx 8 znJ::bxv v 8 (zlf m l (.slice (j+3) out.length 1 0 out.length none) a)::G) =
   some (.exit 0,[(19,.w (Bo false)),(18,.w (W l.length)),(17,.w (W l.length)),(4,.w (Pt 1)),(16,.w (.c (.jc (zu l)))),(2,.w (Pt 0)),(5,.w (Pt 2))],bx 5 (zf m)::bx 8 znJ::bxv v' 8 (zlf m l (.slice (j+3) (out++zW m a r).length 1 0 (out++zW m a r).length none) (zmd m a r))::G'):=by
 intro r;induction r with
 |nil =>
  intro i out v a G hd hi ho ha1 ha2 hG;obtain rfl:=zUb hd hi;refine⟨v,G,by simpa [zW]using hG,?_⟩;rw[zj zc3.eq_1];simp[zW,zmd]
 |cons x r ih =>
  intro i out v a G hd hi ho ha1 ha2 hG;subst ho;obtain⟨hil,hx,hd'⟩:=zL hd;have hxm:=hon x (by rw[<-hx];exact je _);have hw:=zB (i:=out.length) (by omega);have hjG:j<G.length:=(kQ.1 hG).1;have hg:∀N:Mem,(G++N)[j]?=some (some (own 1 (zu out))):=fun N=>by rw[jp hjG,hG]
  have Au:∀(N:Mem) (x:Option Blk),(G++N).set j x=G.set j x++N:=fun N x=>uq _ _ hjG
  have hL:=zxO h hxm;have hle:=zcX h hxm;have kj:(out.length+1)*8<=140737488355328:=by omega
  have hwa:=qc (a+z8 m x);obtain⟨v',G',h1,h2⟩:=ih (out.length+1) (out++[a]) (v+1+1) (a+z8 m x) (G.set j (some (own 1 (zu (out++[a]))))++[some (own 1 [[I a]])]) hd' hil (by simp) (by omega) (by omega) (by rw[jp (by simpa using hjG),kp hjG]);have e1:out++zW m a (x::r)=(out++[a])++zW m (a+z8 m x) r:=by simp[zW]
  refine⟨v',G',by rw[e1];exact h1,?_⟩;rw[e1,zmd,<-h2,zj zc3.eq_1];simp only[own,zfq,zf]at hg hL;have hdr:∀(E:Env) (p q:Option Blk) (w g len:Nat) (a:Int) (N:Mem),vQ 3 E (p::q::bxv w 8 (zlf m l (.slice (j+3) g 1 0 len none) a)::N)=(p::q::bxv w 8 (zlf m l (.slice (j+3) g 1 0 len none) a)::N):=by
   intro E p q w g len a N;unfold vQ;split
   ·rfl
   ·rw[if_neg];simp[zH,Blk.below,Eng.below,vT]
  simp only[bxv,zlf]at hdr;simp[hil,hx,hL,zf,hw,hg,Au,kj,hwa,zg,hdr,-vQ]
  try omega
theorem zcO(m:zD):∀(r:List Int) (a:Int),(zW m a r).length=r.length
 |[],_=>rfl
 |x::r,a=>by simp[zW,zcO m r]
theorem zxC(M:Mem)(r:List (List Cl)):zdR M (.jc r)=some (.jc r):=rfl
theorem zyF{M:Mem}{m:zD}{l:List Int}{S x:Cl}{n:Int}(h:zdR M S=some x)(hx:Eng.below 0 x=true):leave true 0 (.w (.a (zlf m l S n))) M=some (.w (.a (zlf m l x n)),[]) :=
 zid (by simp only[zoS,zn7,uZ,h,zvj,zxC];rfl) (by show List.all (zlf m l x n) (Eng.below 0)=true;simp only[zlf,kY,List.all_nil,hx];rfl)
theorem zg1{m:zD}(h:zcp m){l:List Int}(hr:zdA m l=0):zj2 m l/\l≠[]/\l.length<=8:=by
 cases l with
 |nil=>simp[zdA]at hr
 |cons x t =>
  simp only[zdA]at hr;split at hr
  ·cases hr
  split at hr
  ·cases hr
  split at hr
  ·cases hr
  split at hr
  ·cases hr
  split at hr
  ·rename_i h1 h2 h3 h4 h5;refine⟨?_,by simp,by simp;omega⟩;have key:∀(t:List Int) (a:Int),0<=a->a<m.jf.length->goF m a t=true->zj2 m t:=by
    intro t;induction t with
    |nil=>intro a _ _ _ y hy;cases hy
    |cons y t ih =>
     intro a ha1 ha2 hg;simp only[goF,jg,decide_eq_true_eq]at hg;have hal:a.toNat<m.jf.length:=by omega
     have qr:((m.jf[a.toNat]?).map zfn.next).getD []=(m.jf[a.toNat]).next:=by rw[jk hal];rfl
     rw[qr]at hg;have hv:=h.small.valid _ (je hal) y hg.1;intro z hz;rcases jx.1 hz with rfl|hz
     ·exact hv
     ·exact ih y hv.1 hv.2 hg.2 z hz
   intro z hz;rcases jx.1 hz with rfl|hz
   ·exact⟨by omega,by omega⟩
   ·exact key t x (by omega) (by omega) h5 z hz
  ·cases hr
theorem zvR{m:zD}(h:zcp m){l:List Int}(hr:zdA m l=0):R L Cs zrf [.a (zf m),.c (.jc (zu l))] []=some (.w (.a (zlf m l (.jc (zu (zW m 0 l))) (zmd m 0 l))),[]):=by
 obtain⟨hon,hne,hlen⟩:=zg1 h hr;have hck:=zos m h.small h.chk l (by omega);rw[hr]at hck;obtain⟨x,r,hl⟩:=List.exists_cons_of_ne_nil hne;have hmain:∃M' S v,Y L Cs zc3 (some [18,17,4,16,2,5]) 3 [(18,.w (W 0)),(17,.w (W l.length)),(4,.w (Pt 1)),(16,.w (.c (.jc (zu l)))),(2,.w (Pt 0)),(5,.w (Pt 2))] [bx 5 (zf m),bx 8 znJ,bxv 1 8 (zlf m l .jd 0)] =
   some (.exit 0,[(19,.w (Bo false)),(18,.w (W l.length)),(17,.w (W l.length)),(4,.w (Pt 1)),(16,.w (.c (.jc (zu l)))),(2,.w (Pt 0)),(5,.w (Pt 2))],bx 5 (zf m)::bx 8 znJ::bxv v 8 (zlf m l S (zmd m 0 l))::M') /\
   zdR (bx 5 (zf m)::bxv 1 8 (zlf m l S (zmd m 0 l))::bxv v 8 (zlf m l S (zmd m 0 l))::M') S=some (.jc (zu (zW m 0 l))):=by
  have hll:0<l.length:=by rw[hl];simp
  have h0:l[0]=x:=by simp[hl]
  have hxm:=hon x (by rw[hl];simp);have hL:=zxO h hxm;have hle:=zcX h hxm;have hwa:=qc (z8 m x);obtain⟨v',G',h1,h2⟩:=zvl h l (by omega) hon 1 r 1 [0] 3 (z8 m x) [some (own 1 [[I 0]]),some (own 1 (zu [0]))] (by rw[hl];rfl) (by omega) rfl (by omega) (by omega) rfl;have uH:zW m 0 l=[0]++zW m (z8 m x) r:=by rw[hl];simp[zW]
  have hend:zmd m 0 l=zmd m (z8 m x) r:=by rw[hl];simp[zmd]
  refine⟨G',.slice 4 ([0]++zW m (z8 m x) r).length 1 0 ([0]++zW m (z8 m x) r).length none,v',?_,?_⟩
  ·rw[hend];simp only[uy,ji,jM,jL,own,zf,zlf]at hL h2 ⊢;rw[<-h2,zj zc3.eq_1];have hw:IntKind.i64.wrap 1=1:=rfl;have hr:(0:Int)<(l.length:Int):=by omega
   simp[hll,h0,hL,hw,hwa,zg,hr]
  ·rw[uH];simp[zdR,look,h1]
 obtain⟨M',S,v,h1,h2⟩:=hmain;simp only[zf,zlf]at hck h1 h2;rw[zUa zrV rfl];simp[zir,zf,hck,h1,-leave];exact zyF h2 rfl
theorem zAY{m:zD}(h:zcp m){l:List Int}(hr:zdA m l=0):R L Cs zrh [.a (zf m),.c (.jc (zu l))] []=some (.w (.c (.jc (zu (zW m 0 l)))),[]):=by
 have hf:=zvR h hr;simp only[zf,zlf]at hf;rw[zUa zrX rfl];simp[zit,zf,hf]
theorem zsq{m:zD}(h:zcp m){l:List Int}(hr:zdA m l=0):R L Cs zmQ [.a (zf m),.c (.jc (zu l))] []=some (.w (W (zmd m 0 l)),[]):=by
 have hf:=zvR h hr;simp only[zf,zlf]at hf;rw[zUa zm0 rfl];simp[zfF,zf,hf]
theorem zvF{m:zD}(h:zcp m)(l:List Int)(hl:l.length<=1000)(hon:zj2 m l):∀(r:List Int) (i:Nat) (out:List Int) (a:Int),l.drop i=r->i<=l.length->out.length=i->0<=a->a<=i*1000000 ->
  Y L Cs zcn (some [6,7,8,1,2]) 3 [(6,.w (.c (sl 2 1 (zu out)))),(7,.w (W a)),(8,.w (W i)),(1,.w (.c (.jc (zu l)))),(2,.w (Pt 0))] [bx 5 (zf m),gb 1,some (own 1 (zu out))] =
    some (.exit 0,[(12,.w (Bo false)),(6,.w (.c (sl 2 1 (zu (out++zW m a r))))),(7,.w (W (zmd m a r))),(8,.w (W l.length)),(1,.w (.c (.jc (zu l)))),(2,.w (Pt 0))],[bx 5 (zf m),gb 1,some (own 1 (zu (out++zW m a r)))]):=by
 intro r;induction r with
 |nil =>
  intro i out a hd hi ho ha1 ha2;obtain rfl:=zUb hd hi;rw[zj zcn.eq_1];simp[zW,zmd]
 |cons x r ih =>
  intro i out a hd hi ho ha1 ha2;subst ho;obtain⟨hil,hx,hd'⟩:=zL hd;have hxm:=hon x (by rw[<-hx];exact je _);have hw:=zB (i:=out.length) (by omega);have hL:=zxg h hxm;have hle:=zcX h hxm;have kj:(out.length+1)*8<=140737488355328:=by omega
  have hwa:=qc (a+z8 m x);have e1:out++zW m a (x::r)=(out++[a])++zW m (a+z8 m x) r:=by simp[zW]
  rw[e1,zmd,<-ih (out.length+1) (out++[a]) (a+z8 m x) hd' hil (by simp) (by omega) (by omega),zj zcn.eq_1];simp only[zf]at hL;simp[hil,hx,hL,zf,hw,kj,hwa,zg,zH]
theorem zvX{m:zD}(h:zcp m){l:List Int}(hl:l.length<=1000)(hon:zj2 m l):R L Cs zjQ [.a (zf m),.c (.jc (zu l))] []=some (.t [.c (.jc (zu (zW m 0 l))),W (zmd m 0 l)],[]):=by
 have hb:=zvF h l hl hon l 0 [] 0 rfl (jE _) rfl (by omega) (by omega);simp only[zf,ji,jP,zay,sl,own,jL,zfq]at hb;rw[zUa zkc rfl];simp[zep,zf,hb,zg]
theorem zEp{m:zD}(h:zcp m){l:List Int}(hr:zdA m l=0):R L Cs zDU [.a (zf m),.c (.jc (zu l))] []=some (.w (W (zmd m 0 l)),[]):=by
 obtain⟨hon,hne,hlen⟩:=zg1 h hr;have hb:=zvX h (by omega) hon;have hck:=zp0 m h.small h.yc l (by omega);rw[hr]at hck;simp only[zf]at hb hck;rw[zUa zDV rfl];simp[zDG,zf,hb,hck]
def zbK(m:zD):Nat->List zfn->List Int
 |_,[]=>[]
 |i,_::r=>if zes i 0 m.jf=[] then(i:Int)::zbK m (i+1) r else zbK m (i+1) r
theorem zp8(m:zD):∀(r:List zfn) (i:Nat),i+r.length<=m.jf.length->zj2 m (zbK m i r)
 |[],_,_=>by intro x hx;cases hx
 |l::r,i,h=>by
  intro x hx;simp at h;unfold zbK at hx;split at hx
  ·rcases jx.1 hx with rfl|hx
   ·omega
   ·exact zp8 m r (i+1) (by omega) x hx
  ·exact zp8 m r (i+1) (by omega) x hx
theorem zlK(m:zD):∀(r:List zfn) (i:Nat),(zbK m i r).length<=r.length
 |[],_=>by simp[zbK]
 |l::r,i=>by
  have:=zlK m r (i+1);unfold zbK;split<;>simp<;>omega
def zaK(m:zD)(i:Int):Int:=((m.jf[i.toNat]?).map zfn.kind).getD 0
abbrev zqY:zk:=⟨-1,0,0,0,0,0⟩
def ul(m:zD)(b:zk):Prop:=b.lo<0\/b.hi<b.lo\/z8 m b.lane<b.hi\/b.vlo<0\/b.vhi<b.vlo\/zeR (zaK m b.lane)<b.vhi\/b.hold<0\/z8 m b.lane<b.hold
instance(m:zD)(b:zk):Decidable (ul m b):=by unfold ul;infer_instance
def zmM(p b:zk):Prop:=b.lane<p.lane\/(b.lane=p.lane/\b.lo<=p.hi+1)
instance(p b:zk):Decidable (zmM p b):=by unfold zmM;infer_instance
def zer(m:zD)(p b:zk):Int:=if b.lane<0\/(m.jf.length:Int)<=b.lane then 7 else if ul m b then 2 else if zmM p b then 11 else 0
def zls(m:zD):zk->List zk->Int
 |_,[]=>0
 |p,b::r=>if zer m p b≠0 then zer m p b else zls m b r
theorem ziC(n lo hi:Int):R L Cs zrd [W n,W lo,W hi] []=some (.w (Bo (decide (lo<=n)&&decide (n<=hi))),[]):=by
 rw[zUa zrT rfl];by_cases h:lo<=n
 ·simp[zgJ,h]
 ·simp[zgJ,h]
section
variable{m:zD}(h:zcp m)(k:zci)
abbrev ckM(m:zD)(k:zci)(v:Nat)(p:zk):Mem:=[bx 5 (zf m),bx 6 (zG k),bxv 1 4 (zch k.ego),bxv v 6 (ze p)]
abbrev ckE(k:zci)(i:Nat):Env:=[(62,.w (W k.ju.length)),(61,.w (.c (.jc (zI k.ju)))),(7,.w (Pt 3)),(2,.w (Pt 0)),(63,.w (W i))]
include h in
theorem zw8(hk:k.ju.length<=100000000000)(i:Nat)(hi:i<k.ju.length)(p:zk)(v:Nat)(hp:-1<=p.lane/\0<=p.hi/\p.hi<=1000000) :
  (zer m p k.ju[i]=0->Y L Cs zTe (some [62,61,7,2,63]) 4 (ckE k i) (ckM m k v p)=Y L Cs zTe (some [62,61,7,2,63]) 4 (ckE k (i+1)) (ckM m k (v+1) k.ju[i])) /\
  (zer m p k.ju[i]≠0->Y L Cs zTe (some [62,61,7,2,63]) 4 (ckE k i) (ckM m k v p)=some (.ret,[(4,.w (W (zer m p k.ju[i])))],ckM m k v p++[bxv 1 6 (ze k.ju[i])])):=by
 have hw:=zB (i:=i) (by omega);generalize hb:k.ju[i]=b;obtain⟨bl,lo,hi',vlo,vhi,hold⟩:=b;have hpw:=qc (p.hi+1);by_cases c1:bl<0
 ·have e:zer m p ⟨bl,lo,hi',vlo,vhi,hold⟩=7:=by simp[zer,c1]
  rw[e];refine⟨fun h=>(by cases h),fun _=>?_⟩;rw[zj zTe.eq_1];simp[hi,hb,ze,c1]
 by_cases c2:(m.jf.length:Int)<=bl
 ·have e:zer m p ⟨bl,lo,hi',vlo,vhi,hold⟩=7:=by simp[zer,c2]
  rw[e];refine⟨fun h=>(by cases h),fun _=>?_⟩;rw[zj zTe.eq_1];simp[hi,hb,ze,c1,c2,zf]
 obtain⟨n,rfl⟩:=js (show 0<=bl by omega);have hn:n<m.jf.length:=by omega
 have hL:=zrQ h hn;have hB:=zmo (h.kind _ (je hn));have eL:z8 m (n:Int)=m.jf[n].len:=by simp[z8,hn]
 have eK:zaK m (n:Int)=m.jf[n].kind:=by simp[zaK,hn]
 have hl1:=h.len1 _ (je hn);have hW:=ziC hold 0 m.jf[n].len;generalize k8:m.jf[n]=ln at *;simp only[zf]at hL;have c1':¬((n:Int)<0):=by omega
 have vr:ul m ⟨(n:Int),lo,hi',vlo,vhi,hold⟩->zer m p ⟨(n:Int),lo,hi',vlo,vhi,hold⟩=2:=fun ho=>by
  unfold zer;rw[if_neg (by simp;omega),if_pos ho]
 by_cases d1:lo<0
 ·have e:=vr (by simp only[ul,eL,eK];omega);rw[e];refine⟨fun h=>(by cases h),fun _=>?_⟩;rw[zj zTe.eq_1];simp[hi,hb,ze,c1',c2,hn,k8,zf,zo,zG,hL,hB,hW,d1]
 by_cases d2:hi'<lo
 ·have e:=vr (by simp only[ul,eL,eK];omega);rw[e];refine⟨fun h=>(by cases h),fun _=>?_⟩;rw[zj zTe.eq_1];simp[hi,hb,ze,c1',c2,hn,k8,zf,zo,zG,hL,hB,hW,d1,d2]
 by_cases d3:ln.len<hi'
 ·have e:=vr (by simp only[ul,eL,eK];omega);rw[e];refine⟨fun h=>(by cases h),fun _=>?_⟩;rw[zj zTe.eq_1];simp[hi,hb,ze,c1',c2,hn,k8,zf,zo,zG,hL,hB,hW,d1,d2,d3]
 by_cases d4:vlo<0
 ·have e:=vr (by simp only[ul,eL,eK];omega);rw[e];refine⟨fun h=>(by cases h),fun _=>?_⟩;rw[zj zTe.eq_1];simp[hi,hb,ze,c1',c2,hn,k8,zf,zo,zG,hL,hB,hW,d1,d2,d3,d4]
 by_cases d5:vhi<vlo
 ·have e:=vr (by simp only[ul,eL,eK];omega);rw[e];refine⟨fun h=>(by cases h),fun _=>?_⟩;rw[zj zTe.eq_1];simp[hi,hb,ze,c1',c2,hn,k8,zf,zo,zG,hL,hB,hW,d1,d2,d3,d4,d5]
 by_cases d6:zeR ln.kind<vhi
 ·have e:=vr (by simp only[ul,eL,eK];omega);rw[e];refine⟨fun h=>(by cases h),fun _=>?_⟩;rw[zj zTe.eq_1];simp[hi,hb,ze,c1',c2,hn,k8,zf,zo,zG,hL,hB,hW,d1,d2,d3,d4,d5,d6]
 by_cases d7:hold<0
 ·have e:=vr (by simp only[ul,eL,eK];omega);rw[e];refine⟨fun h=>(by cases h),fun _=>?_⟩;rw[zj zTe.eq_1];simp[hi,hb,ze,c1',c2,hn,k8,zf,zo,zG,hL,hB,hW,d1,d2,d3,d4,d5,d6,d7]
 by_cases d8:ln.len<hold
 ·have e:=vr (by simp only[ul,eL,eK];omega);rw[e];refine⟨fun h=>(by cases h),fun _=>?_⟩;rw[zj zTe.eq_1];simp[hi,hb,ze,c1',c2,hn,k8,zf,zo,zG,hL,hB,hW,d1,d2,d3,d4,d5,d6,d7,d8]
 have e0:¬ul m ⟨(n:Int),lo,hi',vlo,vhi,hold⟩:=by simp only[ul,eL,eK];omega
 have g1:(0:Int)<=hold:=by omega
 have g2:hold<=ln.len:=by omega
 by_cases o1:(n:Int)<p.lane
 ·have e:zer m p ⟨(n:Int),lo,hi',vlo,vhi,hold⟩=11:=by
   unfold zer;rw[if_neg (by simp;omega),if_neg e0,if_pos (by unfold zmM;simp;omega)]
  rw[e];refine⟨fun h=>(by cases h),fun _=>?_⟩;rw[zj zTe.eq_1];simp[hi,hb,ze,c1',c2,hn,k8,zf,zo,zG,hL,hB,hW,d1,d2,d3,d4,d5,d6,d7,d8,g1,g2,o1]
 by_cases o2:(n:Int)=p.lane
 ·have o2':p.lane=(n:Int):=o2.symm;by_cases o3:lo<=p.hi+1
  ·have e:zer m p ⟨(n:Int),lo,hi',vlo,vhi,hold⟩=11:=by
    unfold zer;rw[if_neg (by simp;omega),if_neg e0,if_pos (by unfold zmM;simp;omega)]
   rw[e];refine⟨fun h=>(by cases h),fun _=>?_⟩;rw[zj zTe.eq_1];simp[hi,hb,ze,c1',c2,hn,k8,zf,zo,zG,hL,hB,hW,d1,d2,d3,d4,d5,d6,d7,d8,g1,g2,o2',o3,hpw]
  ·have e:zer m p ⟨(n:Int),lo,hi',vlo,vhi,hold⟩=0:=by
    unfold zer;rw[if_neg (by simp;omega),if_neg e0,if_neg (by unfold zmM;simp;omega)]
   rw[e];refine⟨fun _=>?_,fun h=>(absurd rfl h)⟩;rw[zj zTe.eq_1];simp[hi,hb,ze,c1',c2,hn,k8,zf,zo,zG,hL,hB,hW,d1,d2,d3,d4,d5,d6,d7,d8,g1,g2,o2',o3,hpw,hw,ckE,ckM]
 ·have e:zer m p ⟨(n:Int),lo,hi',vlo,vhi,hold⟩=0:=by
   unfold zer;rw[if_neg (by simp;omega),if_neg e0,if_neg (by unfold zmM;simp;omega)]
  rw[e];have b2:((n:Int)==p.lane)=false:=by simp[o2]
  refine⟨fun _=>?_,fun h=>(absurd rfl h)⟩;rw[zj zTe.eq_1];simp[hi,hb,ze,c1',c2,hn,k8,zf,zo,zG,hL,hB,hW,d1,d2,d3,d4,d5,d6,d7,d8,g1,g2,o1,o2,b2,hw,ckE,ckM]
end
abbrev zsa:Int:=1099511627776
def ziI(k:zci):Prop:=k.tick<0\/zsa<k.tick\/k.ego.slo<0\/k.ego.shi<k.ego.slo\/zsa<k.ego.shi\/k.ego.vlo<0\/k.ego.vhi<k.ego.vlo\/2000<k.ego.vhi
instance(k:zci):Decidable (ziI k):=by unfold ziI;infer_instance
def zdf(m:zD)(k:zci):Int:=if ziI k then 2 else zls m zqY k.ju
theorem zui{m:zD}(h:zcp m){p b:zk}(hc:zer m p b=0):0<=b.lane/\b.lane<m.jf.length/\0<=b.lo/\b.lo<=b.hi/\b.hi<=z8 m b.lane/\0<=b.vlo/\b.vlo<=b.vhi/\b.vhi<=zeR (zaK m b.lane)/\0<=b.hold/\b.hold<=z8 m b.lane/\z8 m b.lane<=1000000/\¬zmM p b:=by
 unfold zer at hc;split at hc
 ·cases hc
 rename_i h1;split at hc
 ·cases hc
 rename_i h2;split at hc
 ·cases hc
 rename_i h3;unfold ul at h2;obtain⟨n,hn⟩:=js (show 0<=b.lane by omega);have hl:n<m.jf.length:=by omega
 have hl1:=h.len1 _ (je hl);have e:z8 m b.lane=m.jf[n].len:=by rw[hn];simp[z8,hl]
 refine⟨by omega,by omega,by omega,by omega,by omega,by omega,by omega,by omega,by omega,by omega,by omega,h3⟩
theorem zw9{m:zD}(h:zcp m)(k:zci)(hk:k.ju.length<=100000000000):∀(r:List zk) (i:Nat) (p:zk) (v:Nat),k.ju.drop i=r->i<=k.ju.length->(-1<=p.lane/\0<=p.hi/\p.hi<=1000000) ->
  ∃M' E',Y L Cs zTe (some [62,61,7,2,63]) 4 (ckE k i) (ckM m k v p)=some (if zls m p r=0 then(.exit 0,E',M') else(.ret,[(4,.w (W (zls m p r)))],M')):=by
 intro r;induction r with
 |nil =>
  intro i p v hd hi hp;obtain rfl:=zUb hd hi;refine⟨ckM m k v p,[(64,.w (Bo false)),(2,.w (Pt 0)),(7,.w (Pt 3)),(61,.w (.c (.jc (zI k.ju)))),(62,.w (W k.ju.length)),(63,.w (W k.ju.length))],?_⟩;rw[zj zTe.eq_1];simp[zls]
 |cons b r ih =>
  intro i p v hd hi hp;obtain⟨hil,hb,hd'⟩:=zL hd;obtain⟨s1,s2⟩:=zw8 h k hk i hil p v hp;rw[hb]at s1 s2;by_cases hc:zer m p b=0
  ·have ho:=zui h hc;obtain⟨M',E',h4⟩:=ih (i+1) b (v+1) hd' hil (by omega);refine⟨M',E',?_⟩;rw[s1 hc,h4];simp[zls,hc]
  ·refine⟨ckM m k v p++[bxv 1 6 (ze b)],[],?_⟩;rw[s2 hc];simp[zls,hc]
theorem zuu{m:zD}(h:zcp m)(k:zci)(hk:k.ju.length<=100000000000):R L Cs zsg [.a (zf m),.a (zG k)] []=some (.w (W (zdf m k)),[]):=by
 have hck:=h.chk;obtain⟨M',E',hl⟩:=zw9 h k hk k.ju 0 zqY 1 rfl (jE _) (by decide);have hW:=ziC k.tick 0 zsa;simp only[ckE,ckM,zf,zG,ze,ji,bx,bxv,zch]at hl hck;rw[zUa zss rfl];by_cases d1:k.tick<0
 ·have e:zdf m k=2:=by rw[zdf,if_pos (by unfold ziI;omega)]
  have d1':¬(0:Int)<=k.tick:=by omega
  simp[zbJ,zf,zG,hck,hW,e,d1,d1']
 by_cases d2:zsa<k.tick
 ·have e:zdf m k=2:=by rw[zdf,if_pos (by unfold ziI;omega)]
  have d2':¬k.tick<=zsa:=by omega
  simp[zbJ,zf,zG,hck,hW,e,d1,d2,d2']
 have g1:(0:Int)<=k.tick:=by omega
 have g2:k.tick<=zsa:=by omega
 by_cases d3:k.ego.slo<0
 ·have e:zdf m k=2:=by rw[zdf,if_pos (by unfold ziI;omega)]
  simp[zbJ,zf,zG,hck,hW,e,d1,d2,g1,g2,d3]
 by_cases d4:k.ego.shi<k.ego.slo
 ·have e:zdf m k=2:=by rw[zdf,if_pos (by unfold ziI;omega)]
  simp[zbJ,zf,zG,hck,hW,e,d1,d2,g1,g2,d3,d4]
 by_cases d5:zsa<k.ego.shi
 ·have e:zdf m k=2:=by rw[zdf,if_pos (by unfold ziI;omega)]
  simp[zbJ,zf,zG,hck,hW,e,d1,d2,g1,g2,d3,d4,d5]
 by_cases d6:k.ego.vlo<0
 ·have e:zdf m k=2:=by rw[zdf,if_pos (by unfold ziI;omega)]
  simp[zbJ,zf,zG,hck,hW,e,d1,d2,g1,g2,d3,d4,d5,d6]
 by_cases d7:k.ego.vhi<k.ego.vlo
 ·have e:zdf m k=2:=by rw[zdf,if_pos (by unfold ziI;omega)]
  simp[zbJ,zf,zG,hck,hW,e,d1,d2,g1,g2,d3,d4,d5,d6,d7]
 by_cases d8:2000<k.ego.vhi
 ·have e:zdf m k=2:=by rw[zdf,if_pos (by unfold ziI;omega)]
  simp[zbJ,zf,zG,hck,hW,e,d1,d2,g1,g2,d3,d4,d5,d6,d7,d8]
 have e:zdf m k=zls m zqY k.ju:=by rw[zdf,if_neg (by unfold ziI;omega)]
 rw[e];by_cases hz:zls m zqY k.ju=0
 ·rw[if_pos hz]at hl;rw[hz];simp[zbJ,zf,zG,hck,hW,hl,d1,d2,g1,g2,d3,d4,d5,d6,d7,d8,-leave];exact zid rfl rfl
 ·rw[if_neg hz]at hl;simp[zbJ,zf,zG,hck,hW,hl,d1,d2,g1,g2,d3,d4,d5,d6,d7,d8,-leave];exact zid rfl rfl
abbrev bad(b:zk):Bool:=decide (b.hi<b.lo)
abbrev z9:zk:=⟨0,0,0,0,0,0⟩
@[simp] theorem zCd(l:List zk)(k:Nat):(zI l).take k=zI (l.take k):=by simp[zI,List.map_take]
@[simp] theorem zCx(l:List zk)(k:Nat):(zI l).drop k=zI (l.drop k):=by simp[zI,List.map_drop]
@[simp] theorem zCv(k:Nat):List.replicate k [I 0,I 0,I 0,I 0,I 0,I 0]=zI (List.replicate k z9):=by simp[zI,ze]
structure OKB(b:zk):Prop where
 lo1:-9223372036854775808<=b.lo
 lo2:b.lo<=9223372036854775807
 hi1:-9223372036854775808<=b.hi
 hi2:b.hi<=9223372036854775807
def ltB(a b:zk):Bool:=decide (a.lane<b.lane)||(decide (a.lane=b.lane)&&decide (a.lo<b.lo))
theorem zoc(a b:zk):zbM [false,false,false,false,false,false] (ze a) (ze b)=some (decide (a=b)):=by
 obtain⟨a1,a2,a3,a4,a5,a6⟩:=a;obtain⟨b1,b2,b3,b4,b5,b6⟩:=b;simp only[ze,zbM,zue,if_true];by_cases h1:a1=b1<;>by_cases h2:a2=b2<;>by_cases h3:a3=b3<;>by_cases h4:a4=b4<;>by_cases h5:a5=b5<;>by_cases h6:a6=b6<;>simp[h1,h2,h3,h4,h5,h6]
theorem zqi{α:Type}[DecidableEq α]:∀{a b:List α},a.length=b.length->((a.zip b).any fun x=>decide (x.1≠x.2)) = !decide (a=b)
 |[],[],_=>rfl
 |x::a,y::b,h=>by
  have:=zqi (a:=a) (b:=b) (by simpa using h);simp only[uO,List.any_cons,this];by_cases h1:x=y<;>by_cases h2:a=b<;>simp[h1,h2]
 |[],_::_,h=>by simp at h
 |_::_,[],h=>by simp at h
theorem ztF(a b:zci)(hl:a.ju.length=b.ju.length)(ha:a.ju.length<=100000000000) :
  Y L Cs zb8 (some [2,3,5]) 2 [(2,.w (Pt 0)),(3,.w (Pt 1)),(5,.w (W 0))] [bx 6 (zG a),bx 6 (zG b)] =
    some (if(a.ju.zip b.ju).any fun x=>decide (x.1≠x.2) then(.ret,[(4,.w (Bo false))],[bx 6 (zG a),bx 6 (zG b)])
     else(.exit 0,[(31,.w (Bo false)),(3,.w (Pt 1)),(2,.w (Pt 0)),(5,.w (W a.ju.length))],[bx 6 (zG a),bx 6 (zG b)])):=by
 have hz:(a.ju.zip b.ju).length=a.ju.length:=by simp[hl]
 refine zpE (a.ju.zip b.ju) (fun i=>[(2,.w (Pt 0)),(3,.w (Pt 1)),(5,.w (W i))]) _ _ _ _ ?_ ?_ ?_
 ·intro i h hp;have hi:i<a.ju.length:=by omega
  have hj:i<b.ju.length:=by omega
  have hw:=zB (i:=i) (by omega);simp at hp;rw[zj zb8.eq_1];simp[zG,hi,hj,hw,zoc,hp]
 ·intro i h hp;have hi:i<a.ju.length:=by omega
  have hj:i<b.ju.length:=by omega
  simp at hp;rw[zj zb8.eq_1];simp[zG,hi,hj,zoc,hp]
 ·rw[hz,zj zb8.eq_1];simp[zG]
def zlN(a b:zci):Bool:=decide (a.tick=b.tick)&&decide (a.ego=b.ego)&&decide (a.ju=b.ju)
theorem ztl(a b:zci)(ha:a.ju.length<=100000000000):R L Cs zll [.a (zG a),.a (zG b)] []=some (.w (Bo (zlN a b)),[]):=by
 rw[zUa zlB rfl];obtain⟨t,l,⟨e1,e2,e3,e4⟩⟩:=a;obtain⟨t',l',⟨e1',e2',e3',e4'⟩⟩:=b;by_cases ht:t=t'
 ·by_cases h1:e1=e1'
  ·by_cases h2:e2=e2'
   ·by_cases h3:e3=e3'
    ·by_cases h4:e4=e4'
     ·by_cases hl:l.length=l'.length
      ·have h:=ztF ⟨t,l,⟨e1,e2,e3,e4⟩⟩ ⟨t',l',⟨e1',e2',e3',e4'⟩⟩ hl ha;rw[zqi hl]at h;simp only[zG,bx]at h;by_cases h5:l=l'
       ·simp[h5,ht,h1,h2,h3,h4]at h;simp[zaE,zG,zlN,ht,h1,h2,h3,h4,h5,h]
       ·simp[h5,ht,h1,h2,h3,h4]at h;simp[zaE,zG,zlN,ht,h1,h2,h3,h4,h5,h,hl]
      ·have h5:l≠l':=fun h=>hl (by rw[h])
       have hl':¬((l.length:Int)=(l'.length:Int)):=by omega
       simp[zaE,zG,zlN,ht,h1,h2,h3,h4,h5,hl,hl']
     ·have hb:(e4==e4')=false:=by simp[h4]
      simp[zaE,zG,zlN,ht,h1,h2,h3,h4,hb]
    ·have hb:(e3==e3')=false:=by simp[h3]
     simp[zaE,zG,zlN,ht,h1,h2,h3,hb]
   ·have hb:(e2==e2')=false:=by simp[h2]
    simp[zaE,zG,zlN,ht,h1,h2,hb]
  ·have hb:(e1==e1')=false:=by simp[h1]
   simp[zaE,zG,zlN,ht,h1,hb]
 ·have hb:(t !=t')=true:=by simp[ht]
  simp[zaE,zG,zlN,ht,hb]
theorem zy2:zaH L Cs 400 zgD [] []=some (.w (.c (.bool true)),[]):=by kernel_rfl
theorem zBZ:R L Cs zgD [] []=some (.w (Bo true),[]):=zah.2 ⟨400,zy2⟩
def zjD(l:List zk):Nat->zk
 |0=>zqY
 |i+1=>l.getD i z9
theorem zvS{m:zD}(h:zcp m)(l:List zk)(hl:l.length<=100000000000)(i:Nat)(hi:i<l.length)(hr:OKB l[i]):R L Cs zio [.a (zf m),.c (.jc (zI l)),W i] []=some (.w (W (zer m (zjD l i) l[i])),[]):=by
 generalize hp:zjD l i=p;generalize hb:l[i]=b;rw[hb]at hr;obtain⟨bl,lo,hi',vlo,vhi,hold⟩:=b;rw[zUa ziG rfl];by_cases c1:bl<0
 ·have e:zer m p ⟨bl,lo,hi',vlo,vhi,hold⟩=7:=by simp[zer,c1]
  simp[zF,hi,hb,ze,c1,e,zf]
 by_cases c2:(m.jf.length:Int)<=bl
 ·have e:zer m p ⟨bl,lo,hi',vlo,vhi,hold⟩=7:=by simp[zer,c2]
  simp[zF,hi,hb,ze,c1,c2,e,zf]
 obtain⟨n,rfl⟩:=js (show 0<=bl by omega);have hn:n<m.jf.length:=by omega
 have hL:=zA3 h hn;have hB:=zhv (h.kind _ (je hn));have eL:z8 m (n:Int)=m.jf[n].len:=by simp[z8,hn]
 have eK:zaK m (n:Int)=m.jf[n].kind:=by simp[zaK,hn]
 generalize k8:m.jf[n]=ln at *;simp only[zf]at hL;have c1':¬((n:Int)<0):=by omega
 have vr:ul m ⟨(n:Int),lo,hi',vlo,vhi,hold⟩->zer m p ⟨(n:Int),lo,hi',vlo,vhi,hold⟩=2:=fun ho=>by
  unfold zer;rw[if_neg (by simp;omega),if_pos ho]
 by_cases d1:lo<0
 ·have e:=vr (by simp only[ul,eL,eK];omega);simp[zF,hi,hb,ze,c1',c2,hn,k8,zf,zo,hL,hB,e,d1]
 by_cases d2:hi'<lo
 ·have e:=vr (by simp only[ul,eL,eK];omega);simp[zF,hi,hb,ze,c1',c2,hn,k8,zf,zo,hL,hB,e,d1,d2]
 by_cases d3:ln.len<hi'
 ·have e:=vr (by simp only[ul,eL,eK];omega);simp[zF,hi,hb,ze,c1',c2,hn,k8,zf,zo,hL,hB,e,d1,d2,d3]
 by_cases d4:vlo<0
 ·have e:=vr (by simp only[ul,eL,eK];omega);simp[zF,hi,hb,ze,c1',c2,hn,k8,zf,zo,hL,hB,e,d1,d2,d3,d4]
 by_cases d5:vhi<vlo
 ·have e:=vr (by simp only[ul,eL,eK];omega);simp[zF,hi,hb,ze,c1',c2,hn,k8,zf,zo,hL,hB,e,d1,d2,d3,d4,d5]
 by_cases d6:zeR ln.kind<vhi
 ·have e:=vr (by simp only[ul,eL,eK];omega);simp[zF,hi,hb,ze,c1',c2,hn,k8,zf,zo,hL,hB,e,d1,d2,d3,d4,d5,d6]
 by_cases d7:hold<0
 ·have e:=vr (by simp only[ul,eL,eK];omega);simp[zF,hi,hb,ze,c1',c2,hn,k8,zf,zo,hL,hB,e,d1,d2,d3,d4,d5,d6,d7]
 by_cases d8:ln.len<hold
 ·have e:=vr (by simp only[ul,eL,eK];omega);simp[zF,hi,hb,ze,c1',c2,hn,k8,zf,zo,hL,hB,e,d1,d2,d3,d4,d5,d6,d7,d8]
 have e0:¬ul m ⟨(n:Int),lo,hi',vlo,vhi,hold⟩:=by simp only[ul,eL,eK];omega
 have hlw:IntKind.i64.wrap (lo-1)=lo-1:=zTd _ (by omega) (by have:lo<=9223372036854775807:=hr.lo2;omega);have e11:zmM p ⟨(n:Int),lo,hi',vlo,vhi,hold⟩->zer m p ⟨(n:Int),lo,hi',vlo,vhi,hold⟩=11:=fun ho=>by
  unfold zer;rw[if_neg (by simp;omega),if_neg e0,if_pos ho]
 have e00:¬zmM p ⟨(n:Int),lo,hi',vlo,vhi,hold⟩->zer m p ⟨(n:Int),lo,hi',vlo,vhi,hold⟩=0:=fun ho=>by
  unfold zer;rw[if_neg (by simp;omega),if_neg e0,if_neg ho]
 cases i with
 |zero =>
  simp only[zjD]at hp;have e:=e00 (by rw[<-hp];unfold zmM;simp<;>omega);simp[zF,hi,hb,ze,c1',c2,hn,k8,zf,zo,hL,hB,e,d1,d2,d3,d4,d5,d6,d7,d8]
 |succ i =>
  have hi2:i<l.length:=by omega
  have e1:l.getD i z9=l[i]:=by simp[hi2]
  simp only[zjD,e1]at hp;have hwi:IntKind.i64.wrap (i:Int)=(i:Int):=zTd _ (by omega) (by omega);have hg:(0:Int)<(i:Int)+1:=by omega
  have x1:(0:Int)<=(i:Int)+1:=by omega
  have x2:(i:Int)+1<(l.length:Int):=by omega
  have x3:((i:Int)+1).toNat=i+1:=by omega
  by_cases o1:(n:Int)<p.lane
  ·have e:=e11 (by unfold zmM;simp;omega);simp[zF,hi,hb,ze,c1',c2,hn,k8,zf,zo,hL,hB,e,d1,d2,d3,d4,d5,d6,d7,d8,hg,hi2,hp,hwi,x1,x2,x3,o1]
  by_cases o2:(n:Int)=p.lane
  ·have o2':p.lane=(n:Int):=o2.symm;by_cases o3:lo-1<=p.hi
   ·have e:=e11 (by unfold zmM;simp;omega);simp[zF,hi,hb,ze,c1',c2,hn,k8,zf,zo,hL,hB,e,d1,d2,d3,d4,d5,d6,d7,d8,hg,hi2,hp,hwi,x1,x2,x3,o2',o3,hlw]
   ·have e:=e00 (by unfold zmM;simp;omega);simp[zF,hi,hb,ze,c1',c2,hn,k8,zf,zo,hL,hB,e,d1,d2,d3,d4,d5,d6,d7,d8,hg,hi2,hp,hwi,x1,x2,x3,o2',o3,hlw]
  ·have e:=e00 (by unfold zmM;simp;omega);have b2:((n:Int)==p.lane)=false:=by simp[o2]
   simp[zF,hi,hb,ze,c1',c2,hn,k8,zf,zo,hL,hB,e,d1,d2,d3,d4,d5,d6,d7,d8,hg,hi2,hp,hwi,x1,x2,x3,o1,o2,b2]
theorem zwy(l:List zk)(i:Nat)(hi:i<l.length):zjD l (i+1)=l[i]:=by simp[zjD,hi]
theorem zr5{m:zD}(h:zcp m)(k:zci)(hk:k.ju.length<=100000000000)(hok:∀b∈k.ju,OKB b):∀(r:List zk) (i:Nat),k.ju.drop i=r->i<=k.ju.length ->
  ∃E',E'.get 5=some (.w (W (zls m (zjD k.ju i) r)))/\Y L Cs zaX (some [5,7,2,3]) 3 [(5,.w (W 0)),(7,.w (W i)),(2,.w (Pt 0)),(3,.w (Pt 1))] [bx 5 (zf m),bx 6 (zG k),bxv 1 4 (zch k.ego)]=some (.exit 0,E',[bx 5 (zf m),bx 6 (zG k),bxv 1 4 (zch k.ego)]):=by
 intro r;induction r with
 |nil =>
  intro i hd hi;obtain rfl:=zUb hd hi;refine⟨[(65,.w (Bo false)),(5,.w (W 0)),(7,.w (W k.ju.length)),(2,.w (Pt 0)),(3,.w (Pt 1))],by simp[Env.get,zls],?_⟩;rw[zj zaX.eq_1];simp[zG]
 |cons b r ih =>
  intro i hd hi;obtain⟨hil,hb,hd'⟩:=zL hd;have hw:=zB (i:=i) (by omega);have hc:=zvS h k.ju hk i hil (hok _ (je hil));rw[hb]at hc;have vh:∀e,zer m (zjD k.ju i) b=e->Y L Cs zaX (some [5,7,2,3]) 3 [(5,.w (W 0)),(7,.w (W i)),(2,.w (Pt 0)),(3,.w (Pt 1))] [bx 5 (zf m),bx 6 (zG k),bxv 1 4 (zch k.ego)]=Y L Cs zaX (some [5,7,2,3]) 3 [(5,.w (W e)),(7,.w (W (i+1:Nat))),(2,.w (Pt 0)),(3,.w (Pt 1))] [bx 5 (zf m),bx 6 (zG k),bxv 1 4 (zch k.ego)]:=by
   intro e he;rw[he]at hc;simp only[zf]at hc;rw[zj zaX.eq_1];simp[hil,zG,zf,hc,hw]
  by_cases hz:zer m (zjD k.ju i) b=0
  ·obtain⟨E',h1,h2⟩:=ih (i+1) hd' hil;rw[zwy _ _ hil,hb]at h1;refine⟨E',by rw[h1,zls,if_neg (by simp[hz])],?_⟩;rw[vh 0 hz,h2]
  ·refine⟨[(65,.w (Bo false)),(5,.w (W (zer m (zjD k.ju i) b))),(7,.w (W (i+1:Nat))),(2,.w (Pt 0)),(3,.w (Pt 1))],by simp[Env.get,zls,hz],?_⟩;have hz':(zer m (zjD k.ju i) b==0)=false:=by simp[hz]
   rw[vh _ rfl,zj zaX.eq_1];generalize zer m (zjD k.ju i) b=e at *;by_cases hlt:(i:Int)+1<k.ju.length
   ·have yL:i+1<k.ju.length:=by omega
    simp[zG,hz,hz',hlt,yL]
   ·have yL:¬i+1<k.ju.length:=by omega
    simp[zG,hlt,yL]
theorem zxh{m:zD}(h:zcp m)(k:zci)(hk:k.ju.length<=100000000000)(hok:∀b∈k.ju,OKB b):R L Cs zkF [.a (zf m),.a (zG k)] []=some (.w (W (zdf m k)),[]):=by
 have hck:=h.yc;obtain⟨E',hg,hl⟩:=zr5 h k hk hok k.ju 0 rfl (jE _);simp only[zf,zG,ji,bx,bxv,zch,zjD]at hl hck hg;rw[zUa zk4 rfl];by_cases d1:k.tick<0
 ·have e:zdf m k=2:=by rw[zdf,if_pos (by unfold ziI;omega)]
  simp[zaj,zf,zG,hck,e,d1]
 by_cases d2:zsa<k.tick
 ·have e:zdf m k=2:=by rw[zdf,if_pos (by unfold ziI;omega)]
  simp[zaj,zf,zG,hck,e,d1,d2]
 by_cases d3:k.ego.slo<0
 ·have e:zdf m k=2:=by rw[zdf,if_pos (by unfold ziI;omega)]
  simp[zaj,zf,zG,hck,e,d1,d2,d3]
 by_cases d4:k.ego.shi<k.ego.slo
 ·have e:zdf m k=2:=by rw[zdf,if_pos (by unfold ziI;omega)]
  simp[zaj,zf,zG,hck,e,d1,d2,d3,d4]
 by_cases d5:zsa<k.ego.shi
 ·have e:zdf m k=2:=by rw[zdf,if_pos (by unfold ziI;omega)]
  simp[zaj,zf,zG,hck,e,d1,d2,d3,d4,d5]
 by_cases d6:k.ego.vlo<0
 ·have e:zdf m k=2:=by rw[zdf,if_pos (by unfold ziI;omega)]
  simp[zaj,zf,zG,hck,e,d1,d2,d3,d4,d5,d6]
 by_cases d7:k.ego.vhi<k.ego.vlo
 ·have e:zdf m k=2:=by rw[zdf,if_pos (by unfold ziI;omega)]
  simp[zaj,zf,zG,hck,e,d1,d2,d3,d4,d5,d6,d7]
 by_cases d8:2000<k.ego.vhi
 ·have e:zdf m k=2:=by rw[zdf,if_pos (by unfold ziI;omega)]
  simp[zaj,zf,zG,hck,e,d1,d2,d3,d4,d5,d6,d7,d8]
 have e:zdf m k=zls m zqY k.ju:=by rw[zdf,if_neg (by unfold ziI;omega)]
 rw[e];simp[zaj,zf,zG,hck,hl,hg,d1,d2,d3,d4,d5,d6,d7,d8]
@[simp] theorem zwl(a:zci):zlN a a=true:=by simp[zlN]
abbrev zmN:Sh:=.int .i64
abbrev zAF:Sh:=.st [zmN,zmN,zmN,zmN,zmN,zmN]
abbrev zCg:Sh:=.st [zmN,.slice zAF,.st [zmN,zmN,zmN,zmN]]
def zk0(n:Int):Prop:=-9223372036854775808<=n/\n<=9223372036854775807
structure RB(b:zk):Prop where
 lane:zk0 b.lane
 lo:zk0 b.lo
 hi:zk0 b.hi
 vlo:zk0 b.vlo
 vhi:zk0 b.vhi
 hold:zk0 b.hold
theorem RB.ok{b:zk}(h:RB b):OKB b:=⟨h.lo.1,h.lo.2,h.hi.1,h.hi.2⟩
theorem zBQ{r:List Cl}(h:zfo zAF r):∃b,r=ze b/\RB b:=by
 simp only[zfo,znD]at h;obtain⟨_,_,rfl,⟨a1,rfl,q1⟩,_,_,rfl,⟨a2,rfl,q2⟩,_,_,rfl,⟨a3,rfl,q3⟩,_,_,rfl,⟨a4,rfl,q4⟩,_,_,rfl,⟨a5,rfl,q5⟩,_,_,rfl,⟨a6,rfl,q6⟩,rfl⟩:=h;exact⟨⟨a1,a2,a3,a4,a5,a6⟩,rfl,⟨q1,q2,q3,q4,q5,q6⟩⟩
theorem zvE:∀{rows:List (List Cl)},(∀r∈rows,zfo zAF r)->∃l,rows=zI l/\∀b∈l,RB b
 |[],_=>⟨[],rfl,by simp⟩
 |r::rows,h=>by
  obtain⟨b,rfl,hb⟩:=zBQ (h r (jw ..));obtain⟨l,rfl,hl⟩:=zvE fun x hx=>h x (jt _ hx)
  refine⟨b::l,rfl,fun x hx=>?_⟩;rcases jx.1 hx with rfl|hx
  ·exact hb
  ·exact hl x hx
structure RK(k:zci):Prop where
 tick:zk0 k.tick
 ju:∀b∈k.ju,RB b
 slo:zk0 k.ego.slo
 shi:zk0 k.ego.shi
 vlo:zk0 k.ego.vlo
 vhi:zk0 k.ego.vhi
theorem zBG{cs:List Cl}(h:zfo zCg cs):∃k,cs=zG k/\RK k:=by
 simp only[zfo,znD]at h;obtain⟨_,_,rfl,⟨t,rfl,qt⟩,_,_,rfl,⟨rows,rfl,_,vn⟩,_,_,rfl,⟨_,_,rfl,⟨a1,rfl,q1⟩,_,_,rfl,⟨a2,rfl,q2⟩,_,_,rfl,⟨a3,rfl,q3⟩,_,_,rfl,⟨a4,rfl,q4⟩,rfl⟩,rfl⟩:=h;obtain⟨l,rfl,hl⟩:=zvE (rows:=rows) (fun r hr=>by
  have:=vn r hr;simp only[zfo,znD];exact this)
 exact⟨⟨t,l,a1,a2,a3,a4⟩,rfl,⟨qt,hl,q1,q2,q3,q4⟩⟩
theorem zEC{m:zD}(h:zcp m):∀(r:List Int) (a:Int),zj2 m r->0<=a->0<=zmd m a r/\zmd m a r<=a+r.length*1000000
 |[],a,_,ha=>by simp[zmd];exact ha
 |x::r,a,hon,ha=>by
  have hle:=zcX h (hon x (by simp));have:=zEC h r (a+z8 m x) (fun y hy=>hon y (by simp[hy])) (by omega);simp only[zmd,jM];omega
theorem zEn(n k:Int)(hk:0<k):n % k=if n.tmod k<0 then n.tmod k+k else n.tmod k:=by
 have h1:=qJ n (show k≠0 by omega);have h2:=qg n hk;have h:=@Int.tmod_eq_emod n k;have h3:(k.natAbs:Int)=k:=by omega
 split at h
 ·simp at h;rw[h];split<;>omega
 ·rw[h3]at h;rw[h];split<;>omega
theorem zEW(n k:Int)(hk:0<k)(hk2:k<=4000000000000000000):R L Cs zny [W n,W k] []=some (.w (W (n % k)),[]):=by
 rw[zUa znH rfl];have he:=zEn n k hk;have hb:=qg n hk;have hb0:=qJ n (show k≠0 by omega);have hz:(k==0)=false:=beq_false_of_ne (by omega);have hz':k≠0:=by omega
 by_cases h:n.tmod k<0
 ·rw[if_pos h]at he;have e:IntKind.i64.wrap (n.tmod k+k)=n % k:=by rw[<-he];exact zTd _ (by omega) (by omega)
  simp[zeK,h,e,hz,hz']
 ·rw[if_neg h]at he;rw[he]at *;simp[zeK,h,hz,hz']
theorem zD0(n k:Int)(hk:0<k)(hk2:k<=4000000000000000000):R L Cs zEd [W n,W k] []=some (.w (W (n % k)),[]):=by
 rw[zUa zEh rfl];have he:=zEn n k hk;have hb:=qg n hk;have hb0:=qJ n (show k≠0 by omega);have hz:(k==0)=false:=beq_false_of_ne (by omega);have hz':k≠0:=by omega
 by_cases h:n.tmod k<0
 ·rw[if_pos h]at he;have e:IntKind.i64.wrap (n.tmod k+k)=n % k:=by rw[<-he];exact zTd _ (by omega) (by omega)
  simp[zDP,h,e,hz,hz']
 ·rw[if_neg h]at he;rw[he]at *;simp[zDP,h,hz,hz']
theorem zDJ(a b:Int)(h:0<b):0<=a % b/\a % b<b:=⟨qJ _ (by omega),qg _ h⟩
theorem zEV{m:zD}(h:zcp m){x:Int}(hx:0<=x/\x<m.jf.length):R L Cs zDZ [.a (zf m),W x] []=some (.w (W (z8 m x)),[]):=by
 obtain⟨n,rfl⟩:=js hx.1;have hn:n<m.jf.length:=by omega
 have e:z8 m n=m.jf[n].len:=by simp[z8,hn]
 rw[e];exact zEQ h hn
theorem ztL{m:zD}(h:zcp m):∀(r:List zfn) (i:Nat) (out:List Int),m.jf.drop i=r->i<=m.jf.length->out.length<=i ->
  Y L Cs zbx (some [3,4,1]) 3 [(3,.w (.c (sl 2 1 (zu out)))),(4,.w (W i)),(1,.w (Pt 0))] [bx 5 (zf m),gb 1,some (own 1 (zu out))] =
    some (.exit 0,[(9,.w (Bo false)),(3,.w (.c (sl 2 1 (zu (out++zbK m i r))))),(4,.w (W m.jf.length)),(1,.w (Pt 0))],[bx 5 (zf m),gb 1,some (own 1 (zu (out++zbK m i r)))]):=by
 intro r;induction r with
 |nil =>
  intro i out hd hi ho;obtain rfl:=zUb hd hi;rw[zj zbx.eq_1];simp[zbK,zf]
 |cons l r ih =>
  intro i out hd hi ho;obtain⟨hil,hl,hd'⟩:=zL hd;have hn:=h.small.jf;have hw:=zB (i:=i) (by omega);have hb:=zpG m i (by omega) (fun l hl=>by have:=h.small.next l hl;omega);simp only[zf]at hb;have kj:(out.length+1)*8<=140737488355328:=by omega
  rw[zbK];by_cases he:zes i 0 m.jf=[]
  ·rw[if_pos he,show out++(i:Int)::zbK m (i+1) r=(out++[(i:Int)])++zbK m (i+1) r by simp,<-ih (i+1) (out++[(i:Int)]) hd' hil (by simp;omega),zj zbx.eq_1];rw[he]at hb;simp at hb;simp[hil,zf,hb,hw,kj,zg,zH]
  ·rw[if_neg he,<-ih (i+1) out hd' hil (by omega),zj zbx.eq_1];have hz:(((zes i 0 m.jf).length:Int)==0)=false:=by
    have:0<(zes i 0 m.jf).length:=jD.2 he;exact beq_false_of_ne (by omega)
   simp[hil,zf,hb,hw,he,hz,zg,zH]
theorem zzc{m:zD}(h:zcp m):R L Cs zjm [.a (zf m)] []=some (.w (.c (.jc (zu (zbK m 0 m.jf)))),[]):=by
 have hl:=ztL h m.jf 0 [] rfl (jE _) (jE _);simp only[zf,ji,jP,zay,sl,own,jL,zfq]at hl;rw[zUa zjy rfl];simp[zd0,zf,hl,zg]
theorem zv4{q:Nat}(h:q<2000000):IntKind.i64.wrap (q:Int)=(q:Int):=zTd _ (by omega) (by omega)
def zS(m:zD)(a:Int):List Int:=((m.jf[a.toNat]?).map zfn.next).getD []
def goR(m:zD):Nat->Int->Nat->List Int
 |0,_,_=>[]
 |f+1,a,n=>if(zS m a).length=0 then [] else(zS m a).getD (n % (zS m a).length) 0::goR m f ((zS m a).getD (n % (zS m a).length) 0) (n / (zS m a).length)
theorem zEZ(m:zD):∀(f:Nat) (a:Int) (n:Nat),(goR m f a n).length<=f
 |0,_,_=>by simp[goR]
 |f+1,a,n=>by
  unfold goR;split
  ·simp
  ·have:=zEZ m f ((zS m a).getD (n % (zS m a).length) 0) (n / (zS m a).length);rw[jM];omega
theorem zEL{m:zD}(h:zcp m):∀(f:Nat) (a:Int) (n:Nat) (out:List Int),out.length+f=8->0<=a->a<m.jf.length->n<2000000 ->
  ∃b t,Y L Cs zDH (some [6,1,7,2]) 3 [(6,.w (W a)),(1,.w (W n)),(7,.w (.c (sl 2 1 (zu out)))),(2,.w (Pt 0))] [bx 5 (zf m),gb 1,some (own 1 (zu out))] =
   some (.exit 0,[(41,.w (Bo false)),(6,.w (W b)),(1,.w (W t)),(7,.w (.c (sl 2 1 (zu (out++goR m f a n))))),(2,.w (Pt 0))],[bx 5 (zf m),gb 1,some (own 1 (zu (out++goR m f a n)))]):=by
 intro f;induction f with
 |zero =>
  intro a n out hf ha1 ha2 hn;obtain⟨j,rfl⟩:=js ha1;have hj:j<m.jf.length:=by omega
  refine⟨(j:Int),(n:Int),?_⟩;rw[zj zDH.eq_1];have h8:¬((out.length:Int)<8):=by omega
  by_cases c:0<m.jf[j].next.length
  ·simp[goR,zf,zo,hj,c,h8]
  ·simp[goR,zf,zo,hj,c]
 |succ f ih =>
  intro a n out hf ha1 ha2 hn;obtain⟨j,rfl⟩:=js ha1;have hj:j<m.jf.length:=by omega
  have h8:(out.length:Int)<8:=by omega
  have en:zS m (j:Int)=m.jf[j].next:=by simp[zS,hj]
  by_cases c:0<m.jf[j].next.length
  ·have hk:=h.small.next _ (je hj);have hm:n % m.jf[j].next.length<m.jf[j].next.length:=kW _ c;have hq:n / m.jf[j].next.length<=n:=Nat.div_le_self _ _;have hval:=h.small.valid _ (je hj) _ (je hm);rw[goR,en,if_neg (by omega)];have eg:m.jf[j].next.getD (n % m.jf[j].next.length) 0=m.jf[j].next[n % m.jf[j].next.length]:=by simp[jR,hm]
   rw[eg];obtain⟨b,t,hy⟩:=ih (m.jf[j].next[n % m.jf[j].next.length]) (n / m.jf[j].next.length) (out++[m.jf[j].next[n % m.jf[j].next.length]]) (by simp;omega) hval.1 hval.2 (by omega);refine⟨b,t,?_⟩;rw[show out++(m.jf[j].next[n % m.jf[j].next.length]::goR m f m.jf[j].next[n % m.jf[j].next.length] (n / m.jf[j].next.length))=(out++[m.jf[j].next[n % m.jf[j].next.length]])++goR m f m.jf[j].next[n % m.jf[j].next.length] (n / m.jf[j].next.length) by simp,<-hy,zj zDH.eq_1];clear ih hy;have e1:(n:Int).tmod (m.jf[j].next.length:Int)=((n % m.jf[j].next.length:Nat):Int):=by
    rw[j6 (by omega)];rfl
   have e2:(n:Int).tdiv (m.jf[j].next.length:Int)=((n / m.jf[j].next.length:Nat):Int):=by
    rw[kO (by omega)];rfl
   have e3:IntKind.i64.wrap ((n / m.jf[j].next.length:Nat):Int)=((n / m.jf[j].next.length:Nat):Int):=zv4 (by omega);have hz:((m.jf[j].next.length:Int)==0)=false:=beq_false_of_ne (by omega);have hz':(m.jf[j].next.length:Int)≠0:=by omega
   have hz'':m.jf[j].next≠[]:=jD.1 c;have kj:(out.length+1)*8<=140737488355328:=by omega
   generalize hq2:n / m.jf[j].next.length=q at *;generalize hm2:n % m.jf[j].next.length=p at *;generalize hln:m.jf[j]=ln at *;simp[zf,zo,hj,hln,c,h8,e1,e2,e3,hz,hz',hz'',hm,kj,zg,zH]
  ·refine⟨(j:Int),(n:Int),?_⟩;rw[goR,en,if_pos (by omega),zj zDH.eq_1];simp[zf,zo,hj,c]
def zsP(k:Nat)(r:Int):List Zon:=match k with
 |0=>[]
 |1=>[⟨[⟨0,28000,32000,r⟩,⟨1,18000,22000,2-2*r⟩],0⟩]
 |2=>[⟨[⟨0,28000,32000,r⟩,⟨1,18000,22000,2-2*r⟩],1⟩]
 |3=>[]
 |4=>[⟨[⟨0,25000,30000,1⟩,⟨1,20000,26000,0⟩,⟨2,0,5000,0⟩],0⟩]
 |5=>[⟨[⟨1,14000,16000,0⟩,⟨2,6000,10000,3⟩],0⟩]
 |_=>[⟨[⟨1,14000,18000,1⟩,⟨3,10000,14000,0⟩],if r=1 then 1 else 0⟩,⟨[⟨2,14000,21000,1⟩,⟨3,14500,23000,0⟩],if r=1 then 2 else 0⟩]
def sgP(o a b:Int):Sgn:=⟨o,[⟨12,[a]⟩,⟨5,[]⟩,⟨9,[b]⟩,⟨4,[]⟩]⟩
def ssP(k:Nat)(r o1 o2 o3:Int):List Sgn:=match k with
 |2=>[sgP o1 0 1]
 |6=>if r=1 then [sgP o2 1 3,sgP o3 2 3] else []
 |_=>[]
theorem zxQ(k:Nat)(hk:k<7)(r:Int):zO k r=zk8 (zsP k r):=by
 match k,hk with
 |0,_ |1,_ |2,_ |3,_ |4,_ |5,_ |6,_=>simp[zO,zsP,zk8,zdP,zfa,zkl,zeB,zdK]
theorem zzt(o a b:Int):zaY o a b=zeq (sgP o a b):=by simp[zaY,zeq,sgP,zje,zr6]
theorem zuN(k:Nat)(hk:k<7)(r o1 o2 o3:Int):zt k r o1 o2 o3=zjd (ssP k r o1 o2 o3):=by
 match k,hk with
 |0,_ |1,_ |3,_ |4,_ |5,_=>simp[zt,ssP,zjd]
 |2,_=>simp[zt,ssP,zjd,zzt]
 |6,_ =>
  simp only[zt,ssP];split<;>simp[zjd,zzt]
theorem zwk(o a b:Int):zvY (sgP o a b).kd:=⟨by simp[sgP],by simp[sgP],by simp[sgP],by simp[sgP]⟩
theorem zDs(k:Nat)(hk:k<7){lim r o1 o2 o3 v:Int}{ws:List zCP}(h:zp2 k lim r o1 o2 o3 v ws):Zd (zq k lim r o1 o2 o3 v ws) (zsP k r) (ssP k r o1 o2 o3) where
 z:=zxQ k hk r
 s:=zuN k hk r o1 o2 o3
 few:=by
  match k,hk with
  |0,_ |1,_ |2,_ |3,_ |4,_ |5,_ |6,_=>simp[zsP]
 sfew:=by
  match k,hk with
  |0,_ |1,_ |2,_ |3,_ |4,_ |5,_=>simp[ssP]
  |6,_=>simp only[ssP];split<;>simp
 sig:=by
  match k,hk with
  |0,_ |1,_ |2,_ |3,_ |4,_ |5,_=>simp[ssP,zsP]
  |6,_ =>
   rcases h.r with c|c<;>(subst c;simp[ssP,zsP])
 pfew:=by
  match k,hk with
  |0,_ |1,_ |2,_ |3,_ |4,_ |5,_ |6,_=>simp[zsP]
 ph:=by
  match k,hk with
  |0,_ |1,_ |3,_ |4,_ |5,_=>simp[ssP]
  |2,_=>simp[ssP];exact zwk _ _ _
  |6,_ =>
   simp only[ssP];split
   ·simp;exact⟨zwk _ _ _,zwk _ _ _⟩
   ·simp
theorem zDu(k:Nat)(hk:k<7)(r:Int):∀z∈zsP k r,(z.parts.map Prt.lane).Nodup:=by
 match k,hk with
 |0,_ |1,_ |2,_ |3,_ |4,_ |5,_ |6,_=>simp[zsP]
theorem zlX(ss:List Sgn)(lane tick:Int)(z:Zon):zff ss lane tick z=[]\/∃p,zjF z lane=some p/\zff ss lane tick z=[p.lo]:=by
 unfold zff;split
 ·exact .inl rfl
 ·split
  ·exact .inl rfl
  ·rename_i p hp;split
   ·exact .inl rfl
   ·exact .inr ⟨p,hp,rfl⟩
theorem zDl(k:Nat)(hk:k<7)(r o1 o2 o3 lane tick:Int):Asc ((zsP k r).flatMap (zff (ssP k r o1 o2 o3) lane tick)):=by
 have one:∀z,Asc ([z].flatMap (zff (ssP k r o1 o2 o3) lane tick)):=fun z=>by
  rcases zlX (ssP k r o1 o2 o3) lane tick z with h |⟨p,_,h⟩<;>simp[h]
 match k,hk with
 |0,_ |3,_=>simp[zsP]
 |1,_ |2,_ |4,_ |5,_=>exact one _
 |6,_ =>
  simp only[zsP,jF,List.flatMap_nil,ux];rcases zlX (ssP 6 r o1 o2 o3) lane tick ⟨[⟨1,14000,18000,1⟩,⟨3,10000,14000,0⟩],if r=1 then 1 else 0⟩with h |⟨p,hp,h⟩<;>rcases zlX (ssP 6 r o1 o2 o3) lane tick ⟨[⟨2,14000,21000,1⟩,⟨3,14500,23000,0⟩],if r=1 then 2 else 0⟩with h' |⟨p',hp',h'⟩
  ·simp[h,h']
  ·simp[h,h']
  ·simp[h,h']
  ·rw[h,h'];have e1:p.lane=lane/\(p.lo=14000/\p.lane=1\/p.lo=10000/\p.lane=3):=by
    have:=List.find?_some hp;have hm:=uR hp;simp at this hm;rcases hm with rfl|rfl<;>simp_all
   have e2:p'.lane=lane/\(p'.lo=14000/\p'.lane=2\/p'.lo=14500/\p'.lane=3):=by
    have:=List.find?_some hp';have hm:=uR hp';simp at this hm;rcases hm with rfl|rfl<;>simp_all
   simp;omega
structure zmX(m:zD):Prop where
 few:m.jf.length<=4
 nx:∀a,(zS m a).length<=2
 leaf:∀a,∀x∈zS m a,zS m x=[]
 up:∀a,∀x∈zS m a,a<x
 kn:∀a,∀x∈zS m a,zaK m x=zaK m a
theorem zyt{m:zD}{a:Int}(h:m.jf.length<=a.toNat):zS m a=[]:=by
 simp[zS,jz h]
theorem zCl(k:Nat)(hk:k<7)(lim r o1 o2 o3 v:Int)(ws:List zCP):zmX (zq k lim r o1 o2 o3 v ws):=by
 have key:∀a:Int,a.toNat=0\/a.toNat=1\/a.toNat=2\/a.toNat=3\/4<=a.toNat:=fun a=>by omega
 have few:(zq k lim r o1 o2 o3 v ws).jf.length<=4:=by
  match k,hk with
  |0,_ |1,_ |2,_ |3,_ |4,_ |5,_ |6,_=>simp[zq,zy]
 have out:∀a:Int,4<=a.toNat->zS (zq k lim r o1 o2 o3 v ws) a=[]:=fun a h=>zyt (by omega)
 refine⟨few,fun a=>?_,fun a=>?_,fun a=>?_,fun a=>?_⟩
 all_goals
  rcases key a with h|h|h|h|h
  case inr.inr.inr.inr=>simp[out a h]
 all_goals
  clear out few
  match k,hk with
  |0,_ |1,_ |2,_ |3,_ |4,_ |5,_ |6,_ =>
   first
    |(simp[zS,zq,zy,h,zQ];done)
    |(simp[zS,zq,zy,h,zQ];omega)
    |(simp[zS,zaK,zq,zy,h,zQ];done)
structure zmq(m:zD)(zs:List Zon)(ss:List Sgn):Prop where
 vA:zcp m
 one:zmp m
 shal:zmX m
 zd:Zd m zs ss
 asc:∀lane tick,Asc (zs.flatMap (zff ss lane tick))
 nd:∀z∈zs,(z.parts.map Prt.lane).Nodup
 pv:∀z∈zs,∀p∈z.parts,(0<=p.lane/\p.lane<m.jf.length)/\0<=p.lo/\p.lo<p.hi/\p.hi<=z8 m p.lane/\0<=p.uE/\p.uE<=100
theorem zDt(k:Nat)(hk:k<7){lim r o1 o2 o3 v:Int}{ws:List zCP}(h:zp2 k lim r o1 o2 o3 v ws):∀z∈zsP k r,∀p∈z.parts,(0<=p.lane/\p.lane<(zq k lim r o1 o2 o3 v ws).jf.length)/\0<=p.lo/\p.lo<p.hi/\p.hi<=z8 (zq k lim r o1 o2 o3 v ws) p.lane/\0<=p.uE/\p.uE<=100:=by
 have hr:=h.r
 match k,hk with
 |0,_ |3,_=>simp[zsP]
 |1,_ |2,_ |4,_ |5,_ |6,_=>simp[zsP,zq,zy,z8,zQ];try omega
theorem zCE(k:Nat)(hk:k<7){lim r o1 o2 o3 v:Int}{ws:List zCP}(h:zp2 k lim r o1 o2 o3 v ws):zmq (zq k lim r o1 o2 o3 v ws) (zsP k r) (ssP k r o1 o2 o3):=by
 refine⟨?_,?_,zCl k hk _ _ _ _ _ _ _,zDs k hk h,zDl k hk r o1 o2 o3,zDu k hk r,zDt k hk h⟩
 ·exact zTy k hk h
 ·match k,hk with
  |0,_=>exact zAd _ _ _ _ _ _ _
  |1,_=>exact zAc _ _ _ _ _ _ _
  |2,_=>exact zAb _ _ _ _ _ _ _
  |3,_=>exact zAa _ _ _ _ _ _ _
  |4,_=>exact zz9 _ _ _ _ _ _ _
  |5,_=>exact zz8 _ _ _ _ _ _ _
  |6,_=>exact zz7 _ _ _ _ _ _ _
theorem zA5(n:Int):∃k lim r o1 o2 o3 v ws,k<7/\zp2 k lim r o1 o2 o3 v ws/\R L Cs zY [W n] []=some (.w (.a (zf (zq k lim r o1 o2 o3 v ws))),[]):=by
 have hN:0<=n % 16777216/\n % 16777216<16777216:=by omega
 have h7:0<=(n % 16777216).tmod 7/\(n % 16777216).tmod 7<7:=by
  rw[j6 hN.1];omega
 have hr:=zE _ 28 2 hN (by decide) (by decide);have nu:=zBA n;exact⟨((n % 16777216).tmod 7).toNat,_,_,_,_,_,_,_,by omega,nu _ (by omega),zTw _ n (by omega) (by omega)⟩
def zgH(m:zD)(l:List Int)(act:Int):Int:=max (-zd4 (zaK m (l.getD 0 0))) (min act (zif (zaK m (l.getD 0 0))))
def zcD(m:zD)(l:List Int)(act v:Int):Int:=max 0 (min (v+zgH m l act) (zeR (zaK m (l.getD 0 0))))
def zaN(m:zD)(l:List Int)(e:Ego)(act:Int):Ego:=⟨e.slo+zcD m l act e.vlo,e.shi+zcD m l act e.vhi,zcD m l act e.vlo,zcD m l act e.vhi⟩
theorem zu9{m:zD}(h:zcp m){x:Int}(hx:0<=x/\x<m.jf.length):zaK m x=1\/zaK m x=2\/zaK m x=3:=by
 obtain⟨n,rfl⟩:=js hx.1;have hn:n<m.jf.length:=by omega
 have:=h.kind _ (je hn);simpa [zaK,hn]using this
def zb4(m:zD)(r:List Int)(i:Nat):Int:=(zW m 0 r).getD i 0
structure ziO(m:zD)(r:List Int)(bar:Int):Prop where
 vA:zcp m
 len:r.length<=8
 on:zj2 m r
 bar:-4000000000000<=bar/\bar<=4000000000000
theorem zqm{m:zD}(h:zcp m):∀(r:List Int),zj2 m r->∀(a:Int) (i:Nat),0<=a->i<r.length->a<=(zW m a r).getD i 0/\(zW m a r).getD i 0<=a+1000000*i
 |[],_,a,i,_,hi=>by simp at hi
 |x::r,hon,a,0,ha,_=>by simp[zW]
 |x::r,hon,a,i+1,ha,hi=>by
  have hx:=zcX h (hon x (jw ..));have:=zqm h r (fun y hy=>hon y (jt _ hy)) (a+z8 m x) i (by omega) (by simpa using hi);simp only[zW,List.getD_cons_succ];omega
theorem zmA{m:zD}{r:List Int}{bar:Int}(h:ziO m r bar){i:Nat}(hi:i<r.length):0<=zb4 m r i/\zb4 m r i<=8000000:=by
 have:=zqm h.vA r h.on 0 i (Int.le_refl _) hi;have h8:=h.len;unfold zb4;omega
def zDT(m:zD)(n:Int):List Int :=
 if zbK m 0 m.jf=[] then [] else
 (zbK m 0 m.jf).getD ((n % 1048576).toNat % (zbK m 0 m.jf).length) 0::goR m 7 ((zbK m 0 m.jf).getD ((n % 1048576).toNat % (zbK m 0 m.jf).length) 0) ((n % 1048576).toNat / (zbK m 0 m.jf).length)
theorem zEm(m:zD)(n:Int):(zDT m n).length<=8:=by
 unfold zDT;split
 ·simp
 ·rw[jM];have:=zEZ m 7 ((zbK m 0 m.jf).getD ((n % 1048576).toNat % (zbK m 0 m.jf).length) 0) ((n % 1048576).toNat / (zbK m 0 m.jf).length);omega
theorem zFk{m:zD}(h:zcp m):∀(f:Nat) (a:Int) (n:Nat),0<=a/\a<m.jf.length->zj2 m (goR m f a n)
 |0,_,_,_=>by intro x hx;cases hx
 |f+1,a,n,ha=>by
  obtain⟨j,rfl⟩:=js ha.1;have hj:j<m.jf.length:=by omega
  have en:zS m (j:Int)=m.jf[j].next:=by simp[zS,hj]
  unfold goR;rw[en];split
  ·intro x hx;cases hx
  ·rename_i c;have hm:n % m.jf[j].next.length<m.jf[j].next.length:=kW _ (by omega);have eg:m.jf[j].next.getD (n % m.jf[j].next.length) 0=m.jf[j].next[n % m.jf[j].next.length]:=by simp[jR,hm]
   have hval:=h.small.valid _ (je hj) _ (je hm);rw[eg];intro x hx;rcases jx.1 hx with rfl|hx
   ·exact hval
   ·exact zFk h f _ _ hval x hx
theorem zFf{m:zD}(hne:zbK m 0 m.jf≠[])(N:Nat):0<=(zbK m 0 m.jf).getD (N % (zbK m 0 m.jf).length) 0/\(zbK m 0 m.jf).getD (N % (zbK m 0 m.jf).length) 0<m.jf.length:=by
 have h0:0<(zbK m 0 m.jf).length:=jD.2 hne;have hm:N % (zbK m 0 m.jf).length<(zbK m 0 m.jf).length:=kW _ h0;have eg:(zbK m 0 m.jf).getD (N % (zbK m 0 m.jf).length) 0=(zbK m 0 m.jf)[N % (zbK m 0 m.jf).length]:=by simp[jR,hm]
 rw[eg];exact zp8 m m.jf 0 (by omega) _ (je hm)
theorem zEy{m:zD}(h:zcp m)(n:Int):zj2 m (zDT m n):=by
 unfold zDT;split
 ·intro x hx;cases hx
 ·rename_i hne;have hs:=zFf hne (n % 1048576).toNat;intro x hx;rcases jx.1 hx with rfl|hx
  ·exact hs
  ·exact zFk h _ _ _ hs x hx
theorem zE3{m:zD}(h:zcp m)(n:Int):R L Cs zEb [.a (zf m),W n] []=some (.w (.c (.jc (zu (zDT m n)))),[]):=by
 have ho:=zzc h;have hm:=zEW n 1048576 (by omega) (by omega);have hr:=zDJ n 1048576 (by omega);have hlen:=zlK m m.jf 0;have hsm:=h.small.jf;unfold zDT;rw[zUa zEf rfl];by_cases c:zbK m 0 m.jf=[]
 ·rw[c]at ho;simp only[zf,zay]at ho ⊢;simp[zDO,ho,c,zg]
 ·have hs:=zFf c (n % 1048576).toNat;rw[if_neg c];generalize n % 1048576=N at *;obtain⟨N,rfl⟩:=js hr.1;generalize zbK m 0 m.jf=l at *;have h0:0<l.length:=jD.2 c;have hml:N % l.length<l.length:=kW _ h0;have hq:N / l.length<=N:=Nat.div_le_self _ _;simp only[Int.toNat_natCast]at *;have eg:l.getD (N % l.length) 0=l[N % l.length]:=by simp[jR,hml]
  rw[eg]at hs ⊢;obtain⟨b,t,hy⟩:=zEL h 7 l[N % l.length] (N / l.length) [l[N % l.length]] rfl hs.1 hs.2 (by omega);have e1:(N:Int).tmod (l.length:Int)=((N % l.length:Nat):Int):=by
   rw[j6 (by omega)];rfl
  have e2:(N:Int).tdiv (l.length:Int)=((N / l.length:Nat):Int):=by
   rw[kO (by omega)];rfl
  have e3:IntKind.i64.wrap ((N / l.length:Nat):Int)=((N / l.length:Nat):Int):=zv4 (by omega);have hz:((l.length:Int)==0)=false:=beq_false_of_ne (by omega);have hz':(l.length:Int)≠0:=by omega
  generalize hq2:N / l.length=q at *;generalize hm2:N % l.length=p at *;simp only[zf,sl,own,zaP,zay,zfq,jM,jL]at ho hy ⊢;simp[zDO,ho,hm,c,hz,hz',e1,e2,e3,hml,hy,zg]
theorem zE6{m:zD}(h:zcp m)(n:Int):∀(f i:Nat),i+f=4 ->
  (Y L Cs zDD (some [1,2,5]) 2 [(1,.w (W n)),(2,.w (Pt 0)),(5,.w (W i))] [bx 5 (zf m),gb 1] =
   some (.exit 0,[(8,.w (Bo false)),(2,.w (Pt 0)),(1,.w (W n)),(5,.w (W 4))],[bx 5 (zf m),gb 1])) \/
  (∃k,zaK m ((zDT m k).headD 0)=1/\Y L Cs zDD (some [1,2,5]) 2 [(1,.w (W n)),(2,.w (Pt 0)),(5,.w (W i))] [bx 5 (zf m),gb 1] =
   some (.ret,[(4,.w (.c (.jc (zu (zDT m k)))))],[bx 5 (zf m),gb 1])):=by
 intro f;induction f with
 |zero =>
  intro i hi;obtain rfl:i=4:=by omega
  left;rw[zj zDD.eq_1];simp
 |succ f ih =>
  intro i hi;have hi4:(i:Int)<4:=by omega
  have hw:=zB (i:=i) (by omega);have hm:=zEW n 1048576 (by omega) (by omega);have hr:=zDJ n 1048576 (by omega);have hw2:=qc (n % 1048576+i);have hR:=zE3 h (n % 1048576+i);have hon:=zEy h (n % 1048576+i);rw[zj zDD.eq_1];have ih':=ih (i+1) (by omega);have hk:∀q,q=zDT m (n % 1048576+i)->∃k,q=zDT m k:=fun q hq=>⟨_,hq⟩
  generalize hq:zDT m (n % 1048576+i)=q at *;cases q with
  |nil =>
   rcases ih' with ih' |⟨k,hkd,ih'⟩
   ·left;rw[<-ih'];simp only[zf,zay]at hR ⊢;simp[hi4,hw,hm,hw2,hR]
   ·right;refine⟨k,hkd,?_⟩;rw[<-ih'];simp only[zf,zay]at hR ⊢;simp[hi4,hw,hm,hw2,hR]
  |cons x r =>
   have hx:=hon x (by simp);obtain⟨j,rfl⟩:=js hx.1;have hj:j<m.jf.length:=by omega
   by_cases c:m.jf[j].kind=1
   ·right;refine⟨n % 1048576+i,by rw[hq];simp[zaK,hj,c],?_⟩;rw[hq];simp only[zf,zaP]at hR ⊢;simp[hi4,hw,hm,hw2,hR,hj,zo,c]
   ·have cb:(m.jf[j].kind==1)=false:=by simp[c]
    rcases ih' with ih' |⟨k,hkd,ih'⟩
    ·left;rw[<-ih'];simp only[zf,zaP]at hR ⊢;simp[hi4,hw,hm,hw2,hR,hj,zo,c,cb]
    ·right;refine⟨k,hkd,?_⟩;rw[<-ih'];simp only[zf,zaP]at hR ⊢;simp[hi4,hw,hm,hw2,hR,hj,zo,c,cb]
theorem zT8{m:zD}(h:zcp m)(n:Int):∃k,(k=0\/zaK m ((zDT m k).headD 0)=1)/\R L Cs zD3 [.a (zf m),W n] []=some (.w (.c (.jc (zu (zDT m k)))),[]):=by
 rw[zUa zD5 rfl];rcases zE6 h n 4 0 rfl with hl |⟨k,hkd,hl⟩
 ·refine⟨0,.inl rfl,?_⟩;have hR:=zE3 h 0;simp only[zf,ji]at hl hR ⊢;simp[zDK,hl,hR]
 ·refine⟨k,.inr hkd,?_⟩;simp only[zf,ji]at hl ⊢;simp[zDK,hl]
theorem zES{m:zD}(h:zcp m)(n:Int):∃k,R L Cs zD3 [.a (zf m),W n] []=some (.w (.c (.jc (zu (zDT m k)))),[]):=by
 obtain⟨k,_,h⟩:=zT8 h n;exact⟨k,h⟩
def inB(p q:zk):Bool:=decide (p.lane=q.lane)&&decide (q.lo<=p.lo)&&decide (p.hi<=q.hi)&&decide (q.vlo<=p.vlo)&&decide (p.vhi<=q.vhi)&&(decide (q.hold=0)||decide (p.hold≠0)&&decide (p.hold<=q.hold))
theorem zZL{α:Type}(f:α->Bool):∀(l:List α) (s:Bool),l.foldl (fun s q=>s||f q) s=(s||l.any f)
 |[],s=>by simp
 |x::l,s=>by rw[kS,zZL f l];simp[Bool.or_assoc]
theorem zZm(a b:zci)(hb:b.ju.length<=100000000000)(p:zk)(i:Int) :
  Y L Cs zWA (some [9,10,7,2,3,8]) 5 [(9,.w (Bo false)),(10,.w (W (0:Nat))),(7,.w (W i)),(2,.w (Pt 0)),(3,.w (Pt 1)),(8,.w (Pt 4))] [bx 6 (zG a),bx 6 (zG b),bxv 1 4 (zch a.ego),bxv 1 4 (zch b.ego),bxv 1 6 (ze p)] =
    some (.exit 2,[(65,.w (Bo false)),(9,.w (Bo (b.ju.any (inB p)))),(10,.w (W b.ju.length)),(7,.w (W i)),(2,.w (Pt 0)),(3,.w (Pt 1)),(8,.w (Pt 4))],[bx 6 (zG a),bx 6 (zG b),bxv 1 4 (zch a.ego),bxv 1 4 (zch b.ego),bxv 1 6 (ze p)]):=by
 have q:=zPH (L:=L) (Cs:=Cs) (b:=zWA) (live:=some [9,10,7,2,3,8]) (n0:=5) b.ju
  (fun k s=>[(9,.w (Bo s)),(10,.w (W k)),(7,.w (W i)),(2,.w (Pt 0)),(3,.w (Pt 1)),(8,.w (Pt 4))]) (fun _ _=>[bx 6 (zG a),bx 6 (zG b),bxv 1 4 (zch a.ego),bxv 1 4 (zch b.ego),bxv 1 6 (ze p)]) (fun _ _=>True) (fun _ s q=>s||inB p q)
  (fun s=>(.exit 2,[(65,.w (Bo false)),(9,.w (Bo s)),(10,.w (W b.ju.length)),(7,.w (W i)),(2,.w (Pt 0)),(3,.w (Pt 1)),(8,.w (Pt 4))],[bx 6 (zG a),bx 6 (zG b),bxv 1 4 (zch a.ego),bxv 1 4 (zch b.ego),bxv 1 6 (ze p)])) ?_ ?_ (s0:=false) trivial
 ·rw[zMd,zZL,u3]at q;exact q
 ·intro k hk s _;refine⟨trivial,?_⟩;have hww:=zB (i:=k) (by omega);simp only[zG,zch,ze];rw[zj zWA.eq_1];generalize hwk:b.ju[k]=w;obtain⟨wl,wlo,whi,wv,wV,wh⟩:=w;obtain⟨pl,plo,phi,pv,pV,ph⟩:=p;cases s with
  |true=>simp[hk,hwk,hww,ze,zg]
  |false =>
   simp only[inB];by_cases c1:pl=wl
   ·subst c1;by_cases c2:wlo<=plo
    ·by_cases c3:phi<=whi
     ·by_cases c4:wv<=pv
      ·by_cases c5:pV<=wV
       ·by_cases c6:wh=0
        ·simp[hk,hwk,hww,ze,zg,c2,c3,c4,c5,c6]
        ·have b6:(wh==0)=false:=by simp[c6]
         by_cases c7:ph=0
         ·simp[hk,hwk,hww,ze,zg,c2,c3,c4,c5,c6,b6,c7]
         ·have b7:(ph==0)=false:=by simp[c7]
          have b7':(ph !=0)=true:=by simp[c7]
          by_cases c8:ph<=wh
          ·simp[hk,hwk,hww,ze,zg,c2,c3,c4,c5,c6,b6,c7,b7,b7',c8]
          ·simp[hk,hwk,hww,ze,zg,c2,c3,c4,c5,c6,b6,c7,b7,b7',c8]
       ·simp[hk,hwk,hww,ze,zg,c2,c3,c4,c5]
      ·simp[hk,hwk,hww,ze,zg,c2,c3,c4]
     ·simp[hk,hwk,hww,ze,zg,c2,c3]
    ·simp[hk,hwk,hww,ze,zg,c2]
   ·have b1:(pl==wl)=false:=by simp[c1]
    simp[hk,hwk,hww,ze,zg,c1,b1]
 ·intro s _;simp only[zG,zch,ze];rw[zj zWA.eq_1];simp
theorem zZl(a b:zci)(ha:a.ju.length<=100000000000)(hb:b.ju.length<=100000000000):∀(r:List zk) (i:Nat),a.ju.drop i=r->i<=a.ju.length ->
  ∃M',Y L Cs z2P (some [7,2,3]) 4 [(7,.w (W i)),(2,.w (Pt 0)),(3,.w (Pt 1))] [bx 6 (zG a),bx 6 (zG b),bxv 1 4 (zch a.ego),bxv 1 4 (zch b.ego)] =
   if r.all (fun p=>b.ju.any (inB p)) then some (.exit 0,[(53,.w (Bo false)),(7,.w (W a.ju.length)),(2,.w (Pt 0)),(3,.w (Pt 1))],[bx 6 (zG a),bx 6 (zG b),bxv 1 4 (zch a.ego),bxv 1 4 (zch b.ego)])
   else some (.ret,[(4,.w (Bo false))],M'):=by
 intro r;induction r with
 |nil =>
  intro i hd hi;obtain rfl:=zUb hd hi;refine⟨[],?_⟩;simp only[zG,zch];rw[zj z2P.eq_1];simp
 |cons p r ih =>
  intro i hd hi;obtain⟨hil,hp,hd'⟩:=zL hd;have hw:=zB (i:=i) (by omega);have h1:=zZm a b hb p i;obtain⟨M',ih'⟩:=ih (i+1) hd' hil;rw[kY];generalize b.ju.any (inB p)=s at *;generalize r.all (fun p=>b.ju.any (inB p))=t at *;simp only[zG,zch,ze,ji]at h1 ih' ⊢;cases s with
  |true =>
   refine⟨M',?_⟩;rw[uk,<-ih',zj z2P.eq_1];simp[hil,hp,hw,ze,zg,h1]
  |false =>
   refine⟨[bx 6 (zG a),bx 6 (zG b),bxv 1 4 (zch a.ego),bxv 1 4 (zch b.ego),bxv 1 6 (ze p)],?_⟩;rw[zj z2P.eq_1];simp[hil,hp,hw,ze,zG,zg,h1]
def z1D(x y:Ego):Bool:=decide (x.slo<y.slo)||decide (y.shi<x.shi)||decide (x.vlo<y.vlo)||decide (y.vhi<x.vhi)
def zXR(a b:zci):Bool:=decide (a.tick=b.tick) && !z1D a.ego b.ego&&a.ju.all (fun p=>b.ju.any (inB p))
theorem zYb(a b:zci)(ha:a.ju.length<=100000000000)(hb:b.ju.length<=100000000000):R L Cs zXL [.a (zG a),.a (zG b)] []=some (.w (Bo (zXR a b)),[]):=by
 obtain⟨M',h2⟩:=zZl a b ha hb a.ju 0 rfl (jE _);rw[zUa zXN rfl];simp only[zXR,z1D];generalize a.ju.all (fun p=>b.ju.any (inB p))=t at *;simp only[zG,zch,ji]at h2 ⊢;by_cases c1:a.tick=b.tick
 ·rw[c1]at h2 ⊢;by_cases c2:a.ego.slo<b.ego.slo
  ·simp[zWt,zg,c2]
  ·by_cases c3:b.ego.shi<a.ego.shi
   ·simp[zWt,zg,c2,c3]
   ·by_cases c4:a.ego.vlo<b.ego.vlo
    ·simp[zWt,zg,c2,c3,c4]
    ·by_cases c5:b.ego.vhi<a.ego.vhi
     ·simp[zWt,zg,c2,c3,c4,c5]
     ·cases t with
      |true=>simp[zWt,zg,c2,c3,c4,c5,h2]
      |false=>simp[zWt,zg,c2,c3,c4,c5,h2]
 ·have b1:(a.tick==b.tick)=false:=by simp[c1]
  have b2:(a.tick !=b.tick)=true:=by simp[c1]
  simp[zWt,zg,c1,b1,b2]
def Ord(a b:zk):Prop:=a.lane<b.lane\/a.lane=b.lane/\a.lo<=b.lo
theorem not_lt{x s:zk}(h:ltB x s=false):Ord s x:=by
 unfold ltB at h;unfold Ord;simp at h;omega
structure Spn where
 lane:Int
 lo:Int
 hi:Int
def zWX(s:Spn):List Cl:=[I s.lane,I s.lo,I s.hi]
def zWx(l:List Spn):List (List Cl):=l.map zWX
@[simp] theorem z1J(s:Spn):(zWX s).length=3:=rfl
@[simp] theorem zXJ(l:List Spn):(zWx l).length=l.length:=by simp[zWx]
@[simp] theorem z1e(l m:List Spn):zWx (l++m)=zWx l++zWx m:=by simp[zWx]
@[simp] theorem zZb:zWx []=[]:=rfl
@[simp] theorem z1B(x:Spn)(l:List Spn):zWx (x::l)=zWX x::zWx l:=rfl
@[simp] theorem z1A(l:List Spn):(zWx l).take l.length=zWx l:=jX (by simp)
@[simp] theorem z05{l:List Spn}{i:Nat}(h:i<(zWx l).length):(zWx l)[i]=zWX (l[i]'(by simpa using h)):=by simp[zWx]
theorem zlP{m:zD}(hs:zmX m){l:List Int}(hr:zdA m l=0):l.length<=2:=by
 match l,hr with
 |[],_=>simp
 |[_],_=>simp
 |[_,_],_=>simp
 |x::y::z::t,hr =>
  exfalso;have hg:goF m x (y::z::t)=true:=by
   cases hg:goF m x (y::z::t)with
   |true=>rfl
   |false=>simp[zdA,hg]at hr
  simp only[goF,jg,decide_eq_true_eq]at hg;have h1:y∈zS m x:=hg.1;have h2:z∈zS m y:=hg.2.1;rw[hs.leaf x y h1]at h2;cases h2
theorem zqS(m:zD)(x:Int):∀(t:List zfn) (i:Nat),x∈zbK m i t<->∃j:Nat,j<t.length/\x=((i+j:Nat):Int)/\zes x 0 m.jf=[]
 |[],i=>by simp[zbK]
 |l::t,i=>by
  have ih:=zqS m x t (i+1);have step:(∃j:Nat,j<(l::t).length/\x=((i+j:Nat):Int)/\zes x 0 m.jf=[])<->(x=(i:Int)/\zes x 0 m.jf=[])\/x∈zbK m (i+1) t:=by
   rw[ih];constructor
   ·rintro⟨j,h1,h2,h3⟩;cases j with
    |zero=>exact .inl ⟨by simpa using h2,h3⟩
    |succ j=>exact .inr ⟨j,by simpa using h1,by rw[h2];congr 1;omega,h3⟩
   ·rintro(⟨h1,h2⟩ |⟨j,h1,h2,h3⟩)
    ·exact⟨0,by simp,by simpa using h1,h2⟩
    ·exact⟨j+1,by simp;omega,by rw[h2];congr 1;omega,h3⟩
  rw[step,zbK];split
  ·next hb =>
   rw[jx];constructor
   ·rintro(h|h)
    ·exact .inl ⟨h,by rw[h];exact hb⟩
    ·exact .inr h
   ·rintro(⟨h,_⟩|h)
    ·exact .inl h
    ·exact .inr h
  ·next hb =>
   constructor
   ·exact .inr
   ·rintro(⟨h,h2⟩|h)
    ·rw[h]at h2;exact absurd h2 hb
    ·exact h
theorem zFl(m:zD):∀(f:Nat) (a:Int) (n:Nat),goF m a (goR m f a n)=true
 |0,_,_=>rfl
 |f+1,a,n=>by
  unfold goR;split
  ·rfl
  ·rename_i h;have hi:n % (zS m a).length<(zS m a).length:=kW _ (by omega);have e:(zS m a).getD (n % (zS m a).length) 0=(zS m a)[n % (zS m a).length]:=by simp[jR,hi]
   have hm:(zS m a).getD (n % (zS m a).length) 0∈zS m a:=by rw[e];exact je hi
   unfold goF;rw[zFl m f];rw[Bool.and_true];exact decide_eq_true hm
theorem zEY{m:zD}{x:Int}:∀(l:List zfn) (i:Nat),(∀(j:Nat) (h:j<l.length),x∉l[j].next)->zes x i l=[]
 |[],_,_=>rfl
 |z::l,i,h=>by
  unfold zes;rw[if_neg (show ¬x∈z.next from h 0 (Nat.zero_lt_succ _))];exact zEY (m:=m) l (i+1) fun j hj=>h (j+1) (Nat.succ_lt_succ hj)
theorem zFr{m:zD}(hs:zmX m)(hp:0<m.jf.length):zbK m 0 m.jf≠[]:=by
 intro h;have:(0:Int)∈zbK m 0 m.jf:=by
  rw[zqS];refine⟨0,hp,rfl,zEY (m:=m) _ 0 fun j hj hx=>?_⟩;have hx':(0:Int)∈zS m (j:Int):=by simpa [zS,hj]using hx
  have:=hs.up _ _ hx';omega
 rw[h]at this;cases this
theorem zE5{m:zD}{zs:List Zon}{ss:List Sgn}(hf:zmq m zs ss)(hp:0<m.jf.length)(k:Int):zdA m (zDT m k)=0:=by
 have hne:=zFr hf.shal hp;have hl:=zEm m k;have vI:∀i,i<(zbK m 0 m.jf).length->(zbK m 0 m.jf).getD i 0∈zbK m 0 m.jf:=fun i hi=>by
  have e:(zbK m 0 m.jf).getD i 0=(zbK m 0 m.jf)[i]:=by simp[jR,hi]
  rw[e];exact je hi
 have hlen:0<(zbK m 0 m.jf).length:=jD.2 hne;have h0:=vI ((k % 1048576).toNat % (zbK m 0 m.jf).length) (kW _ hlen);unfold zDT at hl ⊢;rw[if_neg hne]at hl ⊢;generalize (zbK m 0 m.jf).getD ((k % 1048576).toNat % (zbK m 0 m.jf).length) 0=x at *;have hg:=zFl m 7 x ((k % 1048576).toNat / (zbK m 0 m.jf).length);generalize goR m 7 x ((k % 1048576).toNat / (zbK m 0 m.jf).length)=t at *;obtain⟨j,hj,hxj,hb⟩:=(zqS m x m.jf 0).1 h0;simp only[jM]at hl;simp only[zdA];rw[if_neg (by omega),if_neg (by omega),if_neg (by omega),if_neg (by simpa using hb),if_pos hg]
theorem zE9(k:Nat)(hk:k<7)(lim r o1 o2 o3 v:Int)(ws:List zCP):0<(zq k lim r o1 o2 o3 v ws).jf.length:=by
 match k,hk with
 |0,_ |1,_ |2,_ |3,_ |4,_ |5,_ |6,_=>simp[zq,zy]
structure Pss where
 k9:Int
 part:Int
 lo:Int
 hi:Int
 deriving DecidableEq
def zKF(p:Pss):List Cl:=[I p.k9,I p.part,I p.lo,I p.hi]
def zKd(l:List Pss):List (List Cl):=l.map zKF
@[simp] theorem zLE(l:List Pss):(zKd l).length=l.length:=by simp[zKd]
@[simp] theorem zNO:zKd []=[]:=rfl
@[simp] theorem zPO(x:Pss)(l:List Pss):zKd (x::l)=zKF x::zKd l:=rfl
@[simp] theorem zMu(l k:List Pss):zKd (l++k)=zKd l++zKd k:=by simp[zKd]
@[simp] theorem zPM(l:List Pss):(zKd l).take l.length=zKd l:=jX (by simp)
@[simp] theorem zOV{l:List Pss}{i:Nat}(h:i<(zKd l).length):(zKd l)[i]=zKF (l[i]'(by simpa using h)):=by simp[zKd]
@[simp] theorem zNu(p:Pss):(zKF p).length=4:=rfl
@[simp] theorem zPN(l:List Pss):(∀x,x∈zKd l->x.length=4)<->True:=by simp[zKd]
def zI2(a b:Pss):Prop:=a.lo<b.lo\/(a.lo=b.lo/\a.k9<b.k9)
instance(a b:Pss):Decidable (zI2 a b):=by unfold zI2;infer_instance
def zN1(l:List Pss):Prop:=∀(i:Nat) (h:i+1<l.length),¬zI2 l[i+1] l[i]
def zLB(st:Int)(z:Nat)(x:Int):Nat->List Prt->List Pss
 |_,[]=>[]
 |k,p::r=>if p.lane=x then⟨z,k,st+p.lo,st+p.hi⟩::zLB st z x (k+1) r else zLB st z x (k+1) r
def zLA(st x:Int):Nat->List Zon->List Pss
 |_,[]=>[]
 |z,q::r=>zLB st z x 0 q.parts++zLA st x (z+1) r
def zKh(m:zD)(zs:List Zon):Int->List Int->List Pss
 |_,[]=>[]
 |a,x::r=>zLA a x 0 zs++zKh m zs (a+z8 m x) r
theorem zLR(st:Int)(z:Nat)(x:Int):∀(l:List Prt) (k:Nat),(zLB st z x k l).length<=l.length
 |[],k=>by simp[zLB]
 |p::l,k=>by
  have:=zLR st z x l (k+1);unfold zLB;split<;>simp<;>omega
structure zOj(p:Prt):Prop where
 lo:0<=p.lo/\p.lo<=1000000
 hi:0<=p.hi/\p.hi<=1000000
theorem zNv(st x:Int):∀(l:List Zon) (z:Nat),(∀q∈l,q.parts.length<=6)->(zLA st x z l).length<=6*l.length
 |[],z,_=>by simp[zLA]
 |q::l,z,h=>by
  have h1:=zNv st x l (z+1) fun y hy=>h y (jt _ hy)
  have h2:=zLR st z x q.parts 0;have h3:=h q (jw ..);unfold zLA;simp;omega
theorem zO7{m:zD}{zs:List Zon}{ss:List Sgn}(hf:zmq m zs ss):∀q∈zs,∀p∈q.parts,zOj p:=by
 intro q hq p hp;obtain⟨a0,a1,a2,a3,_⟩:=hf.pv q hq p hp;have:=zcX hf.vA a0;exact⟨by omega,by omega⟩
abbrev zQ0(m:zD)(o:List Pss):Mem:=[bx 5 (zf m),gb 4,some (own 4 (zKd o))]
abbrev rpS(o:List Pss):WV:=.c (.slice 2 o.length 4 0 o.length none)
abbrev zRQ(m:zD)(l:List Int)(i z k:Nat)(o:List Pss):Env:=[(5,.w (rpS o)),(9,.w (W k)),(2,.w (Pt 0)),(1,.w (.c (.jc (zu l)))),(8,.w (W z)),(6,.w (.c (.jc (zu (zW m 0 l))))),(7,.w (W i))]
theorem zRO{m:zD}(l:List Int)(i:Nat)(hil:i<l.length)(st:Int)(his:i<(zW m 0 l).length)(hst:(zW m 0 l)[i]=st)(hsb:0<=st/\st<=100000000)(x:Int)(hx:l[i]=x)(zs:List Zon)(hzz:m.ke=zk8 zs)(z:Nat)(hz:z<zs.length)(q:Zon)(hzq:zs[z]=q)(hq:q.parts.length<=6)(hpo:∀p∈q.parts,zOj p):∀(t:List Prt) (k:Nat) (o:List Pss),q.parts.drop k=t->k<=q.parts.length->o.length<=1000+k ->
  Y L Cs zJv (some [5,9,2,1,8,6,7]) 3 (zRQ m l i z k o) (zQ0 m o) =
    some (.exit 4,(37,.w (Bo false))::zRQ m l i z q.parts.length (o++zLB st z x k t),zQ0 m (o++zLB st z x k t)):=by
 intro t;induction t with
 |nil =>
  intro k o hd hk ho;obtain rfl:=zUb hd hk;have e0:(zk8 zs)[z]'(by simpa using hz)=zdP q:=by simp[hzq]
  rw[zj zJv.eq_1];simp[zLB,zf,hzz,hz,hzq,zdP]
 |cons p t ih =>
  intro k o hd hk ho;obtain⟨hkl,hp,hd'⟩:=zL hd;have hw:=zB (i:=k) (by omega);have hok:=hpo p (by rw[<-hp];exact je hkl);have w1:IntKind.i64.wrap (st+p.lo)=st+p.lo:=zTd _ (by have:=hok.lo;omega) (by have:=hok.lo;omega);have w2:IntKind.i64.wrap (st+p.hi)=st+p.hi:=zTd _ (by have:=hok.hi;omega) (by have:=hok.hi;omega);have kj:(o.length+1)*32<=140737488355328:=by omega
  unfold zLB;by_cases c:p.lane=x
  ·have cb:(p.lane==x)=true:=by simp[c]
   rw[if_pos c];have h:=ih (k+1) (o++[⟨z,k,st+p.lo,st+p.hi⟩]) hd' hkl (by simp;omega);have e1:o++⟨z,k,st+p.lo,st+p.hi⟩::zLB st z x (k+1) t=(o++[⟨z,k,st+p.lo,st+p.hi⟩])++zLB st z x (k+1) t:=by simp
   rw[e1,<-h,zj zJv.eq_1];clear h ih e1;simp[zRQ,rpS,zQ0,own,zdP,zeB,zKF,hzz,hz,hzq,hil,hx,hkl,hp,hw,his,hst,w1,w2,c,cb,kj,zg,zf,zH]
  ·have cb:(p.lane==x)=false:=by simp[c]
   rw[if_neg c];have h:=ih (k+1) o hd' hkl (by omega);rw[<-h,zj zJv.eq_1];clear h ih;simp[zRQ,rpS,zQ0,own,zdP,zeB,zKF,hzz,hz,hzq,hil,hx,hkl,hp,hw,c,cb,zg,zf,zH]
abbrev zRX(m:zD)(l:List Int)(i z:Nat)(o:List Pss):Env:=[(5,.w (rpS o)),(2,.w (Pt 0)),(1,.w (.c (.jc (zu l)))),(8,.w (W z)),(6,.w (.c (.jc (zu (zW m 0 l))))),(7,.w (W i))]
theorem zRN{m:zD}(l:List Int)(i:Nat)(hil:i<l.length)(st:Int)(his:i<(zW m 0 l).length)(hst:(zW m 0 l)[i]=st)(hsb:0<=st/\st<=100000000)(x:Int)(hx:l[i]=x)(zs:List Zon)(hzz:m.ke=zk8 zs)(hz:zs.length<=12)(hq:∀q∈zs,q.parts.length<=6)(hpo:∀q∈zs,∀p∈q.parts,zOj p):∀(t:List Zon) (z:Nat) (o:List Pss),zs.drop z=t->z<=zs.length->o.length<=900+6*z ->
  Y L Cs zJu (some [5,2,1,8,6,7]) 3 (zRX m l i z o) (zQ0 m o)=some (.exit 2,(26,.w (Bo false))::zRX m l i zs.length (o++zLA st x z t),zQ0 m (o++zLA st x z t)):=by
 intro t;induction t with
 |nil =>
  intro z o hd hk ho;obtain rfl:=zUb hd hk;rw[zj zJu.eq_1];simp[zLA,zf,hzz]
 |cons q t ih =>
  intro z o hd hk ho;obtain⟨hkl,hp,hd'⟩:=zL hd;have hw:=zB (i:=z) (by omega);have hqm:q∈zs:=by rw[<-hp];exact je hkl
  have hp6:=hq q hqm;have hpl:=zLR st z x q.parts 0;have h1:=zRO l i hil st his hst hsb x hx zs hzz z hkl q hp hp6 (hpo q hqm) q.parts 0 o rfl (jE _) (by omega);have h:=ih (z+1) (o++zLB st z x 0 q.parts) hd' hkl (by simp;omega);unfold zLA;rw[<-kV,<-h,zj zJu.eq_1];clear h ih;generalize zLB st z x 0 q.parts=pp at *;simp only[zRQ,rpS,zQ0,own,zf,hzz,ji,zLE,zMu,jG]at h1;simp[zRX,rpS,zQ0,own,hkl,hp,hw,h1,zg,zf,hzz,zH]
abbrev zRW(m:zD)(l:List Int)(i:Nat)(o:List Pss):Env:=[(5,.w (rpS o)),(2,.w (Pt 0)),(1,.w (.c (.jc (zu l)))),(6,.w (.c (.jc (zu (zW m 0 l))))),(7,.w (W i))]
theorem zRM{m:zD}(h:zcp m)(l:List Int)(hl:l.length<=8)(hon:zj2 m l)(zs:List Zon)(hzz:m.ke=zk8 zs)(hz:zs.length<=12)(hq:∀q∈zs,q.parts.length<=6)(hpo:∀q∈zs,∀p∈q.parts,zOj p):∀(t:List Int) (i:Nat) (a:Int) (o:List Pss),l.drop i=t->i<=l.length->(zW m 0 l).drop i=zW m a t->0<=a->a<=i*1000000->o.length<=100*i ->
  Y L Cs zJt (some [5,2,1,6,7]) 3 (zRW m l i o) (zQ0 m o)=some (.exit 0,(19,.w (Bo false))::zRW m l l.length (o++zKh m zs a t),zQ0 m (o++zKh m zs a t)):=by
 intro t;induction t with
 |nil =>
  intro i a o hd hk hs h0 h1 ho;obtain rfl:=zUb hd hk;have e:(zW m 0 l).length=l.length:=zcO ..;rw[zj zJt.eq_1];simp[zKh,e]
 |cons x t ih =>
  intro i a o hd hk hs h0 h1 ho;obtain⟨hkl,hp,hd'⟩:=zL hd;have hw:=zB (i:=i) (by omega);have hx:=hon x (by rw[<-hp];exact je hkl);have hle:=zcX h hx;have e:(zW m 0 l).length=l.length:=zcO ..;have hsl:i<(zW m 0 l).length:=by rw[zcO];exact hkl
  have hsd:=jW hsl;rw[hs,zW]at hsd;simp only[List.cons.injEq]at hsd;have hzl:=zNv a x zs 0 hq;have g:=zRN l i hkl a hsl hsd.1.symm ⟨h0,by omega⟩ x hp zs hzz hz hq hpo zs 0 o rfl (jE _) (by omega);have hh:=ih (i+1) (a+z8 m x) (o++zLA a x 0 zs) hd' hkl hsd.2.symm (by omega) (by omega) (by simp;omega);unfold zKh;rw[<-kV,<-hh,zj zJt.eq_1];clear hh ih;generalize zLA a x 0 zs=pp at *;simp only[zRX,rpS,zQ0,own,zf,hzz,ji,zLE,zMu,jG]at g;simp[zRW,rpS,zQ0,own,hkl,hp,hw,g,zg,zf,hzz,zH,e]
theorem zRP(m:zD)(o:List Pss)(hs:zN1 o)(hl:o.length<=19)(i:Nat)(hi:i<o.length):Y L Cs zJs (some [12,11,5]) 3 [(12,.w (W i)),(11,.w (W i)),(5,.w (rpS o))] (zQ0 m o) =
  some (.exit 8,[(126,.w (Bo false)),(12,.w (W i)),(11,.w (W i)),(5,.w (rpS o))],zQ0 m o):=by
 cases i with
 |zero =>
  rw[zj zJs.eq_1];simp[zf]
 |succ j =>
  have h2:j<o.length:=by omega
  have hn:=hs j hi;have hw:IntKind.i64.wrap ((j:Int)+1-1)=(j:Int):=by rw[zTd _ (by omega) (by omega)];omega
  have hg:(0:Int)<(j:Int)+1:=by omega
  have hwj:IntKind.i64.wrap (j:Int)=(j:Int):=zTd _ (by omega) (by omega);have a1:(0:Int)<=(j:Int)+1:=by omega
  have a2:(j:Int)+1<(o.length:Int):=by omega
  have a3:((j:Int)+1).toNat=j+1:=by omega
  have a4:(j:Int)<(o.length:Int):=by omega
  generalize hu:o[j+1]=u at *;generalize hv:o[j]=v at *;unfold zI2 at hn;have n1:¬u.lo<v.lo:=by omega
  rw[zj zJs.eq_1];by_cases c:u.lo=v.lo
  ·have cb:(u.lo==v.lo)=true:=by simp[c]
   have n2:¬u.k9<v.k9:=by omega
   have n3:¬v.lo<v.lo:=by omega
   simp[zQ0,rpS,own,zf,hg,hw,hwj,hi,h2,a1,a2,a3,a4,hu,hv,zKF,n1,n2,n3,c]
  ·have cb:(u.lo==v.lo)=false:=by simp[c]
   simp[zQ0,rpS,own,zf,hg,hw,hwj,hi,h2,a1,a2,a3,a4,hu,hv,zKF,n1,c,cb]
theorem zRL(m:zD)(o:List Pss)(hs:zN1 o)(hl:o.length<=19):∀(n i:Nat),i+n=o.length\/(n=0/\o.length<=i)->∃i',Y L Cs zJr (some [11,5]) 3 [(11,.w (W i)),(5,.w (rpS o))] (zQ0 m o)=some (.exit 6,[(79,.w (Bo false)),(11,.w (W i')),(5,.w (rpS o))],zQ0 m o):=by
 intro n;induction n with
 |zero =>
  intro i hi;have hc:¬(i:Int)<o.length:=by omega
  have hc':¬i<o.length:=by omega
  refine⟨i,?_⟩;rw[zj zJr.eq_1];simp[rpS,hc,hc']
 |succ n ih =>
  intro i hi;have hil:i<o.length:=by omega
  have hc:(i:Int)<o.length:=by omega
  have hw:=zB (i:=i) (by omega);have hin:=zRP m o hs hl i hil;obtain⟨i',h⟩:=ih (i+1) (by omega);refine⟨i',?_⟩;rw[<-h,zj zJr.eq_1];simp only[zQ0,rpS,zf,own,zLE]at hin;simp[rpS,zQ0,zf,own,hc,hil,hw,hin]
theorem zRG{m:zD}(h:zcp m){l:List Int}(hr:zdA m l=0):R L Cs zQ4 [.a (zf m),.c (.jc (zu l))] []=some (.w (.c (.jc (zu (zW m 0 l)))),[]):=by
 obtain⟨hon,hne,hl8⟩:=zg1 h hr;have h1:=zp0 m h.small h.yc l (by omega);have h2:=zvX h (l:=l) (by omega) hon;rw[hr]at h1;simp only[zf]at h1 h2;rw[zUa zQ6 rfl];simp[zJM,zf,h1,h2,zg,zX]
theorem zRH{m:zD}{zs:List Zon}{ss:List Sgn}(hf:zmq m zs ss){l:List Int}(hr:zdA m l=0)(hs:zN1 (zKh m zs 0 l))(hn:(zKh m zs 0 l).length<=19) :
  R L Cs zQ5 [.a (zf m),.c (.jc (zu l))] []=some (.w (.c (.jc (zKd (zKh m zs 0 l)))),[]):=by
 have h:=hf.vA;obtain⟨hon,hne,hl8⟩:=zg1 h hr;have hS:=zRG h hr;have g:=zRM h l hl8 hon zs hf.zd.z hf.zd.few hf.zd.pfew (zO7 hf) l 0 0 [] rfl (jE _) rfl (Int.le_refl _) (by omega) (by simp);rw[jP]at g;obtain⟨i',g2⟩:=zRL m (zKh m zs 0 l) hs hn ((zKh m zs 0 l).length-1) 1 (by omega);generalize zKh m zs 0 l=o at *;have hw:IntKind.i64.wrap 1=1:=rfl;simp only[zRW,rpS,zQ0,own,zf,zLE,zNO,jL,ji,uy]at g g2 hS;rw[zUa zQ7 rfl];simp[zJN,zf,hS,g,g2,zg,zX]
set_option maxRecDepth 100000
open Go Go.Eng
theorem zOu{m:zD}{zs:List Zon}{ss:List Sgn}(hf:zmq m zs ss)(hz:zs.length<=2)(hn:∀q∈zs,q.parts.length<=4){l:List Int}(hr:zdA m l=0):(zKh m zs 0 l).length<=16:=by
 have hl:=zlP hf.shal hr;have key:∀(t:List Zon) (a x:Int) (z:Nat),(∀q∈t,q.parts.length<=4)->(zLA a x z t).length<=4*t.length:=by
  intro t;induction t with
  |nil=>intro a x z _;simp[zLA]
  |cons q t ih =>
   intro a x z h;have h1:=ih a x (z+1) fun y hy=>h y (jt _ hy)
   have h2:=zLR a z x q.parts 0;have h3:=h q (jw ..);unfold zLA;simp;omega
 have k2:∀(t:List Int) (a:Int),(zKh m zs a t).length<=8*t.length:=by
  intro t;induction t with
  |nil=>intro a;simp[zKh]
  |cons x t ih =>
   intro a;have h1:=ih (a+z8 m x);have h2:=key zs a x 0 hn;unfold zKh;simp;omega
 have:=k2 l 0;omega
def zOT:List Pss->Bool
 |a::b::r=>!decide (zI2 b a)&&zOT (b::r)
 |_=>true
theorem zMq:∀{l:List Pss},zOT l=true->zN1 l
 |[],_=>fun i h=>by simp at h
 |[_],_=>fun i h=>by simp at h
 |a::b::r,h=>by
  simp only[zOT,jg,kF,decide_eq_false_iff_not]at h;intro i hi;cases i with
  |zero=>exact h.1
  |succ i=>exact zMq h.2 i (by simpa using hi)
def zTx(m:zD)(C:List Int->Bool):Bool:=(List.range 4).all fun x=>C [(x:Int)]&&(zS m x).all fun y=>C [(x:Int),y]
theorem zQa(k:Nat)(hk:k<7)(lim r o1 o2 o3 v:Int)(ws:List zCP):zTx (zq k lim r o1 o2 o3 v ws) (fun l=>zOT (zKh (zq k lim r o1 o2 o3 v ws) (zsP k r) 0 l))=true:=match k,hk with
 |0,_=>by kernel_rfl
 |1,_=>by kernel_rfl
 |2,_=>by kernel_rfl
 |3,_=>by kernel_rfl
 |4,_=>by kernel_rfl
 |5,_=>by kernel_rfl
 |6,_=>by kernel_rfl
theorem zTp{m:zD}(hs:zmX m){C:List Int->Bool}(kK:zTx m C=true){l:List Int}(hr:zdA m l=0):C l=true:=by
 have hl:=zlP hs hr;have few:=hs.few;have kK:=jo.1 kK
 match l,hl,hr with
 |[],_,hr=>cases hr
 |[x],_,hr =>
  simp only[zdA]at hr;split at hr
  ·cases hr
  split at hr
  ·cases hr
  split at hr
  ·cases hr
  rename_i h2 h3;obtain⟨n,rfl⟩:=js (show 0<=x by omega);have:=kK n (qs.2 (by omega));rw[jg]at this;exact this.1
 |[x,y],_,hr =>
  simp only[zdA]at hr;split at hr
  ·cases hr
  split at hr
  ·cases hr
  split at hr
  ·cases hr
  rename_i h2 h3;split at hr
  ·cases hr
  split at hr
  ·rename_i hg;obtain⟨n,rfl⟩:=js (show 0<=x by omega);have:=kK n (qs.2 (by omega));rw[jg]at this;simp only[goF,jg,decide_eq_true_eq]at hg;exact jo.1 this.2 y hg.1
  ·cases hr
theorem zOQ(k:Nat)(hk:k<7)(r:Int):(zsP k r).length<=2/\∀q∈zsP k r,q.parts.length<=4:=by
 match k,hk with
 |0,_ |1,_ |2,_ |3,_ |4,_ |5,_ |6,_=>simp[zsP]
set_option maxRecDepth 10000
open Go Go.Eng
def zV2(m:zD)(r:List Int)(tick:Int)(e:Ego)(a:Int):Prop:=1099511627776<=tick\/1099511627776<(zaN m r e a).shi
instance(m:zD)(r:List Int)(tick:Int)(e:Ego)(a:Int):Decidable (zV2 m r tick e a):=by unfold zV2;infer_instance
end Go.TrRun
/- Plain laws of cars, ramps, stops and profiles: no program in sight. -/
namespace Go.PlanLaw
structure Car where
 len:Int
 vR:Int
 k5:Int
 yP:Int
 delay:Int
def Car.ok(c:Car):Prop:=300<=c.len/\c.len<=20000/\1<=c.vR/\c.vR<=30/\20<=c.k5/\c.k5<=90/\5<=c.yP/\c.yP<=120/\0<=c.delay/\c.delay<=5
instance(c:Car):Decidable c.ok:=by unfold Car.ok;infer_instance
def zVH(c:Car)(x:Int):Int:=max (-c.k5) (min x c.vR)
def zFX(c:Car)(last w:Int):Int:=max (zVH c last-c.yP) (min (zVH c w) (zVH c last+c.yP))
def doV(v x:Int):Int:=min (max (v+max (-2000) (min x 2000)) 0) 2000
theorem zG1(v x:Int):0<=doV v x/\doV v x<=2000:=by unfold doV;omega
theorem zG2{c:Car}(h:c.ok)(x:Int):-c.k5<=zVH c x/\zVH c x<=c.vR:=by
 obtain⟨h1,h2,h3,h4,h5,h6,h7,h8,h9,h10⟩:=h;unfold zVH;omega
theorem zG3{c:Car}(h:c.ok){x:Int}(h1:-c.k5<=x)(h2:x<=c.vR):zVH c x=x:=by unfold zVH;omega
def zGI(c:Car):Nat->Bool->Int->Int->Option (List Int)
 |0,_,_,_=>none
 |m+1,f,last,v=>if f=true\/0<v\/0<last then(zGI c m false (zFX c last (-c.k5)) (doV v (zFX c last (-c.k5)))).map (zFX c last (-c.k5) :: ·) else some []
theorem zF7(c:Car)(m:Nat)(f:Bool)(last v:Int):zGI c (m+1) f last v=if(f=true\/0<v\/0<last) then(zGI c m false (zFX c last (-c.k5)) (doV v (zFX c last (-c.k5)))).map (zFX c last (-c.k5) :: ·) else some []:=rfl
theorem zG8(v x:Int)(hv:0<=v/\v<=2000)(hx:-100<=x/\x<=100):doV v x=max 0 (min 2000 (v+x)):=by unfold doV;omega
theorem zGx{c:Car}(h:c.ok)(last:Int):zFX c last (-c.k5)=max (zVH c last-c.yP) (-c.k5):=by
 obtain⟨h1,h2,h3,h4,h5,h6,h7,h8,h9,h10⟩:=h;unfold zFX zVH;omega
theorem zGM{c:Car}{last:Int}(h:c.ok)(h1:-c.k5<=last)(h2:last<=c.vR):zFX c last (-c.k5)=max (last-c.yP) (-c.k5):=by
 rw[zGx h last,zG3 h h1 h2]
theorem ends2{c:Car}(h:c.ok):∀(m:Nat) (last v:Int),-c.k5<=last->last<=-20->0<=v->v<=2000->v<=20*m->∃l,zGI c (m+1) false last v=some l/\l.length<=m
 |0,last,v,h1,h2,h3,h4,h5=>⟨[],by
   rw[zF7,if_neg (by simp;omega)],by simp⟩
 |m+1,last,v,h1,h2,h3,h4,h5=>by
  have hcar:=h;obtain⟨q1,q2,q3,q4,q5,q6,q7,q8,q9,q10⟩:=hcar;rw[zF7];split
  ·have hr:=zGM h h1 (by omega:last<=c.vR);have hd:=zG8 v (zFX c last (-c.k5)) ⟨h3,h4⟩ (by omega);obtain⟨l,hl,hn⟩:=ends2 h m (zFX c last (-c.k5)) (doV v (zFX c last (-c.k5))) (by omega) (by omega) (by omega) (by omega) (by omega);exact⟨_::l,by rw[hl];rfl,by simp;omega⟩
  ·exact⟨[],rfl,by simp⟩
theorem ends1{c:Car}(h:c.ok):∀(t:Nat) (last v:Int),-c.k5<=last->last<=c.vR->last<=5*t-20->0<=v->v<=2000->∃l,zGI c (101+t) false last v=some l/\l.length<=100+t
 |0,last,v,h1,h2,h3,h4,h5=>ends2 h 100 last v h1 (by omega) h4 h5 (by omega)
 |t+1,last,v,h1,h2,h3,h4,h5=>by
  have hcar:=h;obtain⟨q1,q2,q3,q4,q5,q6,q7,q8,q9,q10⟩:=hcar;rw[show 101+(t+1)=(101+t)+1 by omega,zF7];split
  ·have hr:=zGM h h1 h2;have hd:=zG1 v (zFX c last (-c.k5));obtain⟨l,hl,hn⟩:=ends1 h t (zFX c last (-c.k5)) (doV v (zFX c last (-c.k5))) (by omega) (by omega) (by omega) hd.1 hd.2;exact⟨_::l,by rw[hl];rfl,by simp;omega⟩
  ·exact⟨[],rfl,by simp⟩
theorem ends{c:Car}(h:c.ok)(last v:Int)(h4:0<=v)(h5:v<=2000):∃l,zGI c 111 true last v=some l/\0<l.length/\l.length<=110:=by
 have hcar:=h;obtain⟨q1,q2,q3,q4,q5,q6,q7,q8,q9,q10⟩:=hcar;have hr:=zGx h last;have hcl:=zG2 h last;have hd:=zG1 v (zFX c last (-c.k5));obtain⟨l,hl,hn⟩:=ends1 h 9 (zFX c last (-c.k5)) (doV v (zFX c last (-c.k5))) (by omega) (by omega) (by omega) hd.1 hd.2;refine⟨_::l,by rw[show 111=(101+9)+1 from rfl,zF7,if_pos (.inl rfl),hl];rfl,by simp,by simp;omega⟩
def chain(c:Car):Int->List Int->Prop
 |_,[]=>True
 |a,x::xs=>(-c.k5<=x/\x<=c.vR)/\(-c.yP<=x-a/\x-a<=c.yP)/\chain c x xs
def zG0:Int->List Int->Int
 |a,[]=>a
 |_,x::xs=>zG0 x xs
def zHd:Int->List Int->Int
 |v,[]=>v
 |v,x::xs=>zHd (doV v x) xs
structure Drv where
 last:Int
 v:Int
 l:List Int
def Drv.from(c:Car)(a:Int)(s:Drv):Prop:=chain c a s.l/\s.last=zG0 a s.l/\0<=s.v/\s.v<=2000
end Go.PlanLaw
namespace Go.TrRun.Pl
open Go Go.Eng Go.PlanLaw
def Drv.run(s:Drv)(l:List Int):Drv:=⟨zG0 s.last l,zHd s.v l,s.l++l⟩
end Go.TrRun.Pl
namespace Go.TrRun
open Go Go.Eng
theorem zRq(n:Nat)(p:Nat->Bool)(h:(List.range n).findIdx? p=none):(List.range n).any p=false:=by
 rw[jV]at h;simpa using h
theorem zRn(n:Nat)(p:Nat->Bool){i:Nat}(h:(List.range n).findIdx? p=some i):(List.range n).any p=true:=by
 obtain⟨h1,h2,_⟩:=jC.1 h;exact kx.2 ⟨_,je h1,h2⟩
theorem zR0{m:zD}(h:zcp m)(x:Int):R L Cs zD9 [.a (zf m),W x] []=some (.w (Bo (decide (0<=x)&&decide (x<m.jf.length))),[]):=by
 have hk:=h.yc;rw[zUa zEa rfl];simp only[zf]at hk;by_cases c1:0<=x
 ·by_cases c2:x<m.jf.length
  ·simp[zDW,zf,hk,c1,c2]
  ·simp[zDW,zf,hk,c1,c2]
 ·simp[zDW,zf,hk,c1]
theorem zRT{m:zD}{zs:List Zon}{ss:List Sgn}(hf:zmq m zs ss)(j:Nat)(hj:j<ss.length)(x:Int)(hx:0<=x/\x<m.jf.length)(tick:Int)(ht:0<=tick) :
  R L Cs zRa [.a (zf m),W j,W x,W tick] []=some (.w (Bo (zfA ss[j] x tick)),[]):=by
 have h1:=zR0 hf.vA x;have h2:=zrO ss[j] x tick (hf.zd.ph _ (je hj));have hs:=hf.zd.s;have hji:(j:Int)<ss.length:=by omega
 simp only[zf,hx.1,hx.2,decide_true,Bool.and_self]at h1;simp only[zeq]at h2;rw[hs]at h1;rw[zUa zRd rfl];simp[zJV,zf,zeq,hs,h1,h2,hj,hji,ht]
@[simp] theorem zHc(k:zci):(zG k).length=6:=rfl
structure AgV where
 jh:List Int
 s:Int
 v:Int
 len:Int
 start:Int
 obey:Bool
 gone:Bool
def agC(a:AgV):List Cl:=[.jc (zu a.jh),I a.s,I a.v,I a.len,I a.start,.bool a.obey,.bool a.gone]
structure z2T where
 ks:Int
 k9:Int
 since:Int
 uE:Int
def z29(x:z2T):List Cl:=[I x.ks,I x.k9,I x.since,I x.uE]
structure SnV where
 tick:Int
 agents:List AgV
 ins:List z2T
def z5(l:List AgV):List (List Cl):=l.map agC
def z2H(l:List z2T):List (List Cl):=l.map z29
@[simp] theorem z7m(l:List AgV):(z5 l).length=l.length:=by simp[z5]
@[simp] theorem z6C{l:List AgV}{i:Nat}(h:i<(z5 l).length):(z5 l)[i]=agC (l[i]'(by simpa using h)):=by simp[z5]
@[simp] theorem z7w(a:AgV):(agC a).length=7:=rfl
@[simp] theorem z7l(l:List z2T):(z2H l).length=l.length:=by simp[z2H]
@[simp] theorem z6B{l:List z2T}{i:Nat}(h:i<(z2H l).length):(z2H l)[i]=z29 (l[i]'(by simpa using h)):=by simp[z2H]
@[simp] theorem z5R(a:z2T):(z29 a).length=4:=rfl
def snC(s:SnV):List Cl:=[I s.tick,.jc (z5 s.agents),.jc (z2H s.ins)]
def laF(st:List Int)(s:Int):Nat->Nat
 |0=>0
 |k+1=>if st.getD k 0<=s then k else laF st s k
theorem z6R(st:List Int)(s:Int):∀k,laF st s (k+1)<=k
 |0=>by simp[laF]
 |k+1=>by
  have:=z6R st s k;unfold laF;split<;>omega
structure KAg(m:zD)(a:AgV):Prop where
 jh:zdA m a.jh=0
 len:300<=a.len/\a.len<=20000
 start:0<=a.start/\a.start<=1099511627776
 s:0<=a.s/\a.s<=zmd m 0 a.jh
 late:0<a.start->a.s=0
 here:a.gone=false
def z4R(m:zD)(a:AgV):Nat:=laF (zW m 0 a.jh) a.s a.jh.length
def z42(m:zD)(a:AgV):Int:=a.jh.getD (z4R m a) 0
theorem KAg.on{m:zD}(h:zcp m){a:AgV}(ha:KAg m a):zj2 m a.jh/\a.jh≠[]/\a.jh.length<=8:=zg1 h ha.jh
theorem KAg.yZ{m:zD}(h:zcp m){a:AgV}(ha:KAg m a):z4R m a<a.jh.length:=by
 obtain⟨_,h2,_⟩:=ha.on h;have h0:0<a.jh.length:=jD.2 h2;unfold z4R;obtain⟨k,hk⟩:∃k,a.jh.length=k+1:=⟨a.jh.length-1,by omega⟩;rw[hk];have:=z6R (zW m 0 a.jh) a.s k;omega
theorem KAg.on_ok{m:zD}(h:zcp m){a:AgV}(ha:KAg m a):0<=z42 m a/\z42 m a<m.jf.length:=by
 have hl:=ha.yZ h;have e:z42 m a=a.jh[z4R m a]:=by simp[z42,jR,hl]
 rw[e];exact(ha.on h).1 _ (je hl)
theorem KAg.uJ{m:zD}(h:zcp m){a:AgV}(ha:KAg m a):0<=zmd m 0 a.jh/\zmd m 0 a.jh<=8000000:=by
 obtain⟨h1,_,h3⟩:=ha.on h;have:=zEC h a.jh 0 h1 (by omega);omega
theorem KAg.Af{m:zD}(h:zcp m){a:AgV}(ha:KAg m a){i:Nat}(hi:i<a.jh.length):0<=zb4 m a.jh i/\zb4 m a.jh i<=8000000:=by
 obtain⟨h1,_,h3⟩:=ha.on h;exact zmA (bar:=0) ⟨h,h3,h1,by omega⟩ hi
theorem z58(m:zD)(a:AgV)(st:List Int)(hl:st.length<=100):∀(f i:Nat),i+f=st.length ->
  Y L Cs z23 (some [7,8,6,3]) 2 [(7,.w (W (laF st a.s i))),(8,.w (W i)),(6,.w (.c (.jc (zu st)))),(3,.w (Pt 1))] [bx 5 (zf m),bx 7 (agC a)] =
    some (.exit 0,[(16,.w (Bo false)),(7,.w (W (laF st a.s st.length))),(8,.w (W st.length)),(6,.w (.c (.jc (zu st)))),(3,.w (Pt 1))],[bx 5 (zf m),bx 7 (agC a)]):=by
 intro f;induction f with
 |zero =>
  intro i hi;obtain rfl:i=st.length:=by omega
  rw[zj z23.eq_1];simp
 |succ f ih =>
  intro i hi;have hil:i<st.length:=by omega
  have hw:=zB (i:=i) (by omega);rw[<-ih (i+1) (by omega),zj z23.eq_1];clear ih;rw[laF];by_cases c:st[i]<=a.s
  ·have c':st.getD i 0<=a.s:=by simpa [hil]using c
   rw[if_pos c'];simp[agC,zf,hil,hw,c]
  ·have c':¬st.getD i 0<=a.s:=by simpa [hil]using c
   rw[if_neg c'];simp[agC,zf,hil,hw,c]
theorem z6w{m:zD}(h:zcp m){a:AgV}(ha:KAg m a):R L Cs z4n [.a (zf m),.a (agC a)] []=some (.t [W (z42 m a),W (a.s-zb4 m a.jh (z4R m a))],[]):=by
 obtain⟨_,_,h3⟩:=ha.on h;have hs:=ha.Af h (ha.yZ h);have hS:=zRG h ha.jh;have hl:=z58 m a (zW m 0 a.jh) (by rw[zcO];omega) a.jh.length 0 (by rw[zcO];omega);have h1:=ha.s;have h2:=ha.uJ h;have w1:=qc (a.s-zb4 m a.jh (z4R m a));have hat:=ha.yZ h;unfold z42;rw[zcO]at hl;have e1:laF (zW m 0 a.jh) a.s a.jh.length=z4R m a:=rfl;rw[e1,show laF (zW m 0 a.jh) a.s 0=0 from rfl]at hl;generalize z4R m a=k at *;have hk:k<(zW m 0 a.jh).length:=by rw[zcO];exact hat
 have e2:(zW m 0 a.jh)[k]=zb4 m a.jh k:=by simp[zb4,hk]
 simp only[zf,agC,ji]at hS hl;rw[zUa z4s rfl];simp[z3r,zf,agC,hS,hl,hk,hat,e2,w1,zg]
theorem z7e{m:zD}(h:zcp m){a:AgV}(ha:KAg m a):R L Cs z4o [.a (zf m),.a (agC a)] []=some (.w (Bo false),[]):=by
 have hS:=zEp h ha.jh;have h1:=ha.s;have h2:=ha.uJ h;have h3:=ha.len;have w1:=qc (a.s-a.len);have hc:¬zmd m 0 a.jh<a.s-a.len:=by omega
 simp only[zf]at hS;rw[zUa z4t rfl];simp[z3s,zf,agC,hS,w1,hc,zg]
theorem z6s{m:zD}(h:zcp m){a:AgV}(ha:KAg m a):R L Cs z4m [.a (agC a)] []=some (.w (Bo true),[]):=by
 have h1:=ha.s;have h2:=ha.uJ h;have h3:=ha.len;have c1:a.s<=1099511627776:=by omega
 have c2:0<=a.len:=by omega
 have c3:a.len<=1099511627776:=by omega
 rw[zUa z4r rfl];simp[z3q,agC,h1.1,c1,c2,c3,zg]
theorem z56(s:SnV)(i:Nat)(hi:i<s.agents.length)(hg:s.agents[i].gone=false):R L Cs z3I [.a (snC s),W i] []=some (.w (Bo (decide (s.agents[i].start<=s.tick))),[]):=by
 rw[zUa z4i rfl];by_cases c:s.agents[i].start<=s.tick
 ·simp[z3b,snC,agC,hi,c,hg,zg]
 ·simp[z3b,snC,agC,hi,c,hg,zg]
def z3z(m:zD)(a:AgV):Int:=if 0<=a.v/\a.v<=zeR (zaK m (z42 m a)) then 0 else 2
theorem z50{m:zD}{a:AgV}(h:¬z3z m a=0):z3z m a=2:=by unfold z3z at *;split at h<;>simp_all
theorem z5b{m:zD}{x:Int}(h:0<=x/\x<m.jf.length):∃j:Nat,∃hj:j<m.jf.length,x=(j:Int)/\zaK m x=m.jf[j].kind:=by
 obtain⟨j,rfl⟩:=js h.1;have hj:j<m.jf.length:=by omega
 exact⟨j,hj,rfl,by simp[zaK,hj]⟩
theorem z5q{m:zD}(h:zcp m)(s:SnV)(ht:0<=s.tick)(i:Nat)(hi:i<s.agents.length)(ha:KAg m s.agents[i])(h0:i=0->s.agents[i].start=0) :
  R L Cs z3u [.a (zf m),.a (snC s),W i] []=some (.w (W (z3z m s.agents[i])),[]):=by
 have hR:=zp0 m h.small h.yc s.agents[i].jh (by have:=(ha.on h).2.2;omega);rw[ha.jh]at hR;have hE:=zEp h ha.jh;have hL:=z6w h ha;have hG:=z7e h ha;have hend:=ha.uJ h;obtain⟨h1,h2,h3,h4,h5,h6⟩:=ha;have hon:=KAg.on_ok h ⟨h1,h2,h3,h4,h5,h6⟩;have hk:=zu9 h hon;have hB:=zhv hk;obtain⟨j,hj,ej,ek⟩:=z5b hon;unfold z3z;generalize s.agents[i].s-zb4 m s.agents[i].jh (z4R m s.agents[i])=off at *;generalize z42 m s.agents[i]=x at *;generalize hag:s.agents[i]=a at *;subst ej;have hnum:(decide (a.len<300)=false)/\decide (20000<a.len)=false/\decide (a.start<0)=false/\decide (1099511627776<a.start)=false/\decide (a.s<0)=false/\decide (zmd m 0 a.jh+a.len+2000<a.s)=false:=by
  refine⟨?_,?_,?_,?_,?_,?_⟩<;>simp<;>omega
 obtain⟨n1,n2,n3,n4,n5,n6⟩:=hnum;have w1:=qc (zmd m 0 a.jh+a.len);have w2:=qc (zmd m 0 a.jh+a.len+2000);have AL:(decide (s.tick<a.start) && !(a.s==0))=false:=by
  by_cases c:s.tick<a.start
  ·have:=h5 (by omega);simp[this]
  ·simp[c]
 have hzero:((i:Int)==0 && !(a.start==0))=false:=by
  by_cases c:i=0
  ·simp[h0 c]
  ·simp[c]
 have hob:(decide (s.tick<a.start) && !(a.s==0)||(i:Int)==0 && !(a.start==0))=false:=by rw[AL,hzero];rfl
 have m1:¬a.len<300:=by omega
 have m2:¬20000<a.len:=by omega
 have m3:¬a.start<0:=by omega
 have m4:¬1099511627776<a.start:=by omega
 have m5:¬a.s<0:=by omega
 have m6:¬zmd m 0 a.jh+a.len+2000<a.s:=by omega
 rw[ek]at hB ⊢;simp only[zf,agC,h6]at hR hE hL hG hB;rw[zUa z3W rfl];by_cases c1:a.v<0
 ·have c1':¬(0<=a.v/\a.v<=zeR m.jf[j].kind):=by omega
  rw[if_neg c1'];simp[z2w,zf,snC,hi,hag,agC,zo,hj,hR,hE,hL,hG,hB,h6,w1,w2,m1,m2,m3,m4,m5,m6,c1,zg,zH]
 ·by_cases c2:zeR m.jf[j].kind<a.v
  ·have c1':¬(0<=a.v/\a.v<=zeR m.jf[j].kind):=by omega
   rw[if_neg c1'];simp[z2w,zf,snC,hi,hag,agC,zo,hj,hR,hE,hL,hG,hB,h6,w1,w2,m1,m2,m3,m4,m5,m6,c1,c2,zg,zH]
  ·have c1':(0<=a.v/\a.v<=zeR m.jf[j].kind):=by omega
   rw[if_pos c1'];by_cases d1:s.tick<a.start
   ·have d2:a.s=0:=h5 (by omega);have d3:i≠0:=by intro e;have:=h0 e;omega
    have d3':((i:Int)==0)=false:=by simp[d3]
    have d2b:(a.s !=0)=false:=by simp[d2]
    simp[z2w,zf,snC,hi,hag,agC,zo,hj,hR,hE,hL,hG,hB,h6,w1,w2,m1,m2,m3,m4,m5,m6,c1,c2,d1,d2b,d3',zg,zH]
   ·by_cases d3:i=0
    ·have d4:=h0 d3;have d3b:((i:Int)==0)=true:=by simp[d3]
     have d4b:(a.start !=0)=false:=by simp[d4]
     simp[z2w,zf,snC,hi,hag,agC,zo,hj,hR,hE,hL,hG,hB,h6,w1,w2,m1,m2,m3,m4,m5,m6,c1,c2,d1,d3b,d4b,zg,zH]
    ·have d3':((i:Int)==0)=false:=by simp[d3]
     simp[z2w,zf,snC,hi,hag,agC,zo,hj,hR,hE,hL,hG,hB,h6,w1,w2,m1,m2,m3,m4,m5,m6,c1,c2,d1,d3,d3',zg,zH]
abbrev z3A:z2T:=⟨0,0,0,0⟩
def z7a(x y:z2T):Bool:=decide (x.ks<y.ks)||decide (x.ks=y.ks)&&decide (x.k9<=y.k9)
def z5F(nA nZ:Nat)(l:List z2T)(i:Nat):Bool :=
 decide ((l.getD i z3A).ks<0)||decide ((nA:Int)<=(l.getD i z3A).ks)||decide ((l.getD i z3A).k9<0)||decide ((nZ:Int)<=(l.getD i z3A).k9)||(match i with |0=>false |k+1=>z7a (l.getD (k+1) z3A) (l.getD k z3A))
def zIY(tick:Int)(x:z2T):Bool:=decide (x.since<0)||decide (tick<x.since)||decide (x.uE<0)||decide (100<x.uE)
structure KSn(m:zD)(s:SnV):Prop where
 tick:0<=s.tick/\s.tick<=1099511627776
 ags:∀a∈s.agents,KAg m a
 few:s.agents.length<=8
 some:0<s.agents.length
 first:(s.agents[0]'some).start=0
 ins:s.ins.length<=1000
def z31(m:zD)(s:SnV):Int :=
 if s.agents.any (fun a=>decide (z3z m a≠0)) then 2 else
 if(List.range s.ins.length).any (z5F s.agents.length m.ke.length s.ins) then 11 else
 if s.ins.any (zIY s.tick) then 2 else 0
theorem z5V(m:zD)(s:SnV)(hn:s.ins.length<=1000)(i:Nat)(hi:i<s.ins.length) :
  Y L Cs z2F (some [7,2,3]) 2 [(7,.w (W i)),(2,.w (Pt 0)),(3,.w (Pt 1))] [bx 5 (zf m),bx 3 (snC s)] =
    if z5F s.agents.length m.ke.length s.ins i then some (.ret,[(4,.w (W 11))],[bx 5 (zf m),bx 3 (snC s),bxv 1 4 (z29 s.ins[i])])
    else Y L Cs z2F (some [7,2,3]) 2 [(7,.w (W (i+1:Nat))),(2,.w (Pt 0)),(3,.w (Pt 1))] [bx 5 (zf m),bx 3 (snC s)]:=by
 have hw:=zB (i:=i) (by omega);rw[zj z2F.eq_1];unfold z5F;rw[show s.ins.getD i z3A=s.ins[i] by simp[hi]];by_cases c1:s.ins[i].ks<0
 ·simp[snC,z29,zf,hi,c1,zg,zH]
 by_cases c2:(s.agents.length:Int)<=s.ins[i].ks
 ·simp[snC,z29,zf,hi,c1,c2,zg,zH]
 by_cases c3:s.ins[i].k9<0
 ·simp[snC,z29,zf,hi,c1,c2,c3,zg,zH]
 by_cases c4:(m.ke.length:Int)<=s.ins[i].k9
 ·simp[snC,z29,zf,hi,c1,c2,c3,c4,zg,zH]
 cases i with
 |zero =>
  have w1:IntKind.i64.wrap 1=1:=rfl;simp[snC,z29,zf,hi,w1,c1,c2,c3,c4,zg,zH]
 |succ k =>
  have hk:k<s.ins.length:=by omega
  have wk:=qc (k:Int);simp only[show s.ins.getD (k+1) z3A=s.ins[k+1] by simp[hi],show s.ins.getD k z3A=s.ins[k] by simp[hk]];unfold z7a;have kA:(0:Int)<(k:Int)+1:=by omega
  have a0:IntKind.i64.wrap ((k:Int)+1-1)=(k:Int):=by rw[zTd _ (by omega) (by omega)];omega
  have a1:(0:Int)<=(k:Int)+1:=by omega
  have a2:(k:Int)+1<(s.ins.length:Int):=by omega
  have a3:((k:Int)+1).toNat=k+1:=by omega
  have a4:(k:Int)<(s.ins.length:Int):=by omega
  have hw2:=qc ((k:Int)+1+1);generalize hy:s.ins[k]=y at *;generalize hx:s.ins[k+1]=x at *;by_cases c5:x.ks<y.ks
  ·simp[snC,z29,zf,hi,hx,hy,a0,a1,a2,a3,a4,hk,wk,kA,c1,c2,c3,c4,c5,zg,zH]
  by_cases c6:x.ks=y.ks
  ·have c6':(x.ks==y.ks)=true:=by simp[c6]
   have c6d:decide (x.ks=y.ks)=true:=by simp[c6]
   by_cases c7:x.k9<=y.k9
   ·simp[snC,z29,zf,hi,hx,hy,a0,a1,a2,a3,a4,hk,wk,kA,c1,c2,c3,c4,c5,c6',c6d,c7,zg,zH]
   ·simp[snC,z29,zf,hi,hx,hy,a0,a1,a2,a3,a4,hk,hw2,wk,kA,c1,c2,c3,c4,c5,c6',c6d,c7,zg,zH]
  ·have c6':(x.ks==y.ks)=false:=by simp[c6]
   simp[snC,z29,zf,hi,hx,hy,a0,a1,a2,a3,a4,hk,hw2,wk,kA,c1,c2,c3,c4,c5,c6',c6,zg,zH]
theorem z6G{m:zD}(h:zcp m)(s:SnV)(hs:KSn m s):Y L Cs z2G (some [2,3,6]) 2 [(2,.w (Pt 0)),(3,.w (Pt 1)),(6,.w (W 0))] [bx 5 (zf m),bx 3 (snC s)] =
  some (if s.agents.any (fun a=>decide (z3z m a≠0)) then(.ret,[(4,.w (W 2))],[bx 5 (zf m),bx 3 (snC s)]) else(.exit 0,[(36,.w (Bo false)),(3,.w (Pt 1)),(2,.w (Pt 0)),(6,.w (W s.agents.length))],[bx 5 (zf m),bx 3 (snC s)])):=by
 have v9:=hs.few;have hC:∀(i:Nat) (hi:i<s.agents.length),R L Cs z3u [.a (zf m),.a (snC s),W i] []=some (.w (W (z3z m s.agents[i])),[]):=fun i hi=>z5q h s hs.tick.1 i hi (hs.ags _ (je hi)) (by rintro rfl;exact hs.first)
 have:=zpE (L:=L) (Cs:=Cs) (b:=z2G) (live:=some [2,3,6]) (n0:=2) s.agents (fun i=>[(2,.w (Pt 0)),(3,.w (Pt 1)),(6,.w (W i))]) [bx 5 (zf m),bx 3 (snC s)] (fun a=>decide (z3z m a≠0)) (.ret,[(4,.w (W 2))],[bx 5 (zf m),bx 3 (snC s)]) (.exit 0,[(36,.w (Bo false)),(3,.w (Pt 1)),(2,.w (Pt 0)),(6,.w (W s.agents.length))],[bx 5 (zf m),bx 3 (snC s)])
  (fun i hi hb=>by
   have hw:=zB (i:=i) (by omega);have hc:=hC i hi;have e0:z3z m s.agents[i]=0:=by simpa using hb
   rw[e0]at hc;simp only[zf,snC]at hc;rw[zj z2G.eq_1];simp[zf,snC,hi,hw,hc])
  (fun i hi hb=>by
   have hc:=hC i hi;have e0:z3z m s.agents[i]=2:=z50 (by simpa using hb);rw[e0]at hc;simp only[zf,snC]at hc;rw[zj z2G.eq_1];simp[zf,snC,hi,hc])
  (by rw[zj z2G.eq_1];simp[snC,zf])
 simpa using this
theorem z5f{m:zD}(h:zcp m)(s:SnV)(hs:KSn m s):R L Cs z3m [.a (zf m),.a (snC s)] []=some (.w (W (z31 m s)),[]):=by
 have hk:=h.yc;have ht:=hs.tick;have v9:=hs.few;have qM:=hs.some;have vP:=hs.ins;have h1:=z6G h s hs;have h2:=zxf (L:=L) (Cs:=Cs) (b:=z2F) (live:=some [7,2,3]) (n0:=2) (List.range s.ins.length) (fun i=>[(7,.w (W i)),(2,.w (Pt 0)),(3,.w (Pt 1))]) [bx 5 (zf m),bx 3 (snC s)] (z5F s.agents.length m.ke.length s.ins) (fun i=>(.ret,[(4,.w (W 11))],[bx 5 (zf m),bx 3 (snC s),bxv 1 4 (z29 (s.ins.getD i z3A))])) (.exit 2,[(50,.w (Bo false)),(7,.w (W s.ins.length)),(2,.w (Pt 0)),(3,.w (Pt 1))],[bx 5 (zf m),bx 3 (snC s)])
  (fun i hi hb=>by
   rw[kE]at hi;rw[kN]at hb;rw[z5V m s vP i hi,hb];simp)
  (fun i hi hb=>by
   rw[kE]at hi;rw[kN]at hb;rw[z5V m s vP i hi,hb];simp[hi])
  (by rw[zj z2F.eq_1];simp[snC,zf])
 have h3:=zxf (L:=L) (Cs:=Cs) (b:=z2R) (live:=some [3,9]) (n0:=2) s.ins (fun i=>[(3,.w (Pt 1)),(9,.w (W i))]) [bx 5 (zf m),bx 3 (snC s)] (zIY s.tick) (fun i=>(.ret,[(4,.w (W 2))],[bx 5 (zf m),bx 3 (snC s),bxv 1 4 (z29 (s.ins.getD i z3A))])) (.exit 4,[(124,.w (Bo false)),(3,.w (Pt 1)),(9,.w (W s.ins.length))],[bx 5 (zf m),bx 3 (snC s)])
  (fun i hi hb=>by
   have hw:=zB (i:=i) (by omega);unfold zIY at hb;simp only[Bool.or_eq_false_iff,decide_eq_false_iff_not]at hb;rw[zj z2R.eq_1];simp[zf,snC,z29,hi,hw,hb,zg,zH])
  (fun i hi hb=>by
   rw[zj z2R.eq_1];rw[show s.ins.getD i z3A=s.ins[i] by simp[hi]];unfold zIY at hb;by_cases c1:s.ins[i].since<0
   ·simp[zf,snC,z29,hi,c1,zg,zH]
   by_cases c2:s.tick<s.ins[i].since
   ·simp[zf,snC,z29,hi,c1,c2,zg,zH]
   by_cases c3:s.ins[i].uE<0
   ·simp[zf,snC,z29,hi,c1,c2,c3,zg,zH]
   by_cases c4:100<s.ins[i].uE
   ·simp[zf,snC,z29,hi,c1,c2,c3,c4,zg,zH]
   ·simp[c1,c2,c3,c4]at hb)
  (by rw[zj z2R.eq_1];simp[snC,zf])
 have t1:¬s.tick<0:=by omega
 have t2:¬1099511627776<s.tick:=by omega
 have t3:((s.agents.length:Int)==0)=false:=beq_false_of_ne (by omega);have t3':s.agents≠[]:=by intro e;simp[e]at qM
 have t4:¬8<s.agents.length:=by omega
 have t4':¬(8:Int)<s.agents.length:=by omega
 unfold z31;simp only[zf,snC,ji]at hk h1 h2 h3;rw[zUa z3L rfl];by_cases c1:s.agents.any (fun a=>decide (z3z m a≠0))
 ·rw[if_pos c1]at h1 ⊢;simp[z2I,zf,snC,hk,t1,t2,t3,t3',t4,t4',h1,zg]
 ·rw[if_neg c1]at h1 ⊢;cases e2:(List.range s.ins.length).findIdx? (z5F s.agents.length m.ke.length s.ins)with
  |some i =>
   rw[zRn _ _ e2];rw[e2]at h2;simp[z2I,zf,snC,hk,t1,t2,t3,t3',t4,t4',h1,h2,zg]
  |none =>
   rw[zRq _ _ e2];rw[e2]at h2;cases e3:s.ins.findIdx? (zIY s.tick)with
   |some i =>
    rw[e3]at h3;obtain⟨g1,g2,_⟩:=jC.1 e3;have:s.ins.any (zIY s.tick)=true:=kx.2 ⟨_,je g1,g2⟩;rw[this];simp[z2I,zf,snC,hk,t1,t2,t3,t3',t4,t4',h1,h2,h3,zg]
   |none =>
    rw[e3]at h3;rw[jV]at e3;have:s.ins.any (zIY s.tick)=false:=by simpa using e3
    rw[this];simp[z2I,zf,snC,hk,t1,t2,t3,t3',t4,t4',h1,h2,h3,zg]
theorem z47(m:zD)(a:AgV)(st:List Int)(hl:st.length<=100)(h0:st.getD 0 0<=a.s):∀(k:Nat),k<st.length ->
  Y L Cs z3V (some [7,6,3]) 2 [(7,.w (W k)),(6,.w (.c (.jc (zu st)))),(3,.w (Pt 1))] [bx 5 (zf m),bx 7 (agC a)] =
    some (.exit 0,[(21,.w (Bo false)),(7,.w (W (laF st a.s (k+1)))),(6,.w (.c (.jc (zu st)))),(3,.w (Pt 1))],[bx 5 (zf m),bx 7 (agC a)])
 |k,hk=>by
  have e:st.getD k 0=st[k]:=by simp[hk]
  rw[laF,zj z3V.eq_1];by_cases c:st[k]<=a.s
  ·have c2:¬a.s<st[k]:=by omega
   rw[if_pos (by rw[e];exact c)];simp[agC,zf,hk,c2]
  ·have c2:a.s<st[k]:=by omega
   rw[if_neg (by rw[e];exact c)]
   match k,hk with
   |0,hk=>rw[e]at h0;omega
   |k+1,hk =>
    have ih:=z47 m a st hl h0 k (by omega);have a0:IntKind.i64.wrap ((k:Int)+1-1)=(k:Int):=by rw[zTd _ (by omega) (by omega)];omega
    have wk:=qc (k:Int);have a1:(0:Int)<=(k:Int)+1:=by omega
    have a2:(k:Int)+1<(st.length:Int):=by omega
    have a3:((k:Int)+1).toNat=k+1:=by omega
    rw[<-ih];clear ih;simp[agC,zf,hk,c2,a0,a1,a2,a3,wk]
theorem z7u(m:zD)(x:Int)(r:List Int):zb4 m (x::r) 0=0:=by simp[zb4,zW]
theorem z6v{m:zD}(h:zcp m){a:AgV}(ha:KAg m a):R L Cs z5B [.a (zf m),.a (agC a)] []=some (.t [W (z42 m a),W (a.s-zb4 m a.jh (z4R m a))],[]):=by
 obtain⟨_,hne,h3⟩:=ha.on h;have hs:=ha.Af h (ha.yZ h);have hS:=zAY h ha.jh;have h1:=ha.s;have h2:=ha.uJ h;have kA:0<a.jh.length:=jD.2 hne;have hz:(zW m 0 a.jh).getD 0 0<=a.s:=by
  have:zb4 m a.jh 0=0:=by
   cases hr:a.jh with
   |nil=>exact absurd hr hne
   |cons x r=>exact z7u m x r
  unfold zb4 at this;omega
 have hl:=z47 m a (zW m 0 a.jh) (by rw[zcO];omega) hz (a.jh.length-1) (by rw[zcO];omega);have w1:=qc (a.s-zb4 m a.jh (z4R m a));have w2:IntKind.i64.wrap ((a.jh.length:Int)-1)=((a.jh.length-1:Nat):Int):=by rw[zTd _ (by omega) (by omega)];omega
 have hat:=ha.yZ h;unfold z42;rw[show a.jh.length-1+1=a.jh.length by omega]at hl;have e1:laF (zW m 0 a.jh) a.s a.jh.length=z4R m a:=rfl;rw[e1]at hl;generalize a.jh.length-1=n at *;generalize z4R m a=k at *;have hk:k<(zW m 0 a.jh).length:=by rw[zcO];exact hat
 have e2:(zW m 0 a.jh)[k]=zb4 m a.jh k:=by simp[zb4,hk]
 simp only[zf,agC]at hS hl;rw[zUa z5L rfl];simp[z4e,zf,agC,hS,zcO,w2,hl,hk,hat,e2,w1,zg]
theorem z6q{a:AgV}(h1:0<=a.s/\a.s<=100000000)(h2:0<=a.len/\a.len<=20000):R L Cs z5C [.a (agC a)] []=some (.w (.a [I (a.s-a.len),I a.s]),[]):=by
 have w1:=qc (a.s-a.len);rw[zUa z5M rfl];simp[z4f,agC,w1,zg,zX]
theorem z7c{m:zD}(h:zcp m){a:AgV}(ha:KAg m a):R L Cs z5A [.a (zf m),.a (agC a)] []=some (.w (Bo false),[]):=by
 have hS:=zsq h ha.jh;have h1:=ha.s;have h2:=ha.uJ h;have h3:=ha.len;have hB:=z6q (a:=a) (by omega) (by omega);have hc:¬zmd m 0 a.jh<a.s-a.len:=by omega
 simp only[zf,agC]at hS hB;rw[zUa z5K rfl];simp[z4d,zf,agC,hS,hB,hc,zg]
theorem z7b{m:zD}(h:zcp m){a:AgV}(ha:KAg m a):R L Cs z5z [.a (agC a)] []=some (.w (Bo true),[]):=by
 have h1:=ha.s;have h2:=ha.uJ h;have h3:=ha.len;have c1:a.s<=1099511627776:=by omega
 have c2:0<=a.len:=by omega
 have c3:a.len<=1099511627776:=by omega
 rw[zUa z5J rfl];simp[z4c,agC,h1.1,c1,c2,c3,zg]
theorem z52(s:SnV)(i:Nat)(hi:i<s.agents.length)(hg:s.agents[i].gone=false):R L Cs z5m [.a (snC s),W i] []=some (.w (Bo (decide (s.agents[i].start<=s.tick))),[]):=by
 rw[zUa z5s rfl];by_cases c:s.agents[i].start<=s.tick
 ·simp[z3T,snC,agC,hi,c,hg,zg]
 ·simp[z3T,snC,agC,hi,c,hg,zg]
def z6H(x y:z2T):Int:=if zgQ x.ks y.ks≠0 then zgQ x.ks y.ks else zgQ x.k9 y.k9
theorem z67(x y:z2T):decide (0<=z6H y x)=z7a x y:=by
 unfold z6H z7a zgQ;by_cases c1:x.ks<y.ks
 ·have:¬y.ks<x.ks:=by omega
  simp[c1,this]
 ·by_cases c2:x.ks=y.ks
  ·rw[c2];by_cases c3:y.k9<x.k9
   ·have:¬x.k9<=y.k9:=by omega
    simp[c3,this]
   ·have:x.k9<=y.k9:=by omega
    by_cases c4:x.k9<y.k9<;>simp[c3,c4,this]
  ·have:y.ks<x.ks:=by omega
   simp[c1,c2,this]
theorem z7h(x y:z2T):R L Cs z5l [.a (z29 x),.a (z29 y)] []=some (.w (W (z6H x y)),[]):=by
 have h1:=zsr x.ks y.ks;have h2:=zsr x.k9 y.k9;have h3:=zA0 (zgQ x.ks y.ks) (zgQ x.k9 y.k9);rw[zUa z5r rfl];unfold z6H;simp only[zaP,zay]at h3;simp[z33,z29,h1,h2,h3,zg,zX]
theorem z6S(l:List z2T)(hl:l.length<=100000000000)(fnv:Cl)(f:z2T->Bool)(M:Mem)(hc:∀p∈l,zx (R L Cs) ⟨true⟩ (.c fnv) [.a (z29 p)] M=some (.w (Bo (f p)),M,.no)) :
  ∃k:Int,R L Cs z36 [.c (.jc (z2H l)),.c fnv] M=some (.w (W k),M)/\(decide (0<=k)=l.any f):=by
 have htk:∀p:z2T,List.take (z29 p).length (z29 p)=z29 p:=fun p=>List.take_length
 have h:=zxf (L:=L) (Cs:=Cs) (b:=z2N) (live:=some [7,1,0,8]) (n0:=M.length) l (fun i=>[(7,.w (W l.length)),(1,.w (.c fnv)),(0,.w (.c (.jc (z2H l)))),(8,.w (W i))]) M f (fun i=>(.ret,[(4,.w (W i))],M)) (.exit 0,[(9,.w (Bo false)),(0,.w (.c (.jc (z2H l)))),(1,.w (.c fnv)),(7,.w (W l.length)),(8,.w (W l.length))],M) ?_ ?_ ?_
 ·cases hq:l.findIdx? f with
  |none =>
   rw[hq]at h;refine⟨-1,?_,?_⟩
   ·simp only[ji]at h;rw[zUa z3G rfl];simp[z27,h]
   ·rw[jV]at hq;have:l.any f=false:=by simpa using hq
    rw[this];decide
  |some k =>
   rw[hq]at h;refine⟨k,?_,?_⟩
   ·simp only[ji]at h;rw[zUa z3G rfl];simp[z27,h]
   ·obtain⟨h1,h2,_⟩:=jC.1 hq;have:l.any f=true:=kx.2 ⟨_,je h1,h2⟩;rw[this];simp
 ·intro i hi hp;have hw:=zB (i:=i) (by omega);have hcc:=hc l[i] (je hi);have ht:=htk l[i];simp only[z5R]at ht;rw[hp]at hcc;rw[zj z2N.eq_1];simp[hi,hw,hcc,ht,-zx]
 ·intro i hi hp;have hcc:=hc l[i] (je hi);have ht:=htk l[i];simp only[z5R]at ht;rw[hp]at hcc;rw[zj z2N.eq_1];simp[hi,hcc,ht,-zx]
 ·rw[zj z2N.eq_1];simp
theorem z5c(l:List zk)(hl:l.length<=100000000000)(fnv:Cl)(f:zk->Bool)(M:Mem)(hc:∀p∈l,zx (R L Cs) ⟨true⟩ (.c fnv) [.a (ze p)] M=some (.w (Bo (f p)),M,.no)) :
  ∃k:Int,R L Cs zjK [.c (.jc (zI l)),.c fnv] M=some (.w (W k),M)/\(decide (0<=k)=l.any f):=by
 have htk:∀p:zk,List.take (ze p).length (ze p)=ze p:=fun p=>List.take_length
 have h:=zxf (L:=L) (Cs:=Cs) (b:=zbF) (live:=some [7,1,0,8]) (n0:=M.length) l (fun i=>[(7,.w (W l.length)),(1,.w (.c fnv)),(0,.w (.c (.jc (zI l)))),(8,.w (W i))]) M f (fun i=>(.ret,[(4,.w (W i))],M)) (.exit 0,[(9,.w (Bo false)),(0,.w (.c (.jc (zI l)))),(1,.w (.c fnv)),(7,.w (W l.length)),(8,.w (W l.length))],M) ?_ ?_ ?_
 ·cases hq:l.findIdx? f with
  |none =>
   rw[hq]at h;refine⟨-1,?_,?_⟩
   ·simp only[ji]at h;rw[zUa zj5 rfl];simp[zc2,h]
   ·rw[jV]at hq;have:l.any f=false:=by simpa using hq
    rw[this];decide
  |some k =>
   rw[hq]at h;refine⟨k,?_,?_⟩
   ·simp only[ji]at h;rw[zUa zj5 rfl];simp[zc2,h]
   ·obtain⟨h1,h2,_⟩:=jC.1 hq;have:l.any f=true:=kx.2 ⟨_,je h1,h2⟩;rw[this];simp
 ·intro i hi hp;have hw:=zB (i:=i) (by omega);have hcc:=hc l[i] (je hi);have ht:=htk l[i];simp only[zDd]at ht;rw[hp]at hcc;rw[zj zbF.eq_1];simp[hi,hw,hcc,ht,-zx]
 ·intro i hi hp;have hcc:=hc l[i] (je hi);have ht:=htk l[i];simp only[zDd]at ht;rw[hp]at hcc;rw[zj zbF.eq_1];simp[hi,hcc,ht,-zx]
 ·rw[zj zbF.eq_1];simp
def z4Q(m:zD)(a:AgV)(i:Nat)(x:Int):Spn:=⟨x,max 0 (a.s-a.len-zb4 m a.jh i),min (a.s-zb4 m a.jh i) (z8 m x)⟩
def z4F(m:zD)(a:AgV):Nat->List Int->List Spn
 |_,[]=>[]
 |i,x::r=>(if(z4Q m a i x).lo<=(z4Q m a i x).hi then [z4Q m a i x] else [])++z4F m a (i+1) r
theorem z51(m:zD)(a:AgV):∀(r:List Int) (i:Nat),(z4F m a i r).length<=r.length
 |[],_=>by simp[z4F]
 |x::r,i=>by
  have:=z51 m a r (i+1);unfold z4F;split<;>simp<;>omega
def z2B(m:zD)(a:AgV):List Spn:=z4F m a 0 a.jh
theorem z38{m:zD}(h:zcp m){a:AgV}(ha:KAg m a):(z2B m a).length<=8:=by
 have:=z51 m a a.jh 0;have:=(ha.on h).2.2;unfold z2B;omega
theorem z7d{m:zD}(h:zcp m){x:Int}(hx:0<=x/\x<m.jf.length):R L Cs zri [.a (zf m),W x] []=some (.w (W (z8 m x)),[]):=by
 obtain⟨j,rfl⟩:=js hx.1;have hj:j<m.jf.length:=by omega
 have e:z8 m j=m.jf[j].len:=by simp[z8,hj]
 rw[e];exact zrQ h hj
theorem z59{m:zD}(h:zcp m){a:AgV}(ha:KAg m a):∀(r:List Int) (i:Nat) (out:List Spn),a.jh.drop i=r->i<=a.jh.length->out.length<=i ->
  Y L Cs z2V (some [5,7,6,2,3]) 4 [(5,.w (.c (sl 3 3 (zWx out)))),(7,.w (W i)),(6,.w (.c (.jc (zu (zW m 0 a.jh))))),(2,.w (Pt 0)),(3,.w (Pt 1))] [bx 5 (zf m),bx 7 (agC a),gb 3,some (own 3 (zWx out))] =
    some (.exit 0,[(20,.w (Bo false)),(5,.w (.c (sl 3 3 (zWx (out++z4F m a i r))))),(7,.w (W a.jh.length)),(6,.w (.c (.jc (zu (zW m 0 a.jh))))),(2,.w (Pt 0)),(3,.w (Pt 1))],[bx 5 (zf m),bx 7 (agC a),gb 3,some (own 3 (zWx (out++z4F m a i r)))]):=by
 obtain⟨hon,hne,hl8⟩:=ha.on h;have hsl:(zW m 0 a.jh).length=a.jh.length:=zcO _ _ _;intro r;induction r with
 |nil =>
  intro i out hd hi ho;obtain rfl:=zUb hd hi;rw[zj z2V.eq_1];simp[z4F,hsl]
 |cons x r ih =>
  intro i out hd hi ho;obtain⟨hil,hx,hd'⟩:=zL hd;have hw:=zB (i:=i) (by omega);have hxm:=hon x (by rw[<-hx];exact je _);have hL:=zEV h hxm;have hst:=ha.Af h hil;have h1:=ha.s;have h2:=ha.uJ h;have h3:=ha.len;have hsi:i<(zW m 0 a.jh).length:=by omega
  have e2:(zW m 0 a.jh)[i]=zb4 m a.jh i:=by simp[zb4,hsi]
  have w1:=qc (a.s-a.len);have w2:=qc (a.s-a.len-zb4 m a.jh i);have w3:=qc (a.s-zb4 m a.jh i);have kj:(out.length+1)*24<=140737488355328:=by omega
  have hci:(i:Int)<a.jh.length:=by omega
  unfold z4F;simp only[zf]at hL;by_cases c:(z4Q m a i x).lo<=(z4Q m a i x).hi
  ·rw[if_pos c,<-kV,<-ih (i+1) (out++[z4Q m a i x]) hd' hil (by simp;omega),zj z2V.eq_1];clear ih;simp only[z4Q]at c;simp[z4Q,zWX,agC,hil,hci,hx,hsl,hsi,e2,hL,zf,hw,w1,w2,w3,c,kj,zg,zH]
  ·rw[if_neg c,jP,<-ih (i+1) out hd' hil (by omega),zj z2V.eq_1];clear ih;simp only[z4Q]at c;simp[agC,hil,hci,hx,hsl,hsi,e2,hL,zf,hw,w1,w2,w3,c,zg,zH]
theorem z5H{m:zD}(h:zcp m){a:AgV}(ha:KAg m a):R L Cs z4p [.a (zf m),.a (agC a)] []=some (.w (.c (.jc (zWx (z2B m a)))),[]):=by
 have hl:=z59 h ha a.jh 0 [] rfl (jE _) (jm _);have hS:=zRG h ha.jh;have vM:=z6s h ha;rw[jP]at hl;have e:z4F m a 0 a.jh=z2B m a:=rfl;rw[e]at hl;simp only[zf,agC,ji,sl,own,zZb,jL,zXJ]at hl hS vM;rw[zUa z4v rfl];simp[z3t,zf,agC,vM,hS,hl,zg,zX]
theorem z53(a b c:Int)(h:-9223372036854775808<=a-c/\a-c<=9223372036854775807)(h':-9223372036854775808<=b-c/\b-c<=9223372036854775807):R L Cs z4O [.a [I a,I b],W c] []=some (.w (.a [I (a-c),I (b-c)]),[]):=by
 have w1:=qc (a-c);have w2:=qc (b-c);rw[zUa z4T rfl];simp[z3J,w1,w2,zg,zX]
theorem z6e(a b c d:Int):R L Cs z4U [.a [I a,I b],.a [I c,I d]] []=some (.w (.a [I (max a c),I (min b d)]),[]):=by
 rw[zUa z4V rfl];simp[z3Q,zg,zX]
theorem z5G(a b:Int):R L Cs z4E [.a [I a,I b]] []=some (.w (Bo (decide (b<a))),[]):=by
 rw[zUa z4I rfl];simp[z3E,zg]
theorem z57{m:zD}(h:zcp m){a:AgV}(ha:KAg m a):∀(r:List Int) (i:Nat) (out:List Spn),a.jh.drop i=r->i<=a.jh.length->out.length<=i ->
  Y L Cs z3o (some [5,18,17,16,3,2]) 4 [(5,.w (.c (sl 3 3 (zWx out)))),(18,.w (W i)),(17,.w (W a.jh.length)),(16,.w (.c (.jc (zu (zW m 0 a.jh))))),(3,.w (Pt 1)),(2,.w (Pt 0))] [bx 5 (zf m),bx 7 (agC a),gb 3,some (own 3 (zWx out))] =
    some (.exit 0,[(19,.w (Bo false)),(5,.w (.c (sl 3 3 (zWx (out++z4F m a i r))))),(18,.w (W a.jh.length)),(17,.w (W a.jh.length)),(16,.w (.c (.jc (zu (zW m 0 a.jh))))),(3,.w (Pt 1)),(2,.w (Pt 0))],[bx 5 (zf m),bx 7 (agC a),gb 3,some (own 3 (zWx (out++z4F m a i r)))]):=by
 obtain⟨hon,hne,hl8⟩:=ha.on h;have hsl:(zW m 0 a.jh).length=a.jh.length:=zcO _ _ _;intro r;induction r with
 |nil =>
  intro i out hd hi ho;obtain rfl:=zUb hd hi;rw[zj z3o.eq_1];simp[z4F]
 |cons x r ih =>
  intro i out hd hi ho;obtain⟨hil,hx,hd'⟩:=zL hd;have hw:=zB (i:=i) (by omega);have hxm:=hon x (by rw[<-hx];exact je _);have hL:=z7d h hxm;have hlen:=zcX h hxm;have hst:=ha.Af h hil;have h1:=ha.s;have h2:=ha.uJ h;have h3:=ha.len;have hsi:i<(zW m 0 a.jh).length:=by omega
  have e2:(zW m 0 a.jh)[i]=zb4 m a.jh i:=by simp[zb4,hsi]
  have hB:=z6q (a:=a) (by omega) (by omega);have hB2:=z53 (a.s-a.len) a.s (zb4 m a.jh i) (by omega) (by omega);have hB3:=z6e (a.s-a.len-zb4 m a.jh i) (a.s-zb4 m a.jh i) 0 (z8 m x);have hB4:=z5G (max (a.s-a.len-zb4 m a.jh i) 0) (min (a.s-zb4 m a.jh i) (z8 m x));rw[Int.max_comm (a.s-a.len-zb4 m a.jh i) 0]at hB3 hB4;have kj:(out.length+1)*24<=140737488355328:=by omega
  have hci:(i:Int)<a.jh.length:=by omega
  unfold z4F;simp only[zf,agC]at hL hB;by_cases c:(z4Q m a i x).lo<=(z4Q m a i x).hi
  ·rw[if_pos c,<-kV,<-ih (i+1) (out++[z4Q m a i x]) hd' hil (by simp;omega),zj z3o.eq_1];clear ih;simp only[z4Q]at c ⊢;generalize max 0 (a.s-a.len-zb4 m a.jh i)=p at *;generalize min (a.s-zb4 m a.jh i) (z8 m x)=q at *;have c':¬q<p:=by omega
   rw[decide_eq_false c']at hB4;simp[zWX,agC,hil,hci,hx,hsi,e2,hL,zf,hw,hB,hB2,hB3,hB4,c,kj,zg,zH]
  ·rw[if_neg c,jP,<-ih (i+1) out hd' hil (by omega),zj z3o.eq_1];clear ih;simp only[z4Q]at c;generalize max 0 (a.s-a.len-zb4 m a.jh i)=p at *;generalize min (a.s-zb4 m a.jh i) (z8 m x)=q at *;have c':q<p:=by omega
   rw[decide_eq_true c']at hB4;simp[agC,hil,hci,hx,hsi,e2,hL,zf,hw,hB,hB2,hB3,hB4,c,zg,zH]
theorem z6r{m:zD}(h:zcp m){a:AgV}(ha:KAg m a):R L Cs z5D [.a (zf m),.a (agC a)] []=some (.w (.c (.jc (zWx (z2B m a)))),[]):=by
 have hl:=z57 h ha a.jh 0 [] rfl (jE _) (jm _);have hS:=zAY h ha.jh;have vM:=z7b h ha;have hsl:(zW m 0 a.jh).length=a.jh.length:=zcO _ _ _;rw[jP]at hl;have e:z4F m a 0 a.jh=z2B m a:=rfl;rw[e]at hl;simp only[zf,agC,ji,sl,own,zZb,jL,zXJ]at hl hS vM;rw[zUa z5N rfl];simp[z4g,zf,agC,vM,hS,hsl,hl,zg,zX]
structure z7y(m:zD)(zs:List Zon)(ss:List Sgn):Prop where
 full:zmq m zs ss
 pos:0<m.jf.length
 zn2:zs.length<=2
 srt:∀l,zdA m l=0->zN1 (zKh m zs 0 l)
 few:∀l,zdA m l=0->(zKh m zs 0 l).length<=19
theorem z7A(k:Nat)(hk:k<7){lim r o1 o2 o3 v:Int}{ws:List zCP}(nu:zp2 k lim r o1 o2 o3 v ws):z7y (zq k lim r o1 o2 o3 v ws) (zsP k r) (ssP k r o1 o2 o3):=by
 have hf:=zCE k hk nu;obtain⟨z1,z2⟩:=zOQ k hk r;refine⟨hf,zE9 k hk _ _ _ _ _ _ _,z1,fun l hr=>zMq (zTp hf.shal (zQa k hk lim r o1 o2 o3 v ws) hr),fun l hr=>?_⟩;have:=zOu hf z1 z2 hr;omega
theorem z7z(n:Int):∃m zs ss,z7y m zs ss/\R L Cs zY [W n] []=some (.w (.a (zf m)),[]):=by
 obtain⟨k,lim,r,o1,o2,o3,v,ws,hk,nu,hR⟩:=zA5 n;exact⟨_,_,_,z7A k hk nu,hR⟩
def z5u(m:zD)(zs:List Zon)(a:AgV)(z:Int)(p:Pss):Bool:=decide (p.k9=z)&&decide (a.s-a.len<=p.hi)&&decide (p.lo<=a.s)
def z4Y(m:zD)(zs:List Zon)(a:AgV)(z:Int):Bool:=(zKh m zs 0 a.jh).any (z5u m zs a z)
theorem z4G{m:zD}{zs:List Zon}{ss:List Sgn}(hF:z7y m zs ss){a:AgV}(ha:KAg m a)(z:Int):R L Cs z3B [.a (zf m),.a (agC a),.a (agC a),W z] []=some (.w (Bo (z4Y m zs a z)),[]):=by
 have h:=hF.full.vA;have hP:=zRH hF.full ha.jh (hF.srt _ ha.jh) (hF.few _ ha.jh);have hpl:=hF.few _ ha.jh;have vM:=z6s h ha;have h1:=ha.s;have h2:=ha.uJ h;have h3:=ha.len;have w1:=qc (a.s-a.len);unfold z4Y;generalize zKh m zs 0 a.jh=ps at *;have hL:=zpE (L:=L) (Cs:=Cs) (b:=z2L) (live:=some [3,5,6,9,10]) (n0:=3) ps (fun i=>[(3,.w (W z)),(5,.w (Pt 1)),(6,.w (Pt 2)),(9,.w (.c (.jc (zKd ps)))),(10,.w (W i))]) [bx 5 (zf m),bx 7 (agC a),bx 7 (agC a)] (z5u m zs a z) (.ret,[(8,.w (Bo true))],[bx 5 (zf m),bx 7 (agC a),bx 7 (agC a)]) (.exit 0,[(26,.w (Bo false)),(9,.w (.c (.jc (zKd ps)))),(6,.w (Pt 2)),(5,.w (Pt 1)),(3,.w (W z)),(10,.w (W ps.length))],[bx 5 (zf m),bx 7 (agC a),bx 7 (agC a)])
  (fun i hi hb=>by
   have hw:=zB (i:=i) (by omega);generalize hp:ps[i]=p at *;unfold z5u at hb;rw[zj z2L.eq_1];by_cases c1:p.k9=z
   ·have b1:(p.k9==z)=true:=by simp[c1]
    by_cases c2:a.s-a.len<=p.hi
    ·have c3:¬p.lo<=a.s:=by simpa [c1,c2]using hb
     simp[zf,agC,zKF,hi,hp,hw,w1,b1,c2,c3]
    ·simp[zf,agC,zKF,hi,hp,hw,w1,b1,c2]
   ·have b1:(p.k9==z)=false:=by simp[c1]
    simp[zf,agC,zKF,hi,hp,hw,w1,b1])
  (fun i hi hb=>by
   generalize hp:ps[i]=p at *;unfold z5u at hb;simp only[jg,decide_eq_true_eq]at hb;obtain⟨⟨c1,c2⟩,c3⟩:=hb;have b1:(p.k9==z)=true:=by simp[c1]
   rw[zj z2L.eq_1];simp[zf,agC,zKF,hi,hp,w1,b1,c2,c3])
  (by rw[zj z2L.eq_1];simp[zf,agC])
 simp only[zf,agC,ji]at hP vM hL;rw[zUa z34 rfl];cases hq:ps.any (z5u m zs a z)with
 |true =>
  rw[hq]at hL;simp[z24,zf,agC,hP,vM,hL,zg]
 |false =>
  rw[hq]at hL;simp[z24,zf,agC,hP,vM,hL,zg]
theorem z5x(st:Int)(z:Nat)(x:Int):∀(l:List Prt) (k:Nat) (p:Pss),p∈zLB st z x k l->p.k9=z/\∃q∈l,q.lane=x
 |[],_,_,h=>by simp[zLB]at h
 |q::l,k,p,h=>by
  unfold zLB at h;split at h
  ·rename_i c;rcases jx.1 h with rfl|h
   ·exact⟨rfl,q,by simp,c⟩
   ·obtain⟨h1,q',h2,h3⟩:=z5x st z x l _ p h;exact⟨h1,q',by simp[h2],h3⟩
  ·obtain⟨h1,q',h2,h3⟩:=z5x st z x l _ p h;exact⟨h1,q',by simp[h2],h3⟩
theorem z6m(st x:Int):∀(l:List Zon) (z:Nat) (p:Pss),p∈zLA st x z l->∃j:Nat,∃hj:j<l.length,p.k9=((z+j:Nat):Int)/\∃q∈l[j].parts,q.lane=x
 |[],_,_,h=>by simp[zLA]at h
 |q::l,z,p,h=>by
  unfold zLA at h;rcases jB.1 h with h|h
  ·obtain⟨h1,h2⟩:=z5x st z x _ _ p h;exact⟨0,by simp,by simpa using h1,by simpa using h2⟩
  ·obtain⟨j,hj,h1,h2⟩:=z6m st x l (z+1) p h;exact⟨j+1,by simp;omega,by rw[h1];congr 1;omega,by simpa using h2⟩
theorem z6n(m:zD)(zs:List Zon):∀(r:List Int) (a:Int) (p:Pss),p∈zKh m zs a r->∃x∈r,∃j:Nat,∃hj:j<zs.length,p.k9=(j:Int)/\∃q∈zs[j].parts,q.lane=x
 |[],_,_,h=>by simp[zKh]at h
 |x::r,a,p,h=>by
  unfold zKh at h;rcases jB.1 h with h|h
  ·obtain⟨j,hj,h1,h2⟩:=z6m a x zs 0 p h;exact⟨x,by simp,j,hj,by simpa using h1,h2⟩
  ·obtain⟨y,hy,h'⟩:=z6n m zs r _ p h;exact⟨y,by simp[hy],h'⟩
def z6b(q:Zon)(l:List Int):Option Nat:=l.findIdx? fun x=>(zjF q x).isSome
theorem z5g{m:zD}{zs:List Zon}{ss:List Sgn}(hf:zmq m zs ss){l:List Int}(hr:zdA m l=0)(z:Nat)(hz:z<zs.length) :
  R L Cs z4b [.a (zf m),.c (.jc (zu l)),W z] []=some (.w (W (match z6b zs[z] l with |some i=>(i:Int) |none=>-1)),[]):=by
 obtain⟨_,_,hl8⟩:=zg1 hf.vA hr;have h1:=zp0 m hf.vA.small hf.vA.yc l (by omega);rw[hr]at h1;have hzz:=hf.zd.z;have hcz:(z:Int)<zs.length:=by omega
 have hpf:=hf.zd.pfew _ (je hz);have hL:=zxf (L:=L) (Cs:=Cs) (b:=z2S) (live:=some [3,2,1,7]) (n0:=1) l (fun i=>[(3,.w (Pt 0)),(2,.w (W z)),(1,.w (.c (.jc (zu l)))),(7,.w (W i))]) [bx 5 (zf m)] (fun x=>(zjF zs[z] x).isSome) (fun i=>(.ret,[(6,.w (W i))],[bx 5 (zf m),bxv 1 4 (zeB ((zjF zs[z] (l.getD i 0)).getD zto))])) (.exit 0,[(28,.w (Bo false)),(1,.w (.c (.jc (zu l)))),(2,.w (W z)),(3,.w (Pt 0)),(7,.w (W l.length))],[bx 5 (zf m)])
  (fun i hi hb=>by
   have hw:=zB (i:=i) (by omega);have hp:=zxM zs[z] l[i] (by omega);rw[hb]at hp;generalize hx:l[i]=x at *;generalize (zjF zs[z] x).getD zto=y at *;simp only[zeB,zdP]at hp;rw[zj z2S.eq_1];simp[zf,hzz,zdP,zeB,hi,hz,hcz,hx,hw,hp,zg,zH])
  (fun i hi hb=>by
   have hp:=zxM zs[z] l[i] (by omega);rw[hb]at hp;rw[show l.getD i 0=l[i] by simp[hi]];generalize hx:l[i]=x at *;generalize (zjF zs[z] x).getD zto=y at *;simp only[zeB,zdP]at hp;rw[zj z2S.eq_1];simp[zf,hzz,zdP,zeB,hi,hz,hcz,hx,hp,zg,zH])
  (by rw[zj z2S.eq_1];simp[zf])
 have z0:¬(z:Int)<0:=by omega
 have z1:¬zs.length<=z:=by omega
 simp only[zf,hzz,ji]at h1 hL;rw[zUa z4j rfl];unfold z6b;cases hq:l.findIdx? (fun x=>(zjF zs[z] x).isSome)with
 |none =>
  rw[hq]at hL;simp[z3c,zf,hzz,h1,hL,hz,hcz,z0,z1,zg]
 |some i =>
  rw[hq]at hL;simp[z3c,zf,hzz,h1,hL,hz,hcz,z0,z1,zg]
theorem z5Z{m:zD}{zs:List Zon}{a:AgV}{z:Nat}(hz:z<zs.length)(hp:z4Y m zs a z=true):∃i,z6b zs[z] a.jh=some i/\i<a.jh.length:=by
 unfold z4Y at hp;obtain⟨p,hp1,hp2⟩:=kx.1 hp;obtain⟨x,hx,j,hj,h1,q,h2,h3⟩:=z6n m zs a.jh 0 p hp1;unfold z5u at hp2;simp only[jg,decide_eq_true_eq]at hp2;have e:j=z:=by have:=hp2.1.1;omega
 subst e;unfold z6b;cases hq:a.jh.findIdx? (fun x=>(zjF zs[j] x).isSome)with
 |some i =>
  obtain⟨g1,_⟩:=jC.1 hq;exact⟨i,rfl,g1⟩
 |none =>
  rw[jV]at hq;have:=hq x hx;unfold zjF at this;simp at this;exact absurd h3 (this q h2)
def z5a(x y:Spn):Bool:=decide (x.lane=y.lane)&&decide (x.lo<=y.hi)&&decide (y.lo<=x.hi)
abbrev toM(m:zD)(a b:AgV):Mem:=[bx 5 (zf m),bx 7 (agC a),bx 7 (agC b)]
theorem z5Q(m:zD)(a b:AgV)(k l:List Spn)(hk:k.length<=8)(hl:l.length<=8)(i:Nat)(hi:i<k.length):Y L Cs z2A (some [8,7,9,10]) 3 [(8,.w (.c (.jc (zWx l)))),(7,.w (.c (.jc (zWx k)))),(9,.w (W i)),(10,.w (W (0:Nat)))] (toM m a b) =
  some (if l.any (z5a k[i]) then(.ret,[(6,.w (Bo true))],toM m a b) else(.exit 2,[(26,.w (Bo false)),(9,.w (W i)),(7,.w (.c (.jc (zWx k)))),(8,.w (.c (.jc (zWx l)))),(10,.w (W l.length))],toM m a b)):=by
 have hci:(i:Int)<k.length:=by omega
 generalize hx:k[i]=x at *;refine zpE (L:=L) (Cs:=Cs) (b:=z2A) (live:=some [8,7,9,10]) (n0:=3) l (fun j=>[(8,.w (.c (.jc (zWx l)))),(7,.w (.c (.jc (zWx k)))),(9,.w (W i)),(10,.w (W j))]) (toM m a b) (z5a x) _ _ ?_ ?_ ?_
 ·intro j hj hb;have hw:=zB (i:=j) (by omega);generalize hy:l[j]=y at *;unfold z5a at hb;rw[zj z2A.eq_1];by_cases c1:x.lane=y.lane
  ·have b1:(x.lane==y.lane)=true:=by simp[c1]
   by_cases c2:x.lo<=y.hi
   ·have c3:¬y.lo<=x.hi:=by simpa [c1,c2]using hb
    simp[toM,zf,agC,zWX,hi,hci,hj,hx,hy,hw,b1,c2,c3]
   ·simp[toM,zf,agC,zWX,hi,hci,hj,hx,hy,hw,b1,c2]
  ·have b1:(x.lane==y.lane)=false:=by simp[c1]
   simp[toM,zf,agC,zWX,hi,hci,hj,hx,hy,hw,b1]
 ·intro j hj hb;generalize hy:l[j]=y at *;unfold z5a at hb;simp only[jg,decide_eq_true_eq]at hb;obtain⟨⟨c1,c2⟩,c3⟩:=hb;have b1:(x.lane==y.lane)=true:=by simp[c1]
  rw[zj z2A.eq_1];simp[toM,zf,agC,zWX,hi,hci,hj,hx,hy,b1,c2,c3]
 ·rw[zj z2A.eq_1];simp[toM,zf,agC]
theorem z55{m:zD}(h:zcp m){a b:AgV}(ha:KAg m a)(hb:KAg m b):R L Cs z3y [.a (zf m),.a (agC a),.a (agC b)] []=some (.w (Bo ((z2B m a).any fun x=>(z2B m b).any (z5a x))),[]):=by
 have h1:=z5H h ha;have h2:=z5H h hb;have hk:=z38 h ha;have hl:=z38 h hb;generalize z2B m a=k at *;generalize z2B m b=l at *;have hL:=zpE (L:=L) (Cs:=Cs) (b:=z2J) (live:=some [8,7,9]) (n0:=3) k (fun i=>[(8,.w (.c (.jc (zWx l)))),(7,.w (.c (.jc (zWx k)))),(9,.w (W i))]) (toM m a b) (fun x=>l.any (z5a x)) (.ret,[(6,.w (Bo true))],toM m a b) (.exit 0,[(20,.w (Bo false)),(8,.w (.c (.jc (zWx l)))),(7,.w (.c (.jc (zWx k)))),(9,.w (W k.length))],toM m a b)
  (fun i hi hb=>by
   have hw:=zB (i:=i) (by omega);have hI:=z5Q m a b k l hk hl i hi;rw[hb]at hI;simp only[toM,zf,agC,ji]at hI;rw[zj z2J.eq_1];simp[toM,zf,agC,hi,hw,hI])
  (fun i hi hb=>by
   have hI:=z5Q m a b k l hk hl i hi;rw[hb]at hI;simp only[toM,zf,agC,ji]at hI;rw[zj z2J.eq_1];simp[toM,zf,agC,hi,hI])
  (by rw[zj z2J.eq_1];simp[toM,zf,agC])
 simp only[toM,zf,agC,ji]at h1 h2 hL;rw[zUa z30 rfl];cases hq:k.any (fun x=>l.any (z5a x))with
 |true =>
  rw[hq]at hL;simp[z21,zf,agC,h1,h2,hL,zg]
 |false =>
  rw[hq]at hL;simp[z21,zf,agC,h1,h2,hL,zg]
theorem z7f{m:zD}{zs:List Zon}{ss:List Sgn}(hF:z7y m zs ss){a:AgV}(ha:KAg m a)(z:Nat)(hz:z<zs.length):∃r,R L Cs z3M [.a (zf m),.a (agC a),W z,W 0] []=some (.w (W r),[]):=by
 have hf:=hF.full;have hE:=z5g hf ha.jh z hz;obtain⟨hon,_,hl8⟩:=ha.on hf.vA;have hzz:=hf.zd.z;have hcz:(z:Int)<zs.length:=by omega
 have hpf:=hf.zd.pfew _ (je hz);have hsg:=hf.zd.sig _ (je hz);rw[zUa z4u rfl];cases he:z6b zs[z] a.jh with
 |none =>
  rw[he]at hE;refine⟨0,?_⟩;simp only[zf,hzz,agC]at hE;simp[z2K,zf,hzz,agC,hE,zg]
 |some i =>
  rw[he]at hE;have hi:i<a.jh.length:=(jC.1 he).1;have hci:(i:Int)<a.jh.length:=by omega
  have hx:=hon _ (je hi);generalize hxx:a.jh[i]=x at *;generalize hq:zs[z]=q at *;have hn0:¬(i:Int)<0:=by omega
  by_cases c:0<q.u7
  ·obtain⟨j,hj⟩:∃j:Nat,q.u7-1=(j:Int):=⟨(q.u7-1).toNat,by omega⟩;have hjl:j<ss.length:=by omega
   have hsf:=hf.zd.sfew;have hG:=zRT hf j hjl x hx 0 (by omega);have hw:IntKind.i64.wrap (q.u7-1)=(j:Int):=by rw[zTd _ (by omega) (by omega)];exact hj
   generalize zfA ss[j] x 0=g at *;simp only[zf,hzz,agC]at hE hG;cases g with
   |true =>
    refine⟨2,?_⟩;simp[z2K,zf,hzz,zdP,agC,hE,hG,hz,hcz,hq,hi,hci,hn0,hxx,c,hw,zg,zH]
   |false =>
    refine⟨0,?_⟩;simp[z2K,zf,hzz,zdP,agC,hE,hG,hz,hcz,hq,hi,hci,hn0,hxx,c,hw,zg,zH]
  ·have hL:=zxf (L:=L) (Cs:=Cs) (b:=z2U) (live:=some [5,9,10,11]) (n0:=3) q.parts (fun i'=>[(5,.w (Pt 1)),(9,.w (W i)),(10,.w (Pt 2)),(11,.w (W i'))]) [bx 5 (zf m),bx 7 (agC a),bxv 1 2 (zdP q)] (fun p=>decide (p.lane=x)) (fun j=>(.ret,[(8,.w (W (q.parts.getD j zto).uE))],[bx 5 (zf m),bx 7 (agC a),bxv 1 2 (zdP q)])) (.exit 0,[(42,.w (Bo false)),(9,.w (W i)),(5,.w (Pt 1)),(10,.w (Pt 2)),(11,.w (W q.parts.length))],[bx 5 (zf m),bx 7 (agC a),bxv 1 2 (zdP q)])
    (fun j hj hb=>by
     have hw:=zB (i:=j) (by omega);generalize hp:q.parts[j]=p at *;have hb:¬p.lane=x:=by simpa using hb
     have b1:(p.lane==x)=false:=by simp[hb]
     rw[zj z2U.eq_1];simp[zf,zdP,agC,zeB,hi,hci,hxx,hj,hp,hw,b1])
    (fun j hj hb=>by
     rw[show q.parts.getD j zto=q.parts[j] by simp[hj]];generalize hp:q.parts[j]=p at *;have b1:(p.lane==x)=true:=by simpa using hb
     rw[zj z2U.eq_1];simp[zf,zdP,agC,zeB,hi,hci,hxx,hj,hp,b1])
    (by rw[zj z2U.eq_1];simp[zf,zdP,agC])
   simp only[zf,hzz,agC,zdP,ji]at hE hL;cases hy:q.parts.findIdx? (fun p=>decide (p.lane=x))with
   |none =>
    rw[hy]at hL;refine⟨0,?_⟩;simp[z2K,zf,hzz,zdP,agC,hE,hL,hz,hcz,hq,hn0,c,zg,zH]
   |some j =>
    rw[hy]at hL;refine⟨(q.parts.getD j zto).uE,?_⟩;simp only at hL;simp[z2K,zf,hzz,zdP,agC,hE,hL,hz,hcz,hq,hn0,c,zg,zH]
abbrev znM(m:zD)(s:SnV)(out:List Int):Mem:=[bx 5 (zf m),bx 3 (snC s),bx 3 (snC s),gb 1,some (own 1 (zu out))]
abbrev znE(i j z:Nat)(out:List Int):Env:=[(12,.w (W z)),(6,.w (Pt 1)),(3,.w (W i)),(7,.w (Pt 2)),(4,.w (W j)),(11,.w (.c (sl 4 1 (zu out)))),(5,.w (Pt 0))]
theorem z61{m:zD}{zs:List Zon}{ss:List Sgn}(hF:z7y m zs ss)(s:SnV)(i j:Nat)(hi:i<s.agents.length)(hj:j<s.agents.length)(ha:KAg m s.agents[i])(hb:KAg m s.agents[j]):∀(f z:Nat) (out:List Int),z+f=zs.length->out.length<=z->∃yz:List Int,
  Y L Cs z20 (some [12,6,3,7,4,11,5]) 5 (znE i j z out) (znM m s out)=some (.exit 0,[(19,.w (Bo false)),(12,.w (W zs.length)),(6,.w (Pt 1)),(3,.w (W i)),(7,.w (Pt 2)),(4,.w (W j)),(11,.w (.c (sl 4 1 (zu yz)))),(5,.w (Pt 0))],znM m s yz):=by
 have hf:=hF.full;have hzz:=hf.zd.z;have v9:=hf.zd.few;intro f;induction f with
 |zero =>
  intro z out hz _;obtain rfl:z=zs.length:=by omega
  refine⟨out,?_⟩;rw[zj z20.eq_1];simp[znE,znM,zf,hzz]
 |succ f ih =>
  intro z out hz ho;have hzl:z<zs.length:=by omega
  have hcz:(z:Int)<zs.length:=by omega
  have hw:=zB (i:=z) (by omega);have hP1:=z4G hF ha z;have hP2:=z4G hF hb z;have hE1:=z5g hf ha.jh z hzl;have hE2:=z5g hf hb.jh z hzl;have hS1:z4Y m zs s.agents[i] z=true->∃u,z6b zs[z] s.agents[i].jh=some u/\u<s.agents[i].jh.length:=z5Z hzl;have hS2:z4Y m zs s.agents[j] z=true->∃u,z6b zs[z] s.agents[j].jh=some u/\u<s.agents[j].jh.length:=z5Z hzl;have hci:(i:Int)<s.agents.length:=by omega
  have hcj:(j:Int)<s.agents.length:=by omega
  have kj:(out.length+1)*8<=140737488355328:=by omega
  generalize hag:s.agents[i]=a at *;generalize hbg:s.agents[j]=b at *;generalize z4Y m zs a z=p1 at *;generalize z4Y m zs b z=p2 at *;rw[zj z20.eq_1];simp only[zf,hzz,agC]at hP1 hP2 hE1 hE2;cases p1 with
  |false =>
   obtain⟨yz,h⟩:=ih (z+1) out (by omega) (by omega);refine⟨yz,?_⟩;rw[<-h];clear ih h hS1 hS2;simp[znE,znM,zf,hzz,snC,agC,hi,hci,hj,hcj,hag,hbg,hzl,hcz,hw,hP1,hP2,zg,zH]
  |true =>
   cases p2 with
   |false =>
    obtain⟨yz,h⟩:=ih (z+1) out (by omega) (by omega);refine⟨yz,?_⟩;rw[<-h];clear ih h hS1 hS2;simp[znE,znM,zf,hzz,snC,agC,hi,hci,hj,hcj,hag,hbg,hzl,hcz,hw,hP1,hP2,zg,zH]
   |true =>
    obtain⟨u,e1,hu⟩:=hS1 rfl;obtain⟨v,e2,hv⟩:=hS2 rfl;clear hS1 hS2;rw[e1]at hE1;rw[e2]at hE2;have hcu:(u:Int)<a.jh.length:=by omega
    have hcv:(v:Int)<b.jh.length:=by omega
    by_cases c:a.jh[u]=b.jh[v]
    ·have cb:(a.jh[u]==b.jh[v])=true:=by simp[c]
     have cb2:(a.jh[u] !=b.jh[v])=false:=by simp[c]
     obtain⟨yz,h⟩:=ih (z+1) out (by omega) (by omega);refine⟨yz,?_⟩;rw[<-h];clear ih h;simp[znE,znM,zf,hzz,snC,agC,hi,hci,hj,hcj,hag,hbg,hzl,hcz,hw,hP1,hP2,hE1,hE2,hu,hv,hcu,hcv,cb,cb2,zg,zH]
    ·have cb:(a.jh[u]==b.jh[v])=false:=by simp[c]
     have cb2:(a.jh[u] !=b.jh[v])=true:=by simp[c]
     obtain⟨yz,h⟩:=ih (z+1) (out++[(z:Int)]) (by omega) (by simp;omega);refine⟨yz,?_⟩;rw[<-h];clear ih h;simp[znE,znM,zf,hzz,snC,agC,hi,hci,hj,hcj,hag,hbg,hzl,hcz,hw,hP1,hP2,hE1,hE2,hu,hv,hcu,hcv,cb,cb2,kj,zg,zH]
theorem z6X{m:zD}{zs:List Zon}{ss:List Sgn}(hF:z7y m zs ss)(s:SnV)(i j:Nat)(hi:i<s.agents.length)(hj:j<s.agents.length)(ha:KAg m s.agents[i])(hb:KAg m s.agents[j]):∃out:List Int,R L Cs z3H [.a (zf m),.a (snC s),.a (snC s),W i,W j] []=some (.w (.c (.jc (zu out))),[]):=by
 obtain⟨out,h⟩:=z61 hF s i j hi hj ha hb zs.length 0 [] (by omega) (by simp);refine⟨out,?_⟩;simp only[znE,znM,zf,snC,sl,own,zay,jL,zfq,ji]at h;rw[zUa z4h rfl];simp[z3n,zf,snC,h,zg,zX]
structure z45 where
 r:Int
 s:Int
 v:Int
 len:Int
 start:Int
 dis:Bool
def z3N(x:z45):List Cl:=[I x.r,I x.s,I x.v,I x.len,I x.start,.bool x.dis]
theorem z5w(k:Int):300<=zeR k/\zeR k<=2000:=by unfold zeR;split<;>(try split)<;>omega
theorem z5h{m:zD}{zs:List Zon}{ss:List Sgn}(hF:z7y m zs ss)(x:z45)(first:Bool):∃a,KAg m a/\(first=true->a.start=0)/\(x.len % 4700=0->a.len=300)/\R L Cs z4y [.a (zf m),.a (z3N x),Bo first] []=some (.w (.a (agC a)),[]):=by
 have h:=hF.full.vA;have hR0:=zE3 h x.r;have hl0:=zD0 x.len 4700 (by omega) (by omega);have hl1:=zDJ x.len 4700 (by omega);have wl:=qc (300+x.len % 4700);have hb4:=zEW x.start 4 (by omega) (by omega);have hb40:=zEW x.start 40 (by omega) (by omega);have hbr:=zDJ x.start 40 (by omega);have hr0:=zE5 hF.full hF.pos x.r;obtain⟨k,hk⟩:=zES h x.r;have hrk:=zE5 hF.full hF.pos k;generalize zDT m x.r=r0 at *;generalize zDT m k=rk at *;generalize x.len % 4700=ln at *;generalize x.start % 40=b40 at *;generalize hb:x.start % 4=b4 at *;have fin:∀(r:List Int) (hr:zdA m r=0),∃(x0:Int) (t:List Int) (j:Nat) (hj:j<m.jf.length),r=x0::t/\x0=(j:Int)/\(m.jf[j].kind=1\/m.jf[j].kind=2\/m.jf[j].kind=3):=by
  intro r hr;obtain⟨hon,hne,_⟩:=zg1 h hr;cases r with
  |nil=>exact absurd rfl hne
  |cons y t =>
   obtain⟨j,hj,ej,ek⟩:=z5b (hon y (by simp));exact⟨y,t,j,hj,rfl,ej,h.kind _ (je hj)⟩
 have gen:∀(r:List Int) (hr:zdA m r=0) (x0:Int) (t:List Int) (j:Nat) (hj:j<m.jf.length),r=x0::t->0<=x.s % (zmd m 0 r+1)/\x.s % (zmd m 0 r+1)<=zmd m 0 r/\0<=zmd m 0 r/\zmd m 0 r<=8000000:=by
  intro r hr x0 t j hj e;obtain⟨hon,hne,hl8⟩:=zg1 h hr;have:=zEC h r 0 hon (by omega);have:=zDJ x.s (zmd m 0 r+1) (by omega);omega
 rw[zUa z4A rfl];cases first with
 |true =>
  obtain⟨x0,t,j,hj,er,rfl,hkd⟩:=fin rk hrk;obtain⟨g1,g2,g3,g4⟩:=gen rk hrk _ _ j hj er;have hE:=zEp h hrk;have hS:=zD0 x.s (zmd m 0 rk+1) (by omega) (by omega);have wE:=qc (zmd m 0 rk+1);generalize x.s % (zmd m 0 rk+1)=sv at *;have hB:=zhv hkd;have htb:=z5w m.jf[j].kind;have wT:=qc (zeR m.jf[j].kind+1);have hV:=zD0 x.v (zeR m.jf[j].kind+1) (by omega) (by omega);generalize x.v % (zeR m.jf[j].kind+1)=vv at *;generalize zeR m.jf[j].kind=tv at *;by_cases c:tv<1000
  ·refine⟨⟨rk,sv,vv,300,0,false,false⟩,⟨hrk,by simp only[];omega,by simp only[];omega,⟨g1,g2⟩,fun h=>absurd h (by simp),rfl⟩,fun _=>rfl,(fun _=>rfl),?_⟩;subst er;simp only[zf,zaP]at hR0 hk hE;simp[z2E,zf,z3N,agC,zo,hR0,hk,hE,hS,hV,hB,hl0,wl,wE,wT,hj,c,hb4,zg,zH,zX]
  ·refine⟨⟨rk,sv,vv,300+ln,0,false,false⟩,⟨hrk,by simp only[];omega,by simp only[];omega,⟨g1,g2⟩,fun h=>absurd h (by simp),rfl⟩,fun _=>rfl,(fun h0=>by show 300+ln=300;omega),?_⟩;subst er;simp only[zf,zaP]at hR0 hk hE;simp[z2E,zf,z3N,agC,zo,hR0,hk,hE,hS,hV,hB,hl0,wl,wE,wT,hj,c,hb4,zg,zH,zX]
 |false =>
  obtain⟨x0,t,j,hj,er,rfl,hkd⟩:=fin r0 hr0;obtain⟨g1,g2,g3,g4⟩:=gen r0 hr0 _ _ j hj er;have hE:=zEp h hr0;have hS:=zD0 x.s (zmd m 0 r0+1) (by omega) (by omega);have wE:=qc (zmd m 0 r0+1);generalize x.s % (zmd m 0 r0+1)=sv at *;have hB:=zhv hkd;have htb:=z5w m.jf[j].kind;have wT:=qc (zeR m.jf[j].kind+1);have hV:=zD0 x.v (zeR m.jf[j].kind+1) (by omega) (by omega);generalize x.v % (zeR m.jf[j].kind+1)=vv at *;generalize zeR m.jf[j].kind=tv at *;have wb:=qc b40;by_cases c:tv<1000
  ·by_cases d:b4=3
   ·have db:(b4==3)=true:=by simp[d]
    refine⟨⟨r0,0,vv,300,b40,!x.dis,false⟩,⟨hr0,by simp only[];omega,by simp only[];omega,⟨by simp,g3⟩,fun _=>rfl,rfl⟩,(fun h=>Bool.noConfusion h),(fun _=>rfl),?_⟩;subst er;simp only[zf,zaP]at hR0 hE;simp[z2E,zf,z3N,agC,zo,hR0,hE,hS,hV,hB,hl0,wl,wE,wT,wb,hj,c,db,hb4,hb40,zg,zH,zX]
   ·have db:(b4==3)=false:=by simp[d]
    refine⟨⟨r0,sv,vv,300,0,!x.dis,false⟩,⟨hr0,by simp only[];omega,by simp only[];omega,⟨g1,g2⟩,fun h=>absurd h (by simp),rfl⟩,fun _=>rfl,(fun _=>rfl),?_⟩;subst er;simp only[zf,zaP]at hR0 hE;simp[z2E,zf,z3N,agC,zo,hR0,hE,hS,hV,hB,hl0,wl,wE,wT,hj,c,db,hb4,zg,zH,zX]
  ·by_cases d:b4=3
   ·have db:(b4==3)=true:=by simp[d]
    refine⟨⟨r0,0,vv,300+ln,b40,!x.dis,false⟩,⟨hr0,by simp only[];omega,by simp only[];omega,⟨by simp,g3⟩,fun _=>rfl,rfl⟩,(fun h=>Bool.noConfusion h),(fun h0=>by show 300+ln=300;omega),?_⟩;subst er;simp only[zf,zaP]at hR0 hE;simp[z2E,zf,z3N,agC,zo,hR0,hE,hS,hV,hB,hl0,wl,wE,wT,wb,hj,c,db,hb4,hb40,zg,zH,zX]
   ·have db:(b4==3)=false:=by simp[d]
    refine⟨⟨r0,sv,vv,300+ln,0,!x.dis,false⟩,⟨hr0,by simp only[];omega,by simp only[];omega,⟨g1,g2⟩,fun h=>absurd h (by simp),rfl⟩,fun _=>rfl,(fun h0=>by show 300+ln=300;omega),?_⟩;subst er;simp only[zf,zaP]at hR0 hE;simp[z2E,zf,z3N,agC,zo,hR0,hE,hS,hV,hB,hl0,wl,wE,wT,hj,c,db,hb4,zg,zH,zX]
end Go.TrRun
