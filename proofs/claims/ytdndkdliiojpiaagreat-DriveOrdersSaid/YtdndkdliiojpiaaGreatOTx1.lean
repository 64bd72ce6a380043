/- This text proves what functions of this seat's program answer, run by the evaluator; no condition. -/
import Derived.Test.YtdndkdliiojpiaaGreatOTb10
set_option linter.defProp false
set_option maxHeartbeats 8000000
set_option linter.unusedVariables false
set_option linter.unusedSimpArgs false
set_option linter.unusedSectionVars false
set_option maxRecDepth 10000
namespace Go.TrRun
open Go Go.Eng
def zL{α:Type}{l r:List α}{i:Nat}{x:α}(h:l.drop i=x::r):∃hi:i<l.length,l[i]=x/\l.drop (i+1)=r:=by
 have hi:i<l.length:=by
  have:=congrArg List.length h;simp at this;omega
 rw[jv hi]at h;exact⟨hi,(ka h).1,(ka h).2⟩
def zUb{α:Type}{l:List α}{i:Nat}(h:l.drop i=[])(hi:i<=l.length):i=l.length:=by
 have:=congrArg List.length h;simp at this;omega
def zB{i:Nat}(h:i<4000000000000000000):IntKind.i64.wrap ((i:Int)+1)=((i+1:Nat):Int):=by
 rw[zTd _ wA wA];simp
def zu(l:List Int):List (List Cl):=l.map fun x=>[I x]
@[simp] def zfq(l:List Int):(zu l).length=l.length:=by simp[zu]
@[simp] def zBj(l m:List Int):zu (l++m)=zu l++zu m:=by simp[zu]
@[simp] def zay:zu []=[]:=rfl
@[simp] def zaP(x:Int)(l:List Int):zu (x::l)=[I x]::zu l:=rfl
@[simp] def zCt(l:List Int):(zu l).take l.length=zu l:=jx wD
@[simp] def zBd{l:List Int}{i:Nat}(h:i<(zu l).length):(zu l)[i]=[I (l[i]'(by simpa using h))]:=by simp[zu]
@[simp] def zCu(t:List Int):(∀x,x∈zu t->x.length=1)<->True:=by simp[zu]
structure zk where
 lane:Int
 lo:Int
 hi:Int
 vlo:Int
 vhi:Int
 hold:Int
 deriving DecidableEq
structure Ego where
 slo:Int
 shi:Int
 vlo:Int
 vhi:Int
 deriving DecidableEq
structure zci where
 tick:Int
 jZ:List zk
 ego:Ego
def ze(b:zk):List Cl:=[I b.lane,I b.lo,I b.hi,I b.vlo,I b.vhi,I b.hold]
def zI(l:List zk):List (List Cl):=l.map ze
def zG(k:zci):List Cl:=[I k.tick,.jb (zI k.jZ),I k.ego.slo,I k.ego.shi,I k.ego.vlo,I k.ego.vhi]
@[simp] def zgg(l:List zk):(zI l).length=l.length:=by simp[zI]
@[simp] def znQ(l m:List zk):zI (l++m)=zI l++zI m:=by simp[zI]
@[simp] def zic:zI []=[]:=rfl
@[simp] def zCy(x:zk)(l:List zk):zI (x::l)=ze x::zI l:=rfl
@[simp] def zCw(l:List zk):(zI l).take l.length=zI l:=jx wD
@[simp] def zBe{l:List zk}{i:Nat}(h:i<(zI l).length):(zI l)[i]=ze (l[i]'(by simpa using h)):=by simp[zI]
@[simp] def zDd(b:zk):(ze b).length=6:=rfl
@[simp] def zCF(b:zk):(ze b).take 6=ze b:=rfl
@[simp] def zDb(t:List zk):(∀x,x∈zI t->x.length=6)<->True:=by simp[zI]
def zvv(l:List zk)(hl:l.length<=100000000000):R L Cs zmP [.c (.jb (zI l))] []=some (.w (.c (sl 0 6 (zI l))),[some (own 6 (zI l))]):=by
 have hr:l.length*48<=140737488355328:=wA
 have hL:Cs.lookup zmP=some (6,48,false):=by kernel_rfl
 rw[zrP rfl];simp[uv,hL,zuh,hr]
def z1I(k:zci)(hl:k.jZ.length<=100000000000):R L Cs zZq [.a (zG k)] []=some (.w (.a (zG k)),[]):=by
 have hc:=zvv k.jZ hl;rw[zUa zZz rfl];simp[zul,zG,hc]
def zgQ(a b:Int):Int:=if a<b then -1 else if b<a then 1 else 0
def zpH(a:Int):R L Cs zlc [W a] []=some (.w (Bo false),[]):=by
 rw[zUa zle rfl];simp[zfU]
def zjw(a:Int):R L Cs zi5 [W a] []=some (.w (Bo false),[]):=by
 rw[zUa zi9 rfl];simp[ze6]
def zsr(a b:Int):R L Cs zi6 [W a,W b] []=some (.w (W (zgQ a b)),[]):=by
 rw[zUa zja rfl];have h1:=zpH a;have h2:=zpH b;by_cases h:a<b
 ·simp[zb3,h1,h2,h,zgQ]
 ·by_cases h':b<a
  ·simp[zb3,h1,h2,h,h',zgQ]
  ·simp[zb3,h1,h2,h,h',zgQ]
def zp1(a b:Int):R L Cs zhQ [W a,W b] []=some (.w (W (zgQ a b)),[]):=by
 rw[zUa zhS rfl];have h1:=zjw a;have h2:=zjw b;by_cases h:a<b
 ·simp[zbq,h1,h2,h,zgQ]
 ·by_cases h':b<a
  ·simp[zbq,h1,h2,h,h',zgQ]
  ·simp[zbq,h1,h2,h,h',zgQ]
def zBq(l:List Int)(hl:l.length<=1000):Y L Cs zab (some [7,6,3,8]) 0 [(7,.w (W l.length)),(6,.w (.c (.jb (zu l)))),(3,.w (W 0)),(8,.w (W (0:Nat)))] [] =
  some (match l.findIdx? (fun x=>x !=0)with |some i=>(.ret,[(2,.w (W ((l[i]?).getD 0)))],[]) |none=>(.exit 0,[(9,.w (Bo false)),(3,.w (W 0)),(6,.w (.c (.jb (zu l)))),(7,.w (W l.length)),(8,.w (W l.length))],[])):=by
 refine zxf l (fun i=>[(7,.w (W l.length)),(6,.w (.c (.jb (zu l)))),(3,.w (W 0)),(8,.w (W i))]) _ _ _ _ ?_ ?_ ?_
 ·intro i h hp;have hw:=zB (i:=i) wA;simp at hp;rw[ZfM zab.eq_1];simp[h,hw,hp]
 ·intro i h hp;rw[ZfM zab.eq_1];simp[h,hp]
 ·rw[ZfM zab.eq_1];simp
def zA0(x y:Int):R L Cs zob [.c (.jb (zu [x,y]))] []=some (.w (W (if x≠0 then x else y)),[]):=by
 have h:=zBq [x,y] wD;simp only[jg,zaP,zay,jl,jp]at h;rw[zUa zow rfl];by_cases hx:x=0
 ·by_cases hy:y=0
  ·simp[hx,hy,vP]at h;simp[zfw,h,hx,hy]
  ·have hb:(y !=0)=true:=by simp[hy]
   simp[hx,hy,hb,vP]at h;simp[zfw,h,hx,hy]
 ·have hb:(x !=0)=true:=by simp[hx]
  simp[hx,hb,vP]at h;simp[zfw,h,hx]
def ziK(a b:zk):Int:=if zgQ a.lane b.lane≠0 then zgQ a.lane b.lane else zgQ a.lo b.lo
def zrR(b:zk):R L Cs zct [.a (ze b)] []=some (.w (Bo (decide (b.hi<b.lo))),[]):=by
 rw[zUa zp6 rfl];simp[zhH,ze]
def zop(a b:zk):R L Cs zdc [.a (ze a),.a (ze b)] []=some (.w (W (ziK a b)),[]):=by
 have h:=zA0 (zgQ a.lane b.lane) (zgQ a.lo b.lo);have h1:=zsr a.lane b.lane;have h2:=zp1 a.lo b.lo;simp only[zaP,zay]at h;rw[zUa zp5 rfl];simp[zhG,ze,h1,h2,h,ziK,zX]
def zpv(l:List Int)(x:Int)(hl:l.length<=100000):∀(r:List Int) (i:Nat),l.drop i=r->i<=l.length ->
  (x∉r->∃E',Y L Cs za7 (some [7,1,0,8]) 0 [(7,.w (W l.length)),(1,.w (W x)),(0,.w (.c (.jb (zu l)))),(8,.w (W i))] []=some (.exit 0,E',[])) /\
  (x∈r->∃k:Nat,Y L Cs za7 (some [7,1,0,8]) 0 [(7,.w (W l.length)),(1,.w (W x)),(0,.w (.c (.jb (zu l)))),(8,.w (W i))] []=some (.ret,[(4,.w (W k))],[])/\l[k]?=some x/\∀m,i<=m->m<k->l[m]?≠some x):=by
 intro r;induction r with
 |nil =>
  intro i hd hi;obtain rfl:=zUb hd hi;refine⟨fun _=>⟨_,zhJ (r:=(.exit 0,[(9,.w (Bo false)),(0,.w (.c (.jb (zu l)))),(1,.w (W x)),(7,.w (W l.length)),(8,.w (W l.length))],[])) ?_ wD⟩,fun h=>by simp at h⟩;simp[za7]
 |cons y r ih =>
  intro i hd hi;obtain⟨hil,hy,hd'⟩:=zL hd;obtain⟨ih1,ih2⟩:=ih (i+1) hd' hil;have hw:=zB (i:=i) wA;by_cases hxy:x=y
  ·refine⟨fun h=>by simp[hxy]at h,fun _=>⟨i,zhJ ?_ wD,?_,?_⟩⟩
   ·have hb:(x==y)=true:=by simp[hxy]
    simp[za7,hil,hy,hb]
   ·rw[jq hil,hy,hxy]
   ·intro m h1 h2;omega
  ·have hb:(x==y)=false:=by simp[hxy]
   have yR:Y L Cs za7 (some [7,1,0,8]) 0 [(7,.w (W l.length)),(1,.w (W x)),(0,.w (.c (.jb (zu l)))),(8,.w (W i))] []=Y L Cs za7 (some [7,1,0,8]) 0 [(7,.w (W l.length)),(1,.w (W x)),(0,.w (.c (.jb (zu l)))),(8,.w (W (i+1:Nat)))] []:=by
    rw[zrL];simp[za7,hil,hy,hb,hw]
   rw[yR];refine⟨fun h=>ih1 (fun h'=>h (jE _ h')),fun h=>?_⟩;have h:x∈r:=by rcases jK.1 h with h |h;exact absurd h hxy;exact h
   obtain⟨k,h1,h2,h3⟩:=ih2 h;refine⟨k,h1,h2,fun m h4 h5=>?_⟩;rcases Nat.eq_or_lt_of_le h4 with rfl|h6
   ·rw[jq hil,hy];intro h;exact hxy (Option.some.inj h).symm
   ·exact h3 m h6 h5
def znC(l:List Int)(x:Int)(hl:l.length<=100000):R L Cs zli [.c (.jb (zu l)),W x] []=some (.w (Bo (decide (x∈l))),[]):=by
 obtain⟨h1,h2⟩:=zpv l x hl l 0 rfl (jr _);simp only[jg]at h1 h2;have key:∃k:Int,R L Cs zf1 [.c (.jb (zu l)),W x] []=some (.w (W k),[])/\(decide (0<=k)=decide (x∈l)):=by
  by_cases h:x∈l
  ·obtain⟨k,hk,_,_⟩:=h2 h;refine⟨k,?_,by simp[h]⟩;rw[zUa zeL rfl];simp[zcI,hk]
  ·obtain⟨E',hE⟩:=h1 h;refine⟨-1,?_,by simp[h]⟩;rw[zUa zeL rfl];simp[zcI,hE]
 obtain⟨k,hk,hd⟩:=key;rw[zUa zlu rfl];simp[zeW,hk,hd]
structure zfn where
 kind:Int
 pts:List (Int×Int)
 half:Int
 vY:Int
 next:List Int
 len:Int
structure zCP where
 lane:Int
 lo:Int
 hi:Int
 Ca:Int
 ends:Int
 vY:Int
structure zD where
 version:Int
 jd:List zfn
 qR:List (List Cl)
 signals:List (List Cl)
 kT:List zCP
def zo(l:zfn):List Cl:=[I l.kind,.jb (l.pts.map fun p=>[I p.1,I p.2]),I l.half,I l.vY,.jb (zu l.next)]
def zaL(w:zCP):List Cl:=[I w.lane,I w.lo,I w.hi,I w.Ca,I w.ends,I w.vY]
def zf(m:zD):List Cl:=[I m.version,.jb (m.jd.map zo),.jb m.qR,.jb m.signals,.jb (m.kT.map zaL)]
def zes(x:Int):Nat->List zfn->List Int
 |_,[]=>[]
 |k,l::ls=>if x∈l.next then(k:Int)::zes x (k+1) ls else zes x (k+1) ls
def zvG(m:zD)(x:Int)(hn:m.jd.length<=100)(hx:∀l∈m.jd,l.next.length<=1000):∀(r:List zfn) (i:Nat) (out:List Int),m.jd.drop i=r->i<=m.jd.length->out.length<=i ->
  Y L Cs zdU (some [5,11,10,9,1]) 3 [(5,.w (.c (sl 2 1 (zu out)))),(11,.w (W i)),(10,.w (W m.jd.length)),(9,.w (.c (.jb (m.jd.map zo)))),(1,.w (W x))] [some { box:=true,esz:=5,rows:=[zf m],gen:=0,fz:=false,ver:=0 },some { box:=false,esz:=1,rows:=[],gen:=0,fz:=false,ver:=0 },some (own 1 (zu out))] =
    some (.exit 0,[(12,.w (Bo false)),(5,.w (.c (sl 2 1 (zu (out++zes x i r))))),(11,.w (W m.jd.length)),(10,.w (W m.jd.length)),(9,.w (.c (.jb (m.jd.map zo)))),(1,.w (W x))],[some { box:=true,esz:=5,rows:=[zf m],gen:=0,fz:=false,ver:=0 },some { box:=false,esz:=1,rows:=[],gen:=0,fz:=false,ver:=0 },some (own 1 (zu (out++zes x i r)))]):=by
 intro r;induction r with
 |nil =>
  intro i out hd hi ho;obtain rfl:=zUb hd hi;refine zhJ ?_ wD;simp[zdU,zes]
 |cons l r ih =>
  intro i out hd hi ho;obtain⟨hil,hl,hd'⟩:=zL hd;have hw:=zB (i:=i) wA;have hc:=znC l.next x (by have:=hx l (by rw[<-hl];exact jf hil);omega);have kA:(out.length+1)*8<=140737488355328:=wA
  by_cases hb:x∈l.next
  ·have yS:=ih (i+1) (out++[(i:Int)]) hd' hil (by simp;omega);rw[zes,if_pos hb,show out++(i:Int)::zes x (i+1) r=(out++[(i:Int)])++zes x (i+1) r by simp,<-yS,zrL];simp[hb]at hc;simp[zdU,hil,hl,zo,zf,hc,hw,kA]
  ·have yS:=ih (i+1) out hd' hil wA;rw[zes,if_neg hb,<-yS,zrL];simp[hb]at hc;simp[zdU,hil,hl,zo,zf,hc,hw]
def zvT(m:zD)(x:Int)(hn:m.jd.length<=100)(hx:∀l∈m.jd,l.next.length<=1000):R L Cs zrg [.a (zf m),W x] []=some (.w (.c (.jb (zu (zes x 0 m.jd)))),[]):=by
 have h:=zvG m x hn hx m.jd 0 [] rfl (jr _) (jr _);simp only[jg,je,zf,zay,sl,own,jp,zfq]at h;rw[zUa zrW rfl];simp[zis,zf,h]
def zAo(l:List Int)(x:Int)(hl:l.length<=100000):∀(r:List Int) (i:Nat),l.drop i=r->i<=l.length ->
  (x∉r->Y L Cs zaT (some [0,1,5]) 0 [(0,.w (.c (.jb (zu l)))),(1,.w (W x)),(5,.w (W i))] []=some (.exit 0,[(9,.w (Bo false)),(1,.w (W x)),(0,.w (.c (.jb (zu l)))),(5,.w (W l.length))],[])) /\
  (x∈r->Y L Cs zaT (some [0,1,5]) 0 [(0,.w (.c (.jb (zu l)))),(1,.w (W x)),(5,.w (W i))] []=some (.ret,[(4,.w (Bo true))],[])):=by
 intro r;induction r with
 |nil =>
  intro i hd hi;obtain rfl:=zUb hd hi;refine⟨fun _=>zhJ ?_ wD,fun h=>by simp at h⟩;simp[zaT]
 |cons y r ih =>
  intro i hd hi;obtain⟨hil,hy,hd'⟩:=zL hd;obtain⟨ih1,ih2⟩:=ih (i+1) hd' hil;have hw:=zB (i:=i) wA;by_cases hxy:y=x
  ·refine⟨fun h=>by simp[hxy]at h,fun _=>zhJ ?_ wD⟩;have hb:(y==x)=true:=by simp[hxy]
   simp[zaT,hil,hy,hb]
  ·have hb:(y==x)=false:=by simp[hxy]
   have yR:Y L Cs zaT (some [0,1,5]) 0 [(0,.w (.c (.jb (zu l)))),(1,.w (W x)),(5,.w (W i))] []=Y L Cs zaT (some [0,1,5]) 0 [(0,.w (.c (.jb (zu l)))),(1,.w (W x)),(5,.w (W (i+1:Nat)))] []:=by
    rw[zrL];simp[zaT,hil,hy,hb,hw]
   rw[yR];refine⟨fun h=>ih1 (fun h'=>h (jE _ h')),fun h=>ih2 ?_⟩;rcases jK.1 h with h|h
   ·exact absurd h.symm hxy
   ·exact h
def zAX(l:List Int)(x:Int)(hl:l.length<=100000):R L Cs zmb [.c (.jb (zu l)),W x] []=some (.w (Bo (decide (x∈l))),[]):=by
 obtain⟨h1,h2⟩:=zAo l x hl l 0 rfl (jr _);simp only[jg]at h1 h2;rw[zUa zmu rfl];by_cases h:x∈l
 ·simp[zdY,h2 h,h]
 ·simp[zdY,h1 h,h]
def zqI(m:zD)(x:Int)(hn:m.jd.length<=100)(hx:∀l∈m.jd,l.next.length<=1000):∀(r:List zfn) (i:Nat) (out:List Int),m.jd.drop i=r->i<=m.jd.length->out.length<=i ->
  Y L Cs zbI (some [5,6,2,1]) 3 [(5,.w (.c (sl 2 1 (zu out)))),(6,.w (W i)),(2,.w (Pt 0)),(1,.w (W x))] [some { box:=true,esz:=5,rows:=[zf m],gen:=0,fz:=false,ver:=0 },some { box:=false,esz:=1,rows:=[],gen:=0,fz:=false,ver:=0 },some (own 1 (zu out))] =
    some (.exit 0,[(11,.w (Bo false)),(5,.w (.c (sl 2 1 (zu (out++zes x i r))))),(6,.w (W m.jd.length)),(2,.w (Pt 0)),(1,.w (W x))],[some { box:=true,esz:=5,rows:=[zf m],gen:=0,fz:=false,ver:=0 },some { box:=false,esz:=1,rows:=[],gen:=0,fz:=false,ver:=0 },some (own 1 (zu (out++zes x i r)))]):=by
 intro r;induction r with
 |nil =>
  intro i out hd hi ho;obtain rfl:=zUb hd hi;refine zhJ ?_ wD;simp[zbI,zes,zf]
 |cons l r ih =>
  intro i out hd hi ho;obtain⟨hil,hl,hd'⟩:=zL hd;have hw:=zB (i:=i) wA;have hc:=zAX l.next x (by have:=hx l (by rw[<-hl];exact jf hil);omega);have kA:(out.length+1)*8<=140737488355328:=wA
  by_cases hb:x∈l.next
  ·have yS:=ih (i+1) (out++[(i:Int)]) hd' hil (by simp;omega);rw[zes,if_pos hb,show out++(i:Int)::zes x (i+1) r=(out++[(i:Int)])++zes x (i+1) r by simp,<-yS,zrL];simp[hb]at hc;simp[zbI,hil,hl,zo,zf,hc,hw,kA]
  ·have yS:=ih (i+1) out hd' hil wA;rw[zes,if_neg hb,<-yS,zrL];simp[hb]at hc;simp[zbI,hil,hl,zo,zf,hc,hw]
def zpG(m:zD)(x:Int)(hn:m.jd.length<=100)(hx:∀l∈m.jd,l.next.length<=1000):R L Cs zjP [.a (zf m),W x] []=some (.w (.c (.jb (zu (zes x 0 m.jd)))),[]):=by
 have h:=zqI m x hn hx m.jd 0 [] rfl (jr _) (jr _);simp only[jg,je,zf,zay,sl,own,jp,zfq]at h;rw[zUa zkb rfl];simp[zeo,zf,h]
def goF(m:zD):Int->List Int->Bool
 |_,[]=>true
 |a,x::xs=>decide (x∈((m.jd[a.toNat]?).map zfn.next).getD [])&&goF m x xs
structure zvM(m:zD):Prop where
 jd:m.jd.length<=14
 next:∀l∈m.jd,l.next.length<=10
 valid:∀l∈m.jd,∀x∈l.next,0<=x/\x<m.jd.length
def zwq(m:zD)(h:zvM m)(l:List Int)(hl:l.length<=1000):∀(r:List Int) (i:Nat) (a:Int),l.drop i=r->i<=l.length->0<=a->a<m.jd.length ->
  (goF m a r=true->∃b,Y L Cs za8 (some [6,51,50,2,52]) 1 [(6,.w (W a)),(51,.w (W l.length)),(50,.w (.c (.jb (zu l)))),(2,.w (Pt 0)),(52,.w (W i))] [some { box:=true,esz:=5,rows:=[zf m],gen:=0,fz:=false,ver:=0 }]=some (.exit 0,[(53,.w (Bo false)),(6,.w (W b)),(2,.w (Pt 0)),(50,.w (.c (.jb (zu l)))),(51,.w (W l.length)),(52,.w (W l.length))],[some { box:=true,esz:=5,rows:=[zf m],gen:=0,fz:=false,ver:=0 }])) /\
  (goF m a r=false->Y L Cs za8 (some [6,51,50,2,52]) 1 [(6,.w (W a)),(51,.w (W l.length)),(50,.w (.c (.jb (zu l)))),(2,.w (Pt 0)),(52,.w (W i))] [some { box:=true,esz:=5,rows:=[zf m],gen:=0,fz:=false,ver:=0 }]=some (.ret,[(4,.w (W 13))],[some { box:=true,esz:=5,rows:=[zf m],gen:=0,fz:=false,ver:=0 }])):=by
 intro r;induction r with
 |nil =>
  intro i a hd hi h1 h2;obtain rfl:=zUb hd hi;refine⟨fun _=>⟨a,zhJ ?_ wD⟩,fun h=>by simp[goF]at h⟩;simp[za8]
 |cons x r ih =>
  intro i a hd hi h1 h2;obtain⟨hil,hx,hd'⟩:=zL hd;have hw:=zB (i:=i) wA;have hal:a.toNat<m.jd.length:=wA
  have kY:((m.jd[a.toNat]?).map zfn.next).getD []=(m.jd[a.toNat]).next:=by rw[jq hal];rfl
  have Ac:m.jd[a.toNat]∈m.jd:=jf hal;have hc:=znC (m.jd[a.toNat]).next x (by have:=h.next _ Ac;omega);by_cases hb:x∈(m.jd[a.toNat]).next
  ·obtain⟨v1,v2⟩:=h.valid _ Ac x hb;obtain⟨ih1,ih2⟩:=ih (i+1) x hd' hil v1 v2;have yR:Y L Cs za8 (some [6,51,50,2,52]) 1 [(6,.w (W a)),(51,.w (W l.length)),(50,.w (.c (.jb (zu l)))),(2,.w (Pt 0)),(52,.w (W i))] [some { box:=true,esz:=5,rows:=[zf m],gen:=0,fz:=false,ver:=0 }]=Y L Cs za8 (some [6,51,50,2,52]) 1 [(6,.w (W x)),(51,.w (W l.length)),(50,.w (.c (.jb (zu l)))),(2,.w (Pt 0)),(52,.w (W (i+1:Nat)))] [some { box:=true,esz:=5,rows:=[zf m],gen:=0,fz:=false,ver:=0 }]:=by
    rw[zrL];simp[hb]at hc;simp[za8,hil,hx,zf,zo,hc,hw,h1,h2,hal]
   rw[yR];simp only[goF,kY,hb,decide_true,uw];exact⟨ih1,ih2⟩
  ·refine⟨fun hg=>by simp[goF,kY,hb]at hg,fun _=>zhJ ?_ wD⟩;simp[hb]at hc;simp[za8,hil,hx,zf,zo,hc,hw,h1,h2,hal]
def zdA(m:zD):List Int->Int
 |[]=>13
 |x::t=>if 8<t.length+1 then 13 else if x<0 then 13 else if(m.jd.length:Int)<=x then 13 else if zes x 0 m.jd≠[] then 13 else if goF m x t then 0 else 13
def zos(m:zD)(h:zvM m)(hck:R L Cs zjl [.a (zf m)] []=some (.w (W 0),[]))(l:List Int)(hl:l.length<=1000):R L Cs znv [.a (zf m),.c (.jb (zu l))] []=some (.w (W (zdA m l)),[]):=by
 have BO:=zwq m h;simp only[zf]at hck BO;rw[zUa znF rfl];cases l with
 |nil=>simp[zbl,zf,hck,zdA]
 |cons x t =>
 have hne:((t.length:Int)+1==0)=false:=by simp;omega
 have Co:=zvT m x (by have:=h.jd;omega) (fun l hl=>by have:=h.next l hl;omega);simp only[zf]at Co;simp only[zdA];by_cases h8:8<t.length+1
 ·have h8':(8:Int)<(t.length:Int)+1:=wA
  simp[zbl,zf,hck,hne,h8,h8']
 have h8':¬(8:Int)<(t.length:Int)+1:=wA
 rw[if_neg h8];by_cases h0:x<0
 ·simp[zbl,zf,hck,hne,h8',h0]
 by_cases hn:(m.jd.length:Int)<=x
 ·simp[zbl,zf,hck,hne,h8',h0,hn]
 by_cases hb:zes x 0 m.jd=[]
 ·rw[hb]at Co;simp only[zay]at Co;obtain⟨l1,l2⟩:=BO t (by simp at hl;omega) t 0 x rfl (jr _) wA wA;simp only[jg]at l1 l2;have q1:(1:Int)<=(t.length:Int)+1:=wA
  have q2:(0:Int)<=(t.length:Int)+1:=wA
  have q3:1+t.length<=t.length+1:=wA
  cases hg:goF m x t with
  |true =>
   obtain⟨b,l1⟩:=l1 hg;simp[zbl,zf,hck,hne,h8',h0,hn,hb,Co,l1,q1,q2,q3]
  |false =>
   have l2:=l2 hg;simp[zbl,zf,hck,hne,h8',h0,hn,hb,Co,l2,q1,q2,q3]
 ·have uo:0<(zes x 0 m.jd).length:=kD.2 hb;have Dv:(0:Int)<((zes x 0 m.jd).length:Int):=wA
  simp[zbl,zf,hck,hne,h8',h0,hn,hb,Co,uo,Dv]
def zeT(l:zfn):Cl:=.jb (l.pts.map fun p=>[I p.1,I p.2])
structure zcp(m:zD):Prop where
 small:zvM m
 chk:R L Cs zjl [.a (zf m)] []=some (.w (W 0),[])
 rchk:R L Cs zeE [.a (zf m)] []=some (.w (W 0),[])
 len:∀l∈m.jd,R L Cs zaw [.a [zeT l]] []=some (.w (W l.len),[])
 rlen:∀l∈m.jd,R L Cs zN [.a [zeT l]] []=some (.w (W l.len),[])
 Cf:∀l∈m.jd,1000<=l.len/\l.len<=1000000
 kind:∀l∈m.jd,l.kind=1\/l.kind=2\/l.kind=3
 vY:∀l∈m.jd,1<=l.vY/\l.vY<=2000
def z8(m:zD)(i:Int):Int:=if 0<=i then((m.jd[i.toNat]?).map zfn.len).getD 0 else 0
def zAV{m:zD}(h:zcp m){i:Nat}(hi:i<m.jd.length):R L Cs zkE [.a (zf m),W i] []=some (.w (W m.jd[i].len),[]):=by
 have hc:=h.len _ (jf hi);simp only[zeT]at hc;rw[zUa zou rfl];simp[zh5,zf,hi,zo,hc]
def zrQ{m:zD}(h:zcp m){i:Nat}(hi:i<m.jd.length):R L Cs zri [.a (zf m),W i] []=some (.w (W m.jd[i].len),[]):=by
 have hl:=zAV h hi;have hk:=h.chk;simp only[zf]at hl hk;have his:R L Cs zwZ [.a (zf m),W i] []=some (.w (Bo true),[]):=by
  rw[zUa zxi rfl];simp[znA,zf,hi,hk]
 simp only[zf]at his;rw[zUa zrY rfl];simp[ziu,zf,his,hl]
def zeR(k:Int):Int:=if k=1 then 2000 else if k=2 then 1000 else 300
def zif(k:Int):Int:=if k=1 then 30 else if k=2 then 20 else 100
def zd4(k:Int):Int:=if k=1 then 90 else if k=2 then 60 else 300
def znI:zaH L Cs 400 zgz [W 1] []=some (.t [W 2000,W 30,W 90],[])/\zaH L Cs 400 zgz [W 2] []=some (.t [W 1000,W 20,W 60],[])/\zaH L Cs 400 zgz [W 3] []=some (.t [W 300,W 100,W 300],[]):=⟨by kernel_rfl,by kernel_rfl,by kernel_rfl⟩
def zjg:zaH L Cs 400 zc1 [W 1] []=some (.t [W 2000,W 30,W 90],[])/\zaH L Cs 400 zc1 [W 2] []=some (.t [W 1000,W 20,W 60],[])/\zaH L Cs 400 zc1 [W 3] []=some (.t [W 300,W 100,W 300],[]):=⟨by kernel_rfl,by kernel_rfl,by kernel_rfl⟩
def zmo{k:Int}(h:k=1\/k=2\/k=3):R L Cs zgz [W k] []=some (.t [W (zeR k),W (zif k),W (zd4 k)],[]):=by
 rcases h with rfl|rfl|rfl
 ·exact zah.2 ⟨400,znI.1⟩
 ·exact zah.2 ⟨400,znI.2.1⟩
 ·exact zah.2 ⟨400,znI.2.2⟩
def zhv{k:Int}(h:k=1\/k=2\/k=3):R L Cs zc1 [W k] []=some (.t [W (zeR k),W (zif k),W (zd4 k)],[]):=by
 rcases h with rfl|rfl|rfl
 ·exact zah.2 ⟨400,zjg.1⟩
 ·exact zah.2 ⟨400,zjg.2.1⟩
 ·exact zah.2 ⟨400,zjg.2.2⟩
def zid{M:Mem}{r r':AV}(h:zoS M r=some r')(hb:r'.below 0=true):leave true 0 r M=some (r',[]):=by
 simp_all
def zvj(M:Mem)(k:IntKind)(n:Int):zdR M (.int k n)=some (.int k n):=rfl
def zTV{M:Mem}{t:Int}{S x:Cl}{e:Ego}(h:zdR M S=some x)(hx:Eng.below 0 x=true):leave true 0 (.w (.a [I t,S,I e.slo,I e.shi,I e.vlo,I e.vhi])) M=some (.w (.a [I t,x,I e.slo,I e.shi,I e.vlo,I e.vhi]),[]) :=
 zid (by simp_all) (by simp_all)
def zTF(i:Nat)(l:zfn):zk:=⟨i,0,l.len,0,zeR l.kind,0⟩
def zTA:Nat->List zfn->List zk
 |_,[]=>[]
 |i,l::r=>zTF i l::zTA (i+1) r
abbrev zch(e:Ego):List Cl:=[I e.slo,I e.shi,I e.vlo,I e.vhi]
abbrev zTL(t:Int)(S:Cl)(e:Ego):List Cl:=[I t,S,I e.slo,I e.shi,I e.vlo,I e.vhi]
abbrev zFA:List Cl:=[I 0,.jc,I 0,I 0,I 0,I 0]
def ZnF{m:zD}(h:zcp m)(t:Int)(e:Ego)(j:Nat):∀(r:List zfn) (i:Nat) (out:List zk) (v:Nat) (G:Mem),m.jd.drop i=r->i<=m.jd.length->out.length=i->G[j]?=some (some (own 6 (zI out))) ->
  ∃v' G',G'[j]?=some (some (own 6 (zI (out++zTA i r))))/\Y L Cs zrB (some [23,22,6,21,3,7]) 4 [(23,.w (W i)),(22,.w (W m.jd.length)),(6,.w (Pt 2)),(21,.w (.c (.jb (m.jd.map zo)))),(3,.w (Pt 0)),(7,.w (Pt 3))] (bx 5 (zf m)::bx 4 (zch e)::bx 6 zFA::bxv v 6 (zTL t (.slice (j+4) out.length 6 0 out.length none) e)::G) =
   some (.exit 0,[(24,.w (Bo false)),(23,.w (W m.jd.length)),(22,.w (W m.jd.length)),(6,.w (Pt 2)),(21,.w (.c (.jb (m.jd.map zo)))),(3,.w (Pt 0)),(7,.w (Pt 3))],(bx 5 (zf m)::bx 4 (zch e)::bx 6 zFA::bxv v' 6 (zTL t (.slice (j+4) (out++zTA i r).length 6 0 (out++zTA i r).length none) e)::G')):=by
 intro r;induction r with
 |nil =>
  intro i out v G hd hi ho hG;obtain rfl:=zUb hd hi;refine⟨v,G,by simpa [zTA]using hG,?_⟩;rw[ZfM zrB.eq_1];simp[zTA]
 |cons l r ih =>
  intro i out v G hd hi ho hG;subst ho;obtain⟨hil,hl,hd'⟩:=zL hd;have Ac:l∈m.jd:=by rw[<-hl];exact jf _
  have hw:=zB (i:=out.length) (by have:=h.small.jd;omega);have hjG:j<G.length:=(jy.1 hG).1;have hg:∀N:Mem,(G++N)[j]?=some (some (own 6 (zI out))):=fun N=>by rw[jo hjG,hG]
  have AP:∀(N:Mem) (x:Option Blk),(G++N).set j x=G.set j x++N:=fun N x=>ur _ _ hjG
  have hb:=zmo (h.kind l Ac);have hL:=zrQ h hil;rw[hl]at hL;have kA:(out.length+1)*48<=140737488355328:=by have:=h.small.jd;omega
  obtain⟨v',G',h1,h2⟩:=ih (out.length+1) (out++[zTF out.length l]) (v+1) (G.set j (some (own 6 (zI (out++[zTF out.length l]))))++[bxv 1 5 (zo l),some (own 6 [ze (zTF out.length l)])]) hd' hil wD (by rw[jo (by simpa using hjG),jS hjG]);have e1:out++zTA out.length (l::r)=(out++[zTF out.length l])++zTA (out.length+1) r:=by simp[zTA]
  refine⟨v',G',by rw[e1];exact h1,?_⟩;rw[e1,<-h2,ZfM zrB.eq_1];simp only[own,zgg,zf]at hg hL;have hdr:∀(E:Env) (x y z:Option Blk) (w g len:Nat) (N:Mem),km 4 E (x::y::z::bxv w 6 (zTL t (.slice (j+4) g 6 0 len none) e)::N)=(x::y::z::bxv w 6 (zTL t (.slice (j+4) g 6 0 len none) e)::N):=by
   intro E x y z w g len N;unfold km;split
   ·rfl
   ·rw[if_neg];simp[zH,Blk.below,Eng.below,yC]
  simp only[bxv,zTL]at hdr;simp[hil,hl,zo,hb,hL,zf,hw,hg,AP,kA,zg,hdr,zTF,ze,-km]
def Zn6{m:zD}(h:zcp m)(t:Int)(e:Ego):R L Cs Zm1 [.a (zf m),W t,.a (zch e)] []=some (.w (.a (zG ⟨t,zTA 0 m.jd,e⟩)),[]):=by
 have hk:=h.chk;rw[zUa Zm5 rfl];have Dy:∃M' S v,Y L Cs zrB (some [23,22,6,21,3,7]) 4 [(23,.w (W 0)),(22,.w (W m.jd.length)),(6,.w (Pt 2)),(21,.w (.c (.jb (m.jd.map zo)))),(3,.w (Pt 0)),(7,.w (Pt 3))] [bx 5 (zf m),bx 4 (zch e),bx 6 zFA,bxv 1 6 (zTL t .jc e)] =
   some (.exit 0,[(24,.w (Bo false)),(23,.w (W m.jd.length)),(22,.w (W m.jd.length)),(6,.w (Pt 2)),(21,.w (.c (.jb (m.jd.map zo)))),(3,.w (Pt 0)),(7,.w (Pt 3))],bx 5 (zf m)::bx 4 (zch e)::bx 6 zFA::bxv v 6 (zTL t S e)::M') /\
   zdR (bx 5 (zf m)::bx 4 (zch e)::bx 6 zFA::bxv v 6 (zTL t S e)::M') S=some (.jb (zI (zTA 0 m.jd)))/\zdR (bx 5 (zf m)::bx 4 (zch e)::bxv 1 6 (zTL t S e)::bxv v 6 (zTL t S e)::M') S=some (.jb (zI (zTA 0 m.jd))):=by
  by_cases hne:m.jd=[]
  ·rw[hne];refine⟨[],.jc,1,?_,by simp[zdR,zTA],by simp[zdR,zTA]⟩;rw[ZfM zrB.eq_1];simp
  ·obtain⟨l,r,hl⟩:=u6 hne;have hlen:0<m.jd.length:=by rw[hl];simp
   have h0:m.jd[0]=l:=by simp[hl]
   have Ac:l∈m.jd:=by rw[hl];simp
   have hb:=zmo (h.kind l Ac);have hL:=zrQ h hlen;rw[h0]at hL;obtain⟨v',G',h1,h2⟩:=ZnF h t e 2 r 1 [zTF 0 l] 2 [bxv 1 5 (zo l),some (own 6 [ze (zTF 0 l)]),some (own 6 [ze (zTF 0 l)])] (by rw[hl];rfl) wA rfl rfl;have ve:zTA 0 m.jd=[zTF 0 l]++zTA 1 r:=by rw[hl];rfl
   refine⟨G',.slice 6 ([zTF 0 l]++zTA 1 r).length 6 0 ([zTF 0 l]++zTA 1 r).length none,v',?_,?_,?_⟩
   ·simp only[kg,jg,jl,jp,own,zf]at hL h2 ⊢;rw[<-h2,ZfM zrB.eq_1];have hw:IntKind.i64.wrap 1=1:=rfl;have hr:(0:Int)<(m.jd.length:Int):=wA
    simp[hlen,h0,zo,hb,hL,hw,zg,zTF,ze,hr]
   ·rw[ve];simp[zdR,look,h1]
   ·rw[ve];simp[zdR,look,h1]
 obtain⟨M',S,v,h1,h2,h3⟩:=Dy;simp only[zf]at hk h1 h2;simp[zvB,zf,hk,h1,-leave];exact zTV h3 rfl
def zQ(kind lim:Int)(next:List Int)(a b c d len:Int):zfn:={ kind:=kind,pts:=[(a,b),(c,d)],half:=if kind=3 then 500 else 1500,vY:=lim,next:=next,len:=len }
def zaY(o a b:Int):List Cl:=[I o,.jb [[I 12,.jb [[I a]]],[I 5,.jb []],[I 9,.jb [[I b]]],[I 4,.jb []]]]
def zaZ(kind lim:Int)(next:List Int)(a b c d len:Int):R L Cs zmT [W kind,W lim,.c (.jb (zu next)),.c (.jb (zu [a,b,c,d]))] []=some (.w (.a (zo (zQ kind lim next a b c d len))),[]):=by
 rw[zUa zm4 rfl];have hw1:IntKind.i64.wrap 1=1:=rfl;have hw2:IntKind.i64.wrap 2=2:=rfl;have hw3:IntKind.i64.wrap 3=3:=rfl;have hw4:IntKind.i64.wrap 4=4:=rfl;have hw5:IntKind.i64.wrap 5=5:=rfl;have hy:∃M' S v,Y L Cs zco (some [10,8,0,3,9]) 2 [(10,.w (W 0)),(8,.w (Pt 0)),(0,.w (W kind)),(3,.w (.c (.jb (zu [a,b,c,d])))),(9,.w (Pt 1))] [bx 5 [I 0,.jc,I 0,I 0,.jc],bxv 1 5 [I kind,.jc,I 1500,I lim,.jb (zu next)]] =
   some (.exit 0,[(19,.w (Bo false)),(10,.w (W 4)),(8,.w (Pt 0)),(0,.w (W kind)),(3,.w (.c (.jb (zu [a,b,c,d])))),(9,.w (Pt 1))],bx 5 [I 0,.jc,I 0,I 0,.jc]::bxv v 5 [I kind,S,I 1500,I lim,.jb (zu next)]::M') /\
   (∀x y:Option Blk,zdR (x::y::M') S=some (.jb [[I a,I b],[I c,I d]])):=by
  refine⟨[some (own 2 [[I a,I b]]),some (own 2 [[I a,I b],[I c,I d]]),some (own 2 [[I c,I d]])],.slice 3 2 2 0 2 none,3,?_,?_⟩
  ·rw[ZfM zco.eq_1];simp[hw1,hw2,hw3,hw4,hw5,zg,zH];rw[ZfM zco.eq_1];simp[hw1,hw2,hw3,hw4,hw5,zg,zH];rw[ZfM zco.eq_1];simp[hw1,hw2,hw3,hw4,hw5,zg,zH]
  ·intro x y;simp[zdR,look]
 obtain⟨M',S,v,h1,h2⟩:=hy;simp only[zaP,zay]at h1;have hf:∀(M:Mem) (x y:Option Blk) (k2 h2 l2:Int),M=x::y::M'->zoS M (.w (.a [I k2,S,I h2,I l2,.jb (zu next)]))=some (.w (.a [I k2,.jb [[I a,I b],[I c,I d]],I h2,I l2,.jb (zu next)])):=by
  intro M x y k2 h2' l2 hM;subst hM;simp only[zoS,zn7,yL,h2 x y];rfl
 by_cases hk:kind=3
 ·subst hk;simp[zee,h1,-leave];exact zid (hf _ _ _ _ _ _ rfl) rfl
 ·have hb:(kind==3)=false:=by simp[hk]
  simp[zee,h1,hk,hb,-leave];have e:zo (zQ kind lim next a b c d len)=[I kind,.jb [[I a,I b],[I c,I d]],I 1500,I lim,.jb (zu next)]:=by simp[zo,zQ,hk]
  rw[e];exact zid (hf _ _ _ _ _ _ rfl) rfl
def zj1(o a b:Int):R L Cs zlr [W o,W a,W b] []=some (.w (.a (zaY o a b)),[]):=by
 rw[zUa zlH rfl];simp[ze2,zaY,zg,zX]
def zhR(n:Int):R L Cs zny [W n,W 16777216] []=some (.w (W (n % 16777216)),[]):=by
 rw[zUa znH rfl];have h1:0<=n->n.tmod 16777216=n % 16777216:=qH;have h2:n<0->n.tmod 16777216=-((-n) % 16777216):=fun hn=>by
  have e1:(-n).tmod 16777216=(-n) % 16777216:=qH wA;have e2:=Int.neg_tmod (-n) 16777216;rw[Int.neg_neg,e1]at e2;exact e2
 by_cases h:n.tmod 16777216<0
 ·have e:IntKind.i64.wrap (n.tmod 16777216+16777216)=n % 16777216:=by
   rw[zTd _ wA wA];omega
  simp[zeK,h,e]
 ·have e:n.tmod 16777216=n % 16777216:=wA
  have h3:¬n % 16777216<0:=wA
  simp[zeK,h3,e]
def Znn{N d:Int}(hN:0<=N/\N<16777216)(hd:0<d):IntKind.i64.wrap (N.tdiv d)=N.tdiv d:=by
 rw[qr hN.1];have h1:0<=N / d:=Au hN.1 wA;have h2:N / d<=N:=Int.ediv_le_self _ hN.1;exact zTd _ wA wA
def zE(N d e:Int)(hN:0<=N/\N<16777216)(hd:0<d)(he:0<e):0<=(N.tdiv d).tmod e/\(N.tdiv d).tmod e<e:=by
 rw[qr hN.1];have h1:0<=N / d:=Au hN.1 wA;rw[qH h1];exact⟨vK _ wA,uM _ he⟩
def zdK(l a b r:Int):List Cl:=[I l,I a,I b,I r]
def zfa(ps:List (List Cl))(s:Int):List Cl:=[.jb ps,I s]
def zy(k:Nat)(lim:Int):List zfn:=match k with
 |0=>[zQ 1 lim [] 0 0 60000 0 60000]
 |1 |2=>[zQ 1 lim [] 0 0 50000 0 50000,zQ 1 1500 [] 30000 (-20000) 30000 20000 40000]
 |3=>[zQ 1 lim [1,2] 0 0 30000 0 30000,zQ 1 1500 [] 30000 0 60000 0 30000,zQ 1 800 [] 30000 0 54000 10000 26000]
 |4=>[zQ 1 lim [2] 0 0 30000 0 30000,zQ 1 1500 [2] 6000 (-10000) 30000 0 26000,zQ 1 1500 [] 30000 0 60000 0 30000]
 |5=>[zQ 1 lim [1] 0 0 20000 0 20000,zQ 1 lim [] 20000 0 50000 0 30000,zQ 3 200 [] 35000 (-8000) 35000 8000 16000]
 |_=>[zQ 1 lim [1,2] 0 0 20000 0 20000,zQ 1 1500 [] 20000 0 50000 0 30000,zQ 1 1000 [] 20000 0 44000 10000 26000,zQ 2 700 [] 36000 (-12000) 36000 18000 30000]
def zO(k:Nat)(r:Int):List (List Cl):=match k with
 |0=>[]
 |1=>[zfa [zdK 0 28000 32000 r,zdK 1 18000 22000 (2-2*r)] 0]
 |2=>[zfa [zdK 0 28000 32000 r,zdK 1 18000 22000 (2-2*r)] 1]
 |3=>[]
 |4=>[zfa [zdK 0 25000 30000 1,zdK 1 20000 26000 0,zdK 2 0 5000 0] 0]
 |5=>[zfa [zdK 1 14000 16000 0,zdK 2 6000 10000 3] 0]
 |_=>[zfa [zdK 1 14000 18000 1,zdK 3 10000 14000 0] (if r=1 then 1 else 0),zfa [zdK 2 14000 21000 1,zdK 3 14500 23000 0] (if r=1 then 2 else 0)]
def zt(k:Nat)(r o1 o2 o3:Int):List (List Cl):=match k with
 |2=>[zaY o1 0 1]
 |6=>if r=1 then [zaY o2 1 3,zaY o3 2 3] else []
 |_=>[]
def zak(w b t:Int):List zCP:=if w=1 then [⟨0,10000,15000,b,b+20,t*200⟩] else []
def zq(k:Nat)(lim r o1 o2 o3 v:Int)(ws:List zCP):zD:={ version:=v,jd:=zy k lim,qR:=zO k r,signals:=zt k r o1 o2 o3,kT:=ws }
def zeC(j:Nat):Int:=match j with |0=>1500 |1=>600 |2=>1000 |_=>300
def zea(j:Nat)(hj:j<4):([[I 1500],[I 600],[I 1000],[I 300]]:List (List Cl))[j]?=some [I (zeC j)]:=by
 match j,hj with
 |0,_=>rfl
 |1,_=>rfl
 |2,_=>rfl
 |3,_=>rfl
def zdd(j:Nat)(h:j<([[I 1500],[I 600],[I 1000],[I 300]]:List (List Cl)).length):([[I 1500],[I 600],[I 1000],[I 300]]:List (List Cl))[j]=[I (zeC j)]:=by
 match j,h with
 |0,_=>rfl
 |1,_=>rfl
 |2,_=>rfl
 |3,_=>rfl
def zTw(k:Nat)(n:Int)(h7:(n % 16777216).tmod 7=k)(hk:k<7) :
  R L Cs zY [W n] []=some (.w (.a (zf (zq k (zeC (((n % 16777216).tdiv 7).tmod 4).toNat) (((n % 16777216).tdiv 28).tmod 2) (((n % 16777216).tdiv 28).tmod 31) (((n % 16777216).tdiv 56).tmod 31) (((n % 16777216).tdiv 56).tmod 17) (((n % 16777216).tdiv 28).tmod 5) (zak (((n % 16777216).tdiv 1736).tmod 3) (((n % 16777216).tdiv 5208).tmod 40) (((n % 16777216).tdiv 208320).tmod 3))))),[]):=by
 have hM:=zhR n;have hN:0<=n % 16777216/\n % 16777216<16777216:=wA
 generalize n % 16777216=N at *;have wd:=fun(d:Int) (h:0<d)=>Znn (N:=N) (d:=d) hN h
 have w7:=wd 7 wC;have w28:=wd 28 wC;have w56:=wd 56 wC;have w1736:=wd 1736 wC;have w5208:=wd 5208 wC;have DJ:=wd 208320 wC;have hj:=zE N 7 4 hN wC wC;obtain⟨j,hje⟩:=jA hj.1;have hj4:j<4:=wA
 have hj4':(j:Int)<4:=wA
 have r2:=zE N 28 2 hN wC wC;have b40:=zE N 5208 40 hN wC wC;have t3:=zE N 208320 3 hN wC wC;have hlg:=zea j hj4;have q0:=fun k lim a b c d=>zaZ k lim [] a b c d 0
 have q1:=fun k lim a b c d=>zaZ k lim [1] a b c d 0
 have q2:=fun k lim a b c d=>zaZ k lim [2] a b c d 0
 have q3:=fun k lim a b c d=>zaZ k lim [1,2] a b c d 0
 have s1:=fun o a b=>zj1 o a b
 simp only[zaP,zay,zo,zQ,kR,qs,zaY]at q0 q1 q2 q3 s1;have wr1:=qB (2*(N.tdiv 28).tmod 2);have wr2:=qB (2-2*(N.tdiv 28).tmod 2);have wb:=qB ((N.tdiv 5208).tmod 40+20);have wt:=qB ((N.tdiv 208320).tmod 3*200);have hw:(((N.tdiv 1736).tmod 3==1)=true/\(N.tdiv 1736).tmod 3=1)\/(((N.tdiv 1736).tmod 3==1)=false/\¬(N.tdiv 1736).tmod 3=1):=by by_cases e:(N.tdiv 1736).tmod 3=1<;>simp[e]
 have hc:(k=0/\k<7)\/(k=1/\k<7)\/(k=2/\k<7)\/(k=3/\k<7)\/(k=4/\k<7)\/(k=5/\k<7)\/(k=6/\(N.tdiv 28).tmod 2=0)\/(k=6/\(N.tdiv 28).tmod 2=1):=wA
 rw[zUa zUq rfl];rcases hc with⟨rfl,hr⟩ |⟨rfl,hr⟩ |⟨rfl,hr⟩ |⟨rfl,hr⟩ |⟨rfl,hr⟩ |⟨rfl,hr⟩ |⟨rfl,hr⟩ |⟨rfl,hr⟩<;>rcases hw with⟨hwb,hw⟩ |⟨hwb,hw⟩ <;>
  simp (config:={ maxSteps:=1000000 }) [zZ,hM,h7,hje,hlg,zdd,hj4,hj4',w7,w28,w56,w1736,w5208,DJ,wr1,wr2,wb,wt,hr,hwb,hw,q0,q1,q2,q3,s1,zg,zX,zH,zcl,zf,zq,zy,zO,zt,zak,zo,zQ,zaL,zfa,zdK,zaY]
def ziD(n lo hi:Int):R L Cs zre [W n,W lo,W hi] []=some (.w (Bo (decide (lo<=n)&&decide (n<=hi))),[]):=by
 rw[zUa zrU rfl];by_cases h:lo<=n
 ·simp[zgL,h]
 ·simp[zgL,h]
def zmm(n lo hi:Int):R L Cs zjO [W n,W lo,W hi] []=some (.w (Bo (decide (lo<=n)&&decide (n<=hi))),[]):=by
 rw[zUa zj9 rfl];by_cases h:lo<=n
 ·simp[zc9,h]
 ·simp[zc9,h]
structure zon(m:zD):Prop where
 v1:0<=m.version
 v2:m.version<=1099511627776
 l1:0<m.jd.length
 l2:m.jd.length<=12
 z:m.qR.length<=12
 s:m.signals.length<=4
 w:m.kT.length<=8
def zhb{m:zD}(h:zon m):R L Cs zdG [.a (zf m)] []=some (.w (W 0),[]):=by
 have hW:=ziD m.version 0 1099511627776;have a1:=h.v1;have a2:=h.v2;have l0:((m.jd.length:Int)==0)=false:=by have:=h.l1;exact beq_false_of_ne wA
 have l1:¬(12:Int)<(m.jd.length:Int):=by have:=h.l2;omega
 have l2:¬(12:Int)<(m.qR.length:Int):=by have:=h.z;omega
 have l3:¬(4:Int)<(m.signals.length:Int):=by have:=h.s;omega
 have l4:¬(8:Int)<(m.kT.length:Int):=by have:=h.w;omega
 have l5:¬12<m.jd.length:=wA
 have l6:¬12<m.qR.length:=wA
 have l7:¬4<m.signals.length:=wA
 have l8:¬8<m.kT.length:=wA
 have l9:¬m.jd=[]:=by have:=h.l1;intro e;rw[e]at this;simp at this
 rw[zUa zlw rfl];simp[zeY,zf,hW,a1,a2,l0,l1,l2,l3,l4,l5,l6,l7,l8,l9]
def zgb{m:zD}(h1:R L Cs zdG [.a (zf m)] []=some (.w (W 0),[]))(h2:R L Cs zaU [.a (zf m)] []=some (.w (W 0),[]))
  (h3:R L Cs zaM [.a (zf m)] []=some (.w (W 0),[])) (h4:R L Cs zao [.a (zf m)] []=some (.w (W 0),[]))
  (h5:R L Cs zR [.a (zf m)] []=some (.w (W 0),[])) (h6:R L Cs zec [.a (zf m)] []=some (.w (W 0),[])):R L Cs zjl [.a (zf m)] []=some (.w (W 0),[]):=by
 simp only[zf]at h1 h2 h3 h4 h5 h6;have e1:IntKind.i64.wrap 1=1:=rfl;have e2:IntKind.i64.wrap 2=2:=rfl;have e3:IntKind.i64.wrap 3=3:=rfl;have e4:IntKind.i64.wrap 4=4:=rfl;have e5:IntKind.i64.wrap 5=5:=rfl;have e6:IntKind.i64.wrap 6=6:=rfl;have hl:Y L Cs zbP (some [7,6,1,8]) 2 [(7,.w (W 6)),(6,.w (.c (.slice 1 6 1 0 6 none))),(1,.w (Pt 0)),(8,.w (W 0))] [bx 5 (zf m),some { box:=true,esz:=1,rows:=[[.fn zdG [] []],[.fn zaU [] []],[.fn zaM [] []],[.fn zao [] []],[.fn zR [] []],[.fn zec [] []]],gen:=6,fz:=false,ver:=6 }] =
   some (.exit 0,[(9,.w (Bo false)),(1,.w (Pt 0)),(6,.w (.c (.slice 1 6 1 0 6 none))),(7,.w (W 6)),(8,.w (W 6))],[bx 5 (zf m),some { box:=true,esz:=1,rows:=[[.fn zdG [] []],[.fn zaU [] []],[.fn zaM [] []],[.fn zao [] []],[.fn zR [] []],[.fn zec [] []]],gen:=6,fz:=false,ver:=6 }]):=by
  rw[ZfM zbP.eq_1];simp[zf,h1,e1];rw[ZfM zbP.eq_1];simp[h2,e2];rw[ZfM zbP.eq_1];simp[h3,e3];rw[ZfM zbP.eq_1];simp[h4,e4];rw[ZfM zbP.eq_1];simp[h5,e5];rw[ZfM zbP.eq_1];simp[h6,e6];rw[ZfM zbP.eq_1];simp
 simp only[zf]at hl;rw[zUa zsu rfl];simp[zjp,zf,hl,zg,zcl,zi2,zr,okW]
def zd1{m:zD}(h:zon m)(h2:∀i:Nat,i<m.jd.length->R L Cs zav [.a (zf m),W i] []=some (.w (W 0),[]))(h3:R L Cs zau [.a (zf m)] []=some (.w (W 0),[]))
  (hsp:∀s∈m.signals,∃o ps,s=[I o,.jb ps]) (hzp:∀s∈m.qR,∃ps o,s=[.jb ps,I o])
  (h4:∀s∈m.signals,R L Cs zV [.a (zf m),.a s] []=some (.w (W 0),[]))
  (h5:∀z∈m.qR,R L Cs zJ [.a (zf m),.a z] []=some (.w (W 0),[]))
  (e:Int) (h6:(∀w∈m.kT,R L Cs zfh [.a (zf m),.a (zaL w)] []=some (.w (W 0),[]))/\e=0\/∃w,m.kT=[w]/\R L Cs zfh [.a (zf m),.a (zaL w)] []=some (.w (W e),[])):R L Cs zeE [.a (zf m)] []=some (.w (W e),[]):=by
 have hW:=zmm m.version 0 1099511627776;have a1:=h.v1;have a2:=h.v2;have b1:=h.l1;have b2:=h.l2;have b3:=h.z;have b4:=h.s;have b5:=h.w;have l0:((m.jd.length:Int)==0)=false:=beq_false_of_ne wA;have l1:¬(12:Int)<(m.jd.length:Int):=wA
 have l2:¬(12:Int)<(m.qR.length:Int):=wA
 have l3:¬(4:Int)<(m.signals.length:Int):=wA
 have l4:¬(8:Int)<(m.kT.length:Int):=wA
 have l9:¬m.jd=[]:=by intro e;rw[e]at b1;simp at b1
 have k1:Y L Cs zbZ (some [1,3]) 1 [(1,.w (Pt 0)),(3,.w (W (0:Nat)))] [bx 5 (zf m)]=some (.exit 0,[(43,.w (Bo false)),(1,.w (Pt 0)),(3,.w (W m.jd.length))],[bx 5 (zf m)]):=by
  have q:=zpE (L:=L) (Cs:=Cs) (b:=zbZ) (live:=some [1,3]) (n0:=1) m.jd (fun i=>[(1,.w (Pt 0)),(3,.w (W i))]) [bx 5 (zf m)] (fun _=>false) (.ret,[],[]) (.exit 0,[(43,.w (Bo false)),(1,.w (Pt 0)),(3,.w (W m.jd.length))],[bx 5 (zf m)]) ?_ ?_ ?_
  ·simpa using q
  ·intro i hi _;have hw:=zB (i:=i) wA;have hc:=h2 i hi;simp only[zf]at hc;rw[ZfM zbZ.eq_1];simp[zf,hi,hw,hc]
  ·intro i hi hp;cases hp
  ·rw[ZfM zbZ.eq_1];simp[zf]
 have k2:Y L Cs zbY (some [5,6,1]) 1 [(5,.w (W 0)),(6,.w (W (0:Nat))),(1,.w (Pt 0))] [bx 5 (zf m)]=some (.exit 2,[(62,.w (Bo false)),(5,.w (W 0)),(6,.w (W m.signals.length)),(1,.w (Pt 0))],[bx 5 (zf m)]):=by
  have q:=zpE (L:=L) (Cs:=Cs) (b:=zbY) (live:=some [5,6,1]) (n0:=1) m.signals (fun i=>[(5,.w (W 0)),(6,.w (W i)),(1,.w (Pt 0))]) [bx 5 (zf m)] (fun _=>false) (.ret,[],[]) (.exit 2,[(62,.w (Bo false)),(5,.w (W 0)),(6,.w (W m.signals.length)),(1,.w (Pt 0))],[bx 5 (zf m)]) ?_ ?_ ?_
  ·simpa using q
  ·intro i hi _;have hw:=zB (i:=i) wA;have hc:=h4 m.signals[i] (jf hi);obtain⟨a,b,hxy⟩:=hsp _ (jf hi);rw[hxy]at hc;simp only[zf]at hc;rw[ZfM zbY.eq_1];simp[zf,hi,hw,hc,hxy]
  ·intro i hi hp;cases hp
  ·rw[ZfM zbY.eq_1];simp[zf]
 have k3:Y L Cs zbX (some [5,7,1]) 1 [(5,.w (W 0)),(7,.w (W (0:Nat))),(1,.w (Pt 0))] [bx 5 (zf m)]=some (.exit 4,[(80,.w (Bo false)),(5,.w (W 0)),(7,.w (W m.qR.length)),(1,.w (Pt 0))],[bx 5 (zf m)]):=by
  have q:=zpE (L:=L) (Cs:=Cs) (b:=zbX) (live:=some [5,7,1]) (n0:=1) m.qR (fun i=>[(5,.w (W 0)),(7,.w (W i)),(1,.w (Pt 0))]) [bx 5 (zf m)] (fun _=>false) (.ret,[],[]) (.exit 4,[(80,.w (Bo false)),(5,.w (W 0)),(7,.w (W m.qR.length)),(1,.w (Pt 0))],[bx 5 (zf m)]) ?_ ?_ ?_
  ·simpa using q
  ·intro i hi _;have hw:=zB (i:=i) wA;have hc:=h5 m.qR[i] (jf hi);obtain⟨a,b,hxy⟩:=hzp _ (jf hi);rw[hxy]at hc;simp only[zf]at hc;rw[ZfM zbX.eq_1];simp[zf,hi,hw,hc,hxy]
  ·intro i hi hp;cases hp
  ·rw[ZfM zbX.eq_1];simp[zf]
 have k4:Y L Cs zbW (some [5,8,1]) 1 [(5,.w (W 0)),(8,.w (W (0:Nat))),(1,.w (Pt 0))] [bx 5 (zf m)]=some (.exit 6,[(98,.w (Bo false)),(5,.w (W e)),(8,.w (W m.kT.length)),(1,.w (Pt 0))],[bx 5 (zf m)]):=by
  rcases h6 with⟨h6,rfl⟩ |⟨w,e1,h6⟩
  ·have q:=zpE (L:=L) (Cs:=Cs) (b:=zbW) (live:=some [5,8,1]) (n0:=1) m.kT (fun i=>[(5,.w (W 0)),(8,.w (W i)),(1,.w (Pt 0))]) [bx 5 (zf m)] (fun _=>false) (.ret,[],[]) (.exit 6,[(98,.w (Bo false)),(5,.w (W 0)),(8,.w (W m.kT.length)),(1,.w (Pt 0))],[bx 5 (zf m)]) ?_ ?_ ?_
   ·simpa using q
   ·intro i hi _;have hw:=zB (i:=i) wA;have hc:=h6 m.kT[i] (jf hi);simp only[zf,zaL]at hc;rw[ZfM zbW.eq_1];simp[zf,hi,hw,hc,zaL]
   ·intro i hi hp;cases hp
   ·rw[ZfM zbW.eq_1];simp[zf]
  ·simp only[zf,e1,kR,qs,zaL]at h6;have w1:IntKind.i64.wrap 1=1:=rfl;rw[ZfM zbW.eq_1];simp[zf,e1,h6,zaL,w1];rw[ZfM zbW.eq_1];by_cases he:e=0
   ·simp[e1,he]
   ·have he':(e==0)=false:=by simp[he]
    simp[e1,he,he']
 simp only[zf,jg]at k1 k2 k3 k4 h3;rw[zUa zk7 rfl];simp[zeJ,zf,hW,a1,a2,l0,l1,l2,l3,l4,l9,k1,k2,k3,k4,h3]
def okI(r:Option (AV×Mem))(n:Int):Bool:=match r with
 |some (.w (.c (.int .i64 x)),[])=>x==n
 |_=>false
theorem zaq{f:FuncId}{a:List WV}{n:Int}(h:okI (zaH L Cs 400 f a []) n=true):R L Cs f a []=some (.w (W n),[]):=by
 refine zah.2 ⟨400,?_⟩;unfold okI at h;split at h
 ·rename_i x e;have:x=n:=by simpa using h
  rw[e,this]
 ·cases h
def Cz:List Int:=[1500,600,1000,300]
def zdD(v:Int)(k:Nat)(lim:Int)(Z S Wk:List (List Cl)):WV:=.a [I v,.jb ((zy k lim).map zo),.jb Z,.jb S,.jb Wk]
def rs2(v lim:Int)(Z S Wk:List (List Cl)):((List.range 31).all fun o=>okI (zaH L Cs 400 zV [zdD v 2 lim Z S Wk,.a (zaY o 0 1)] []) 0)=true:=by kernel_rfl
def kz2(v lim:Int)(s:List Cl)(Wk:List (List Cl)):((List.range 2).all fun r=>okI (zaH L Cs 400 zR [zdD v 2 lim (zO 2 r) [s] Wk] []) 0&&(zO 2 r).all fun z=>okI (zaH L Cs 400 zJ [zdD v 2 lim (zO 2 r) [s] Wk,.a z] []) 0)=true:=by kernel_rfl
def rs6(v lim:Int)(Z S Wk:List (List Cl)):((List.range 31).all fun o=>okI (zaH L Cs 400 zV [zdD v 6 lim Z S Wk,.a (zaY o 1 3)] []) 0&&okI (zaH L Cs 400 zV [zdD v 6 lim Z S Wk,.a (zaY o 2 3)] []) 0)=true:=by kernel_rfl
def kz6(v lim:Int)(Wk:List (List Cl)):(okI (zaH L Cs 400 zR [zdD v 6 lim (zO 6 0) [] Wk] []) 0&&(zO 6 0).all fun z=>okI (zaH L Cs 400 zJ [zdD v 6 lim (zO 6 0) [] Wk,.a z] []) 0)=true:=by kernel_rfl
def kz6b(v lim:Int)(s s':List Cl)(Wk:List (List Cl)):(okI (zaH L Cs 400 zR [zdD v 6 lim (zO 6 1) [s,s'] Wk] []) 0&&(zO 6 1).all fun z=>okI (zaH L Cs 400 zJ [zdD v 6 lim (zO 6 1) [s,s'] Wk,.a z] []) 0)=true:=by kernel_rfl
def klP(k:Nat)(hk:k<7)(v:Int)(Z S Wk:List (List Cl)):(Cz.all fun lim=>okI (zaH L Cs 400 zaU [zdD v k lim Z S Wk] []) 0)=true:=match k,hk with
 |0,_=>by kernel_rfl
 |1,_=>by kernel_rfl
 |2,_=>by kernel_rfl
 |3,_=>by kernel_rfl
 |4,_=>by kernel_rfl
 |5,_=>by kernel_rfl
 |6,_=>by kernel_rfl
def kjP(k:Nat)(hk:k<7)(v lim:Int)(Z S Wk:List (List Cl)):okI (zaH L Cs 400 zaM [zdD v k lim Z S Wk] []) 0=true:=match k,hk with
 |0,_=>by kernel_rfl
 |1,_=>by kernel_rfl
 |2,_=>by kernel_rfl
 |3,_=>by kernel_rfl
 |4,_=>by kernel_rfl
 |5,_=>by kernel_rfl
 |6,_=>by kernel_rfl
def kcP(k:Nat)(hk:k<7)(lim:Int):((zy k lim).all fun l=>okI (zaH L Cs 400 zaw [.a [zeT l]] []) l.len&&okI (zaH L Cs 400 zN [.a [zeT l]] []) l.len)=true:=match k,hk with
 |0,_=>by kernel_rfl
 |1,_=>by kernel_rfl
 |2,_=>by kernel_rfl
 |3,_=>by kernel_rfl
 |4,_=>by kernel_rfl
 |5,_=>by kernel_rfl
 |6,_=>by kernel_rfl
def rlP(k:Nat)(hk:k<7)(v:Int)(Z S Wk:List (List Cl)):(Cz.all fun lim=>(List.range (zy k lim).length).all fun i=>okI (zaH L Cs 400 zav [zdD v k lim Z S Wk,W i] []) 0)=true:=match k,hk with
 |0,_=>by kernel_rfl
 |1,_=>by kernel_rfl
 |2,_=>by kernel_rfl
 |3,_=>by kernel_rfl
 |4,_=>by kernel_rfl
 |5,_=>by kernel_rfl
 |6,_=>by kernel_rfl
def rjP(k:Nat)(hk:k<7)(v lim:Int)(Z S Wk:List (List Cl)):okI (zaH L Cs 400 zau [zdD v k lim Z S Wk] []) 0=true:=match k,hk with
 |0,_=>by kernel_rfl
 |1,_=>by kernel_rfl
 |2,_=>by kernel_rfl
 |3,_=>by kernel_rfl
 |4,_=>by kernel_rfl
 |5,_=>by kernel_rfl
 |6,_=>by kernel_rfl
def kzP(k:Nat)(hk:k<6)(h2:k≠2)(v lim:Int)(Wk:List (List Cl)):((List.range 2).all fun r=>okI (zaH L Cs 400 zR [zdD v k lim (zO k r) [] Wk] []) 0&&(zO k r).all fun z=>okI (zaH L Cs 400 zJ [zdD v k lim (zO k r) [] Wk,.a z] []) 0)=true:=match k,hk with
 |0,_=>by kernel_rfl
 |1,_=>by kernel_rfl
 |2,_=>absurd rfl h2
 |3,_=>by kernel_rfl
 |4,_=>by kernel_rfl
 |5,_=>by kernel_rfl
def zhU(a b:Int):List (List Cl):=[[I 12,.jb [[I a]]],[I 5,.jb []],[I 9,.jb [[I b]]],[I 4,.jb []]]
abbrev zsZ(v:Int)(k:Nat)(lim:Int)(Z S Wk:List (List Cl)):List Cl:=[I v,.jb ((zy k lim).map zo),.jb Z,.jb S,.jb Wk]
def cf1:zaH L Cs 400 zap [.c (.jb (zhU 0 1)),.c (.fn zc0 [] [])] []=some (.w (Bo false),[])/\zaH L Cs 400 zap [.c (.jb (zhU 1 3)),.c (.fn zc0 [] [])] []=some (.w (Bo false),[])/\zaH L Cs 400 zap [.c (.jb (zhU 2 3)),.c (.fn zc0 [] [])] []=some (.w (Bo false),[]):=⟨by kernel_rfl,by kernel_rfl,by kernel_rfl⟩
def cf2a(v lim:Int)(Z S Wk:List (List Cl)):zaH L Cs 400 zap [.c (.jb (zhU 0 1)),.c (.fn zcZ [] [.ptr 0 0 0 0])] [bx 5 (zsZ v 2 lim Z S Wk)]=some (.w (Bo false),[bx 5 (zsZ v 2 lim Z S Wk)]):=by kernel_rfl
def cf2b(v lim:Int)(Z S Wk:List (List Cl)):zaH L Cs 400 zap [.c (.jb (zhU 1 3)),.c (.fn zcZ [] [.ptr 0 0 0 0])] [bx 5 (zsZ v 6 lim Z S Wk)]=some (.w (Bo false),[bx 5 (zsZ v 6 lim Z S Wk)]):=by kernel_rfl
def cf2c(v lim:Int)(Z S Wk:List (List Cl)):zaH L Cs 400 zap [.c (.jb (zhU 2 3)),.c (.fn zcZ [] [.ptr 0 0 0 0])] [bx 5 (zsZ v 6 lim Z S Wk)]=some (.w (Bo false),[bx 5 (zsZ v 6 lim Z S Wk)]):=by kernel_rfl
def zha{m:zD}(hn:m.signals.length<=10)(h:∀s∈m.signals,∃o a b,s=zaY o a b/\0<=o/\o<=1099511627776 /\
   R L Cs zap [.c (.jb (zhU a b)),.c (.fn zc0 [] [])] []=some (.w (Bo false),[]) /\
   R L Cs zap [.c (.jb (zhU a b)),.c (.fn zcZ [] [.ptr 0 0 0 0])] [bx 5 (zf m)]=some (.w (Bo false),[bx 5 (zf m)])) :
  R L Cs zao [.a (zf m)] []=some (.w (W 0),[]):=by
 have q:=zpE (L:=L) (Cs:=Cs) (b:=zcM) (live:=some [9,8,1,10]) (n0:=1) m.signals (fun i=>[(9,.w (W m.signals.length)),(8,.w (.c (.jb m.signals))),(1,.w (Pt 0)),(10,.w (W i))]) [bx 5 (zf m)] (fun _=>false) (.ret,[],[]) (.exit 0,[(11,.w (Bo false)),(1,.w (Pt 0)),(8,.w (.c (.jb m.signals))),(9,.w (W m.signals.length)),(10,.w (W m.signals.length))],[bx 5 (zf m)]) ?_ ?_ ?_
 ·simp only[zf,jg]at q;rw[zUa zlv rfl];simp[zeX,zf,q]
 ·intro i hi _;have hw:=zB (i:=i) wA;obtain⟨o,a,b,hs,o1,o2,c1,c2⟩:=h _ (jf hi);have hW:=ziD o 0 1099511627776;simp only[zf,zhU]at c1 c2;rw[ZfM zcM.eq_1];simp[zf,hi,hw,hs,zaY,hW,o1,o2,c1,c2]
 ·intro i hi hp;cases hp
 ·rw[ZfM zcM.eq_1];simp[zf]
def zBY{m:zD}{n:Nat}(hn:n<m.jd.length)(hlen:R L Cs zaw [.a [zeT m.jd[n]]] []=some (.w (W m.jd[n].len),[])):R L Cs zkE [.a (zf m),W n] []=some (.w (W m.jd[n].len),[]):=by
 simp only[zeT]at hlen;rw[zUa zou rfl];simp[zh5,zf,hn,zo,hlen]
def WkV(m:zD)(w:zCP):Prop:=∃(j:Nat) (h:j<m.jd.length),w.lane=j/\0<=w.lo/\w.lo<=w.hi/\w.hi<=m.jd[j].len/\0<=w.Ca/\w.Ca<w.ends/\w.ends<=1099511627776/\0<=w.vY/\w.vY<=zeR m.jd[j].kind
def zkY{m:zD}(hlen:∀l∈m.jd,R L Cs zaw [.a [zeT l]] []=some (.w (W l.len),[]))(hk:∀l∈m.jd,l.kind=1\/l.kind=2\/l.kind=3)(hwl:m.kT.length<=8)(hw:∀w∈m.kT,WkV m w):R L Cs zec [.a (zf m)] []=some (.w (W 0),[]):=by
 have q:=zpE (L:=L) (Cs:=Cs) (b:=zdm) (live:=some [12,11,10,1]) (n0:=1) m.kT (fun i=>[(12,.w (W i)),(11,.w (W m.kT.length)),(10,.w (.c (.jb (m.kT.map zaL)))),(1,.w (Pt 0))]) [bx 5 (zf m)] (fun _=>false) (.ret,[],[]) (.exit 0,[(13,.w (Bo false)),(12,.w (W m.kT.length)),(11,.w (W m.kT.length)),(10,.w (.c (.jb (m.kT.map zaL)))),(1,.w (Pt 0))],[bx 5 (zf m)]) ?_ ?_ ?_
 ·simp only[zf,jg]at q;simp at q;rw[zUa zmZ rfl];simp[zfE,zf,q]
 ·intro i hi _;obtain⟨j,hj,e,x1,x2,x3,x4,x5,x6,x7,x8⟩:=hw _ (jf hi);have hww:=zB (i:=i) wA;have hB:=zmo (hk _ (jf hj));have hL:=zBY hj (hlen _ (jf hj));have hW:=ziD m.kT[i].vY 0 (zeR m.jd[j].kind);simp only[zf]at hL;generalize hwi:m.kT[i]=w at *;obtain⟨w1,w2,w3,w4,w5,w6⟩:=w;simp only at e x1 x2 x3 x4 x5 x6 x7 x8 hW;subst e;generalize zeR m.jd[j].kind=tv at *;have y0:¬(m.jd.length:Int)<=(j:Int):=wA
  have yj:¬(j:Int)<0:=wA
  have y1:¬w2<0:=wA
  have y2:¬w3<w2:=wA
  have y3:¬m.jd[j].len<w3:=wA
  have y4:¬w4<0:=wA
  have y5:¬w5<=w4:=wA
  have y6:¬(1099511627776:Int)<w5:=wA
  rw[ZfM zdm.eq_1];simp[zf,hi,hww,hwi,zaL,hj,zo,hB,hL,hW,yj,y0,y1,y2,y3,y4,y5,y6,x7,x8]
 ·intro i hi hp;cases hp
 ·rw[ZfM zdm.eq_1];simp[zf]
def zga{m:zD}(hlen:∀l∈m.jd,R L Cs zN [.a [zeT l]] []=some (.w (W l.len),[]))(hk:∀l∈m.jd,l.kind=1\/l.kind=2\/l.kind=3){w:zCP}(hw:WkV m w) :
  R L Cs zfh [.a (zf m),.a (zaL w)] []=some (.w (W 0),[]):=by
 obtain⟨j,hj,e,x1,x2,x3,x4,x5,x6,x7,x8⟩:=hw;have hB:=zhv (hk _ (jf hj));have hL:=hlen _ (jf hj);have hW:=zmm w.vY 0 (zeR m.jd[j].kind);simp only[zeT]at hL;obtain⟨w1,w2,w3,w4,w5,w6⟩:=w;simp only at e x1 x2 x3 x4 x5 x6 x7 x8 hW;subst e;generalize zeR m.jd[j].kind=tv at *;have y0:¬(m.jd.length:Int)<=(j:Int):=wA
 have yj:¬(j:Int)<0:=wA
 have y1:¬w2<0:=wA
 have y2:¬w3<w2:=wA
 have y3:¬m.jd[j].len<w3:=wA
 have y4:¬w4<0:=wA
 have y5:¬w5<=w4:=wA
 have y6:¬(1099511627776:Int)<w5:=wA
 rw[zUa ziH rfl];simp[zdF,zf,zaL,hj,zo,hB,hL,hW,yj,y0,y1,y2,y3,y4,y5,y6,x7,x8]
structure NumsO(k:Nat)(lim r o1 o2 o3 v:Int)(ws:List zCP):Prop where
 lim:lim∈Cz
 r:r=0\/r=1
 o1:0<=o1/\o1<31
 o2:0<=o2/\o2<31
 o3:0<=o3/\o3<17
 v:0<=v/\v<5
 wl:ws.length<=1
structure zp2(k:Nat)(li rr p1 p2 p3 vv:Int)(ws:List zCP):Prop extends NumsO k li rr p1 p2 p3 vv ws where
 wv:∀x∈ws,WkV (zq k li rr p1 p2 p3 vv ws) x
structure zWf(m:zD):Prop where
 qO:(∀x∈m.kT,WkV m x)->zcp m
 bad:∀w e,m.kT=[w]->R L Cs zfh [.a (zf m),.a (zaL w)] []=some (.w (W e),[])->R L Cs zeE [.a (zf m)] []=some (.w (W e),[])
def zky{lim:Int}(h:lim∈Cz):1<=lim/\lim<=2000:=by grind [Cz]
theorem zTr(k:Nat)(hk:k<7){lim r o1 o2 o3 v:Int}{ws:List zCP}(h:NumsO k lim r o1 o2 o3 v ws)(hz:R L Cs zR [.a (zf (zq k lim r o1 o2 o3 v ws))] []=some (.w (W 0),[])/\∀z∈(zq k lim r o1 o2 o3 v ws).qR,R L Cs zJ [.a (zf (zq k lim r o1 o2 o3 v ws)),.a z] []=some (.w (W 0),[]))(hs:R L Cs zao [.a (zf (zq k lim r o1 o2 o3 v ws))] []=some (.w (W 0),[]))(hrs:∀s∈(zq k lim r o1 o2 o3 v ws).signals,R L Cs zV [.a (zf (zq k lim r o1 o2 o3 v ws)),.a s] []=some (.w (W 0),[]))(hsp:∀s∈(zq k lim r o1 o2 o3 v ws).signals,∃o ps,s=[I o,.jb ps]):zWf (zq k lim r o1 o2 o3 v ws):=by
 have hlim:=zky h.lim;have hv:=h.v;have hsz:zon (zq k lim r o1 o2 o3 v ws):={
  v1:=hv.1
  v2:=by show v<=_;omega
  l1:=by match k,hk with |0,_ |1,_ |2,_ |3,_ |4,_ |5,_ |6,_=>simp[zq,zy]
  l2:=by match k,hk with |0,_ |1,_ |2,_ |3,_ |4,_ |5,_ |6,_=>simp[zq,zy]
  z:=by match k,hk with |0,_ |1,_ |2,_ |3,_ |4,_ |5,_ |6,_=>simp[zq,zO]
  s:=by match k,hk with |0,_ |1,_ |2,_ |3,_ |4,_ |5,_ |6,_=>(simp only[zq,zt];first |(split<;>simp) |simp)
  w:=by have:=h.wl;show ws.length<=8;omega }
 have hlen:∀l∈(zq k lim r o1 o2 o3 v ws).jd,R L Cs zaw [.a [zeT l]] []=some (.w (W l.len),[]):=fun l hl=>by
  have:=jw.1 (kcP k hk lim) l hl;rw[jk]at this
  grind [zaq]
 have hrlen:∀l∈(zq k lim r o1 o2 o3 v ws).jd,R L Cs zN [.a [zeT l]] []=some (.w (W l.len),[]):=fun l hl=>by
  have:=jw.1 (kcP k hk lim) l hl;rw[jk]at this
  grind [zaq]
 have hkd:∀l∈(zq k lim r o1 o2 o3 v ws).jd,l.kind=1\/l.kind=2\/l.kind=3:=by match k,hk with |0,_ |1,_ |2,_ |3,_ |4,_ |5,_ |6,_=>simp[zq,zy,zQ]
 have h0:0<(zq k lim r o1 o2 o3 v ws).jd.length:=hsz.l1;have hzp:∀s∈(zq k lim r o1 o2 o3 v ws).qR,∃ps o,s=[.jb ps,I o]:=by
  match k,hk with
  |0,_ |1,_ |2,_ |3,_ |4,_ |5,_ |6,_ =>
   intro s hs;simp[zq,zO]at hs
   try(first |(rcases hs with hs |hs<;>(subst hs;exact⟨_,_,rfl⟩)) |(subst hs;exact⟨_,_,rfl⟩))
 have hR:=fun e=>zd1 hsz (fun i hi=>zaq (jw.1 (jw.1 (rlP k hk v (zO k r) (zt k r o1 o2 o3) ((ws).map zaL)) lim h.lim) i (uF.2 hi))) (zaq (rjP k hk v lim (zO k r) (zt k r o1 o2 o3) ((ws).map zaL))) hsp hzp hrs hz.2 e
 refine⟨fun hwv=>{
  small:=⟨by match k,hk with |0,_ |1,_ |2,_ |3,_ |4,_ |5,_ |6,_=>simp[zq,zy],by match k,hk with |0,_ |1,_ |2,_ |3,_ |4,_ |5,_ |6,_=>simp[zq,zy,zQ],by match k,hk with |0,_ |1,_ |2,_ |3,_ |4,_ |5,_ |6,_=>simp[zq,zy,zQ]⟩
  chk:=zgb (zhb hsz) (zaq (jw.1 (klP k hk v (zO k r) (zt k r o1 o2 o3) ((ws).map zaL)) lim h.lim)) (zaq (kjP k hk v lim (zO k r) (zt k r o1 o2 o3) ((ws).map zaL))) hs hz.1
   (zkY hlen hkd hsz.w hwv)
  rchk:=hR 0 (.inl ⟨fun x hx=>zga hrlen hkd (hwv x hx),rfl⟩)
  len:=hlen
  rlen:=hrlen
  Cf:=by match k,hk with |0,_ |1,_ |2,_ |3,_ |4,_ |5,_ |6,_=>simp[zq,zy,zQ]
  kind:=hkd
  vY:=by match k,hk with |0,_ |1,_ |2,_ |3,_ |4,_ |5,_ |6,_=>(simp[zq,zy,zQ];try omega) },fun w e e1 e2=>hR e (.inr ⟨w,e1,e2⟩)⟩
def zTo(k:Nat)(hk:k<7){lim r o1 o2 o3 v:Int}{ws:List zCP}(h:NumsO k lim r o1 o2 o3 v ws)(hn:zt k r o1 o2 o3=[])(kz:∀Wk:List (List Cl),((List.range 2).all fun r=>okI (zaH L Cs 400 zR [zdD v k lim (zO k r) [] Wk] []) 0&&(zO k r).all fun z=>okI (zaH L Cs 400 zJ [zdD v k lim (zO k r) [] Wk,.a z] []) 0)=true):zWf (zq k lim r o1 o2 o3 v ws):=by
 have e:(zq k lim r o1 o2 o3 v ws).signals=[]:=hn;refine zTr k hk h ?_ (zha (by grind) (fun s hs=>by grind)) (fun s hs=>by grind) (fun s hs=>by grind);have em:zf (zq k lim r o1 o2 o3 v ws)=[I v,.jb ((zy k lim).map zo),.jb (zO k r),.jb [],.jb ((ws).map zaL)]:=by rw[<-hn];rfl
 rw[em];have q0:=jw.1 (kz ((ws).map zaL));rcases h.r with hr|hr
 ·subst hr;have q:=q0 0 wD;rw[jk]at q;exact⟨zaq q.1,fun z hz=>zaq (jw.1 q.2 z hz)⟩
 ·subst hr;have q:=q0 1 wD;rw[jk]at q;exact⟨zaq q.1,fun z hz=>zaq (jw.1 q.2 z hz)⟩
def good2{lim r o1 o2 o3 v:Int}{ws:List zCP}(h:NumsO 2 lim r o1 o2 o3 v ws):zWf (zq 2 lim r o1 o2 o3 v ws):=by
 have hz:R L Cs zR [.a (zf (zq 2 lim r o1 o2 o3 v ws))] []=some (.w (W 0),[])/\∀z∈(zq 2 lim r o1 o2 o3 v ws).qR,R L Cs zJ [.a (zf (zq 2 lim r o1 o2 o3 v ws)),.a z] []=some (.w (W 0),[]):=by
  have q0:=jw.1 (kz2 v lim (zaY o1 0 1) ((ws).map zaL));rcases h.r with hr|hr
  ·subst hr;have q:=q0 0 wD;rw[jk]at q;exact⟨zaq q.1,fun z hz=>zaq (jw.1 q.2 z hz)⟩
  ·subst hr;have q:=q0 1 wD;rw[jk]at q;exact⟨zaq q.1,fun z hz=>zaq (jw.1 q.2 z hz)⟩
 have hs:R L Cs zao [.a (zf (zq 2 lim r o1 o2 o3 v ws))] []=some (.w (W 0),[]):=zha (by simp[zq,zt]) (fun s hs=>by
  simp[zq,zt]at hs;subst hs;exact⟨o1,0,1,rfl,h.o1.1,by have:=h.o1.2;omega,zah.2 ⟨400,cf1.1⟩,zah.2 ⟨400,cf2a v lim _ _ _⟩⟩)
 have hrs:∀s∈(zq 2 lim r o1 o2 o3 v ws).signals,R L Cs zV [.a (zf (zq 2 lim r o1 o2 o3 v ws)),.a s] []=some (.w (W 0),[]):=fun s hs=>by
  simp[zq,zt]at hs;subst hs;obtain⟨n,hn⟩:=jA h.o1.1;subst hn;exact zaq (jw.1 (rs2 v lim _ _ _) n (uF.2 (by have:=h.o1.2;omega)))
 have hsp:∀s∈(zq 2 lim r o1 o2 o3 v ws).signals,∃o ps,s=[I o,.jb ps]:=fun s hs=>by
  simp[zq,zt]at hs;subst hs;exact⟨_,_,rfl⟩
 grind [zTr]
def good6{lim r o1 o2 o3 v:Int}{ws:List zCP}(h:NumsO 6 lim r o1 o2 o3 v ws):zWf (zq 6 lim r o1 o2 o3 v ws):=by
 have hv:=h.v;have hsz:zon (zq 6 lim r o1 o2 o3 v ws):={
  v1:=hv.1
  v2:=by show v<=_;omega
  l1:=by simp[zq,zy]
  l2:=by simp[zq,zy]
  z:=by simp[zq,zO]
  s:=by grind [zq,zt]
  w:=by have:=h.wl;show ws.length<=8;omega }
 have hz:R L Cs zR [.a (zf (zq 6 lim r o1 o2 o3 v ws))] []=some (.w (W 0),[])/\∀z∈(zq 6 lim r o1 o2 o3 v ws).qR,R L Cs zJ [.a (zf (zq 6 lim r o1 o2 o3 v ws)),.a z] []=some (.w (W 0),[]):=by
  rcases h.r with hr|hr
  ·subst hr;have q:=kz6 v lim ((ws).map zaL);rw[jk]at q;exact⟨zaq q.1,fun z hz=>zaq (jw.1 q.2 z hz)⟩
  ·subst hr;have q:=kz6b v lim (zaY o2 1 3) (zaY o3 2 3) ((ws).map zaL);rw[jk]at q;exact⟨zaq q.1,fun z hz=>zaq (jw.1 q.2 z hz)⟩
 have hs:R L Cs zao [.a (zf (zq 6 lim r o1 o2 o3 v ws))] []=some (.w (W 0),[]):=zha (by have:=hsz.s;omega) (fun s hs=>by
  rcases h.r with hr|hr
  ·grind [zq,zt]
  ·subst hr;simp[zq,zt]at hs;rcases hs with hs|hs
   ·subst hs;exact⟨o2,1,3,rfl,h.o2.1,by have:=h.o2.2;omega,zah.2 ⟨400,cf1.2.1⟩,zah.2 ⟨400,cf2b v lim _ _ _⟩⟩
   ·subst hs;exact⟨o3,2,3,rfl,h.o3.1,by have:=h.o3.2;omega,zah.2 ⟨400,cf1.2.2⟩,zah.2 ⟨400,cf2c v lim _ _ _⟩⟩)
 have hrs:∀s∈(zq 6 lim r o1 o2 o3 v ws).signals,R L Cs zV [.a (zf (zq 6 lim r o1 o2 o3 v ws)),.a s] []=some (.w (W 0),[]):=fun s hs=>by
  rcases h.r with hr|hr
  ·grind [zq,zt]
  ·subst hr;simp[zq,zt]at hs;rcases hs with hs|hs
   ·subst hs;obtain⟨n,hn⟩:=jA h.o2.1;subst hn;have q:=jw.1 (rs6 v lim (zO 6 1) (zt 6 1 o1 n o3) ((ws).map zaL)) n (uF.2 (by have:=h.o2.2;omega));rw[jk]at q;exact zaq q.1
   ·subst hs;obtain⟨n,hn⟩:=jA h.o3.1;subst hn;have q:=jw.1 (rs6 v lim (zO 6 1) (zt 6 1 o1 o2 n) ((ws).map zaL)) n (uF.2 (by have:=h.o3.2;omega));rw[jk]at q;exact zaq q.2
 have hsp:∀s∈(zq 6 lim r o1 o2 o3 v ws).signals,∃o ps,s=[I o,.jb ps]:=fun s hs=>by
  rcases h.r with hr|hr
  ·grind [zq,zt]
  ·subst hr;simp[zq,zt]at hs;rcases hs with hs|hs
   ·subst hs;exact⟨_,_,rfl⟩
   ·subst hs;exact⟨_,_,rfl⟩
 grind [zTr]
def zV9(k:Nat)(hk:k<7){lim r o1 o2 o3 v:Int}{ws:List zCP}(h:NumsO k lim r o1 o2 o3 v ws):zWf (zq k lim r o1 o2 o3 v ws):=match k,hk with
 |0,_=>zTo 0 wD h rfl (kzP 0 wD wD v lim)
 |1,_=>zTo 1 wD h rfl (kzP 1 wD wD v lim)
 |2,_=>good2 h
 |3,_=>zTo 3 wD h rfl (kzP 3 wD wD v lim)
 |4,_=>zTo 4 wD h rfl (kzP 4 wD wD v lim)
 |5,_=>zTo 5 wD h rfl (kzP 5 wD wD v lim)
 |6,_=>good6 h
theorem zTy(k:Nat)(hk:k<7){lim r o1 o2 o3 v:Int}{ws:List zCP}(h:zp2 k lim r o1 o2 o3 v ws):zcp (zq k lim r o1 o2 o3 v ws):=(zV9 k hk h.toNumsO).qO h.wv
def zz4(j:Nat):zeC j∈Cz:=by
 unfold zeC Cz;split<;>simp
def zV6(k:Nat)(hk:k<7)(lim r o1 o2 o3 v w b t:Int)(hb:0<=b/\b<40)(ht:0<=t/\t<3):∀x∈zak w b t,WkV (zq k lim r o1 o2 o3 v (zak w b t)) x:=by
 intro x hx;unfold zak at hx;split at hx
 ·obtain rfl:=jB.1 hx;have hL:∃h0:0<(zq k lim r o1 o2 o3 v (zak w b t)).jd.length,(zq k lim r o1 o2 o3 v (zak w b t)).jd[0].kind=1/\15000<=(zq k lim r o1 o2 o3 v (zak w b t)).jd[0].len:=by match k,hk with |0,_ |1,_ |2,_ |3,_ |4,_ |5,_ |6,_=>simp[zq,zy,zQ]
  obtain⟨h0,h1,h2⟩:=hL;refine⟨0,h0,rfl,(by show(0:Int)<=10000;decide),(by show(10000:Int)<=15000;decide),h2,hb.1,by simp only;omega,by simp only;omega,by simp only;omega,?_⟩;rw[h1];show t*200<=2000;omega
 ·cases hx
def zWg(w b t:Int):(zak w b t).length<=1:=by unfold zak;split<;>simp
def zBA(n:Int)(k:Nat)(hk:k<7):zp2 k (zeC (((n % 16777216).tdiv 7).tmod 4).toNat) (((n % 16777216).tdiv 28).tmod 2) (((n % 16777216).tdiv 28).tmod 31) (((n % 16777216).tdiv 56).tmod 31) (((n % 16777216).tdiv 56).tmod 17) (((n % 16777216).tdiv 28).tmod 5) (zak (((n % 16777216).tdiv 1736).tmod 3) (((n % 16777216).tdiv 5208).tmod 40) (((n % 16777216).tdiv 208320).tmod 3)):=by
 have hN:0<=n % 16777216/\n % 16777216<16777216:=wA
 have hr:=zE _ 28 2 hN wC wC;exact⟨⟨zz4 _,wA,zE _ 28 31 hN wC wC,zE _ 56 31 hN wC wC,zE _ 56 17 hN wC wC,zE _ 28 5 hN wC wC,zWg _ _ _⟩,zV6 k hk _ _ _ _ _ _ _ _ _ (zE _ 5208 40 hN wC wC) (zE _ 208320 3 hN wC wC)⟩
structure Prt where
 lane:Int
 lo:Int
 hi:Int
 BE:Int
structure Zon where
 parts:List Prt
 um:Int
structure Phs where
 vj:Int
 green:List Int
structure Sgn where
 offset:Int
 j9:List Phs
def zeB(p:Prt):List Cl:=[I p.lane,I p.lo,I p.hi,I p.BE]
def zkl(l:List Prt):List (List Cl):=l.map zeB
def zdP(z:Zon):List Cl:=[.jb (zkl z.parts),I z.um]
def zk8(l:List Zon):List (List Cl):=l.map zdP
def zr6(p:Phs):List Cl:=[I p.vj,.jb (zu p.green)]
def zje(l:List Phs):List (List Cl):=l.map zr6
def zeq(s:Sgn):List Cl:=[I s.offset,.jb (zje s.j9)]
def zjd(l:List Sgn):List (List Cl):=l.map zeq
@[simp] def zCq(l:List Prt):(zkl l).length=l.length:=by simp[zkl]
@[simp] def zzy{l:List Prt}{i:Nat}(h:i<(zkl l).length):(zkl l)[i]=zeB (l[i]'(by simpa using h)):=by simp[zkl]
@[simp] def zC7(l:List Zon):(zk8 l).length=l.length:=by simp[zk8]
@[simp] def zA9{l:List Zon}{i:Nat}(h:i<(zk8 l).length):(zk8 l)[i]=zdP (l[i]'(by simpa using h)):=by simp[zk8]
@[simp] def zCr(l:List Phs):(zje l).length=l.length:=by simp[zje]
@[simp] def zzz{l:List Phs}{i:Nat}(h:i<(zje l).length):(zje l)[i]=zr6 (l[i]'(by simpa using h)):=by simp[zje]
@[simp] def zCp(l:List Sgn):(zjd l).length=l.length:=by simp[zjd]
@[simp] def zzx{l:List Sgn}{i:Nat}(h:i<(zjd l).length):(zjd l)[i]=zeq (l[i]'(by simpa using h)):=by simp[zjd]
structure zvY(l:List Phs):Prop where
 ne:0<l.length
 few:l.length<=6
 vj:∀p∈l,1<=p.vj/\p.vj<=10000
 green:∀p∈l,p.green.length<=100
def zdg(l:List Phs):Int:=(l.map Phs.vj).foldl (· + ·) 0
def zpQ(lane:Int):Int->List Phs->Bool
 |_,[]=>false
 |at',p::r=>if p.vj<=at' then zpQ lane (at'-p.vj) r else decide (lane∈p.green)
def zfA(s:Sgn)(lane tick:Int):Bool:=zpQ lane ((s.offset.tmod (zdg s.j9)+tick.tmod (zdg s.j9)).tmod (zdg s.j9)) s.j9
theorem zyV(l:List Int)(a:Int):l.foldl (· + ·) a=a+l.foldl (· + ·) 0:=by
 induction l generalizing a with
 |nil=>simp
 |cons x l ih=>grind
theorem zoy(p:Phs)(l:List Phs):zdg (p::l)=p.vj+zdg l:=by
 grind [zdg,zyV]
def ztt:∀(l:List Phs),(∀p∈l,1<=p.vj/\p.vj<=10000)->(l.length:Int)<=zdg l/\zdg l<=10000*l.length
 |[],_=>by simp[zdg]
 |p::l,h=>by
  have:=ztt l fun q hq=>h q (jE _ hq)
  grind [List.mem_cons_self,zoy,List.length_cons]
def zmy(a b:Int)(h:0<b):-b<a.tmod b/\a.tmod b<b:=by
 simp_all [Int.tmod_lt_of_pos,Int.lt_tmod_of_pos]
def zvg(s:Sgn)(lane tick:Int)(hl:zvY s.j9):∀(r:List Phs) (i:Nat) (a:Int),s.j9.drop i=r->i<=s.j9.length->0<=a/\a<=10000*i ->
  Y L Cs zfu (some [7,16,15,1,3,2,14]) 1 [(7,.w (W a)),(16,.w (W i)),(15,.w (W s.j9.length)),(1,.w (W lane)),(3,.w (Pt 0)),(2,.w (W tick)),(14,.w (.c (.jb (zje s.j9))))] [bx 2 (zeq s)] =
    some (.exit 0,[(17,.w (Bo false)),(7,.w (W (a+zdg r))),(16,.w (W s.j9.length)),(15,.w (W s.j9.length)),(1,.w (W lane)),(3,.w (Pt 0)),(2,.w (W tick)),(14,.w (.c (.jb (zje s.j9))))],[bx 2 (zeq s)]):=by
 have hf:=hl.few;intro r;induction r with
 |nil =>
  intro i a hd hi ha;obtain rfl:=zUb hd hi;rw[ZfM zfu.eq_1];simp[zdg]
 |cons p r ih =>
  intro i a hd hi ha;obtain⟨hil,hp,hd'⟩:=zL hd;have ht:=hl.vj p (hp ▸ jf hil);have hw:=zB (i:=i) wA;have hwa:=qB (a+p.vj);rw[zoy,show a+(p.vj+zdg r)=(a+p.vj)+zdg r by omega,<-ih (i+1) (a+p.vj) hd' hil wA,ZfM zfu.eq_1];simp[hil,hp,hw,hwa,zr6,zeq,zg,zH]
def zvf(s:Sgn)(lane:Int)(hl:zvY s.j9):∀(r:List Phs) (i:Nat) (a:Int),s.j9.drop i=r->i<=s.j9.length->-1000000<=a/\a<=100000->∃ex E M,
  Y L Cs zek (some [10,38,37,36,1]) 1 [(10,.w (W a)),(38,.w (W i)),(37,.w (W s.j9.length)),(36,.w (.c (.jb (zje s.j9)))),(1,.w (W lane))] [bx 2 (zeq s)]=some (ex,E,M) /\
    ((ex=.ret/\E=[(6,.w (Bo (zpQ lane a r)))])\/(ex=.exit 2/\zpQ lane a r=false)):=by
 have hf:=hl.few;intro r;induction r with
 |nil =>
  intro i a hd hi ha;obtain rfl:=zUb hd hi;rw[ZfM zek.eq_1];simp[zpQ];exact⟨_,_,⟨rfl,rfl⟩,.inr rfl⟩
 |cons p r ih =>
  intro i a hd hi ha;obtain⟨hil,hp,hd'⟩:=zL hd;have ht:=hl.vj p (hp ▸ jf hil);have hg:=hl.green p (hp ▸ jf hil);have hw:=zB (i:=i) wA;have hC:=znC p.green lane wA;rw[zpQ];by_cases c:p.vj<=a
  ·have hwa:=qB (a-p.vj);obtain⟨ex,E,M,h1,h2⟩:=ih (i+1) (a-p.vj) hd' hil wA;refine⟨ex,E,M,?_,by rw[if_pos c];exact h2⟩;rw[<-h1,ZfM zek.eq_1];simp[hil,hp,hw,hwa,c,zr6,zeq,zg,zH]
  ·rw[if_neg c];refine⟨.ret,[(6,.w (Bo (decide (lane∈p.green))))],[bx 2 (zeq s),bxv 1 2 (zr6 p)],?_,.inl ⟨rfl,rfl⟩⟩;rw[ZfM zek.eq_1];simp[hil,hp,hw,c,hC,zr6,zeq,zg,zH]
def zAP(s:Sgn)(lane tick:Int)(hl:zvY s.j9):R L Cs zsh [.a (zeq s),W lane,W tick] []=some (.w (Bo (zfA s lane tick)),[]):=by
 have hb:=ztt s.j9 hl.vj;have hne:=hl.ne;have hf:=hl.few;have h1:=zvg s lane tick hl s.j9 0 0 rfl (jr _) wA;have m1:=zmy s.offset (zdg s.j9) wA;have m2:=zmy tick (zdg s.j9) wA;have m3:=zmy (s.offset.tmod (zdg s.j9)+tick.tmod (zdg s.j9)) (zdg s.j9) wA;obtain⟨ex,E,M,h2,h3⟩:=zvf s lane hl s.j9 0 ((s.offset.tmod (zdg s.j9)+tick.tmod (zdg s.j9)).tmod (zdg s.j9)) rfl (jr _) wA;have hw:=qB (s.offset.tmod (zdg s.j9)+tick.tmod (zdg s.j9));have hz:zdg s.j9≠0:=wA
 unfold zfA;generalize zpQ lane ((s.offset.tmod (zdg s.j9)+tick.tmod (zdg s.j9)).tmod (zdg s.j9)) s.j9=q at *;rw[zUa zst rfl];simp only[jg,zeq]at h1 h2;rcases h3 with⟨rfl,rfl⟩ |⟨rfl,rfl⟩
 ·simp[zhf,h1,h2,hw,hz,zeq]
 ·simp[zhf,h1,h2,hw,hz,zeq]
structure Zd(m:zD)(zs:List Zon)(ss:List Sgn):Prop where
 z:m.qR=zk8 zs
 s:m.signals=zjd ss
 few:zs.length<=12
 sfew:ss.length<=4
 sig:∀z∈zs,0<=z.um/\z.um<=ss.length
 pfew:∀z∈zs,z.parts.length<=6
 ph:∀s∈ss,zvY s.j9
abbrev ztn:Sgn:=⟨0,[]⟩
def zcK(ss:List Sgn)(lane tick:Int)(z:Zon)(p:Prt):Bool:=decide (p.lane=lane) && !zfA (ss.getD (z.um-1).toNat ztn) lane tick
def zqJ(ss:List Sgn)(lane tick:Int)(z:Zon):List Int:=if z.um=0 then [] else(z.parts.filter (zcK ss lane tick z)).map Prt.lo
def zpN(zs:List Zon)(ss:List Sgn)(lane tick:Int):List Int:=zs.flatMap (zqJ ss lane tick)
def zzH(ss:List Sgn)(lane tick:Int)(z:Zon):(zqJ ss lane tick z).length<=z.parts.length:=by
 grind [zqJ,List.length_map,List.length_filter_le]
def zym(ss:List Sgn)(lane tick:Int)(ps:List Prt){q:Nat}(hq:q<ss.length)(p:Prt):zcK ss lane tick ⟨ps,(q:Int)+1⟩ p=(decide (p.lane=lane) && !zfA ss[q] lane tick):=by
 grind [zcK]
def zye{m:zD}{zs:List Zon}{ss:List Sgn}(hz:Zd m zs ss)(lane tick:Int)(ps:List Prt)(q:Nat)(hq:q<ss.length)(hpf:ps.length<=6)(k:Nat):∀(r:List Prt) (i:Nat) (out:List Int),ps.drop i=r->i<=ps.length->out.length+r.length<=1000 ->
  Y L Cs zej (some [7,25,24,13,14,15,23,3,9,1,2]) 4 [(7,.w (.c (sl 2 1 (zu out)))),(25,.w (W i)),(24,.w (W ps.length)),(13,.w (.c (.jb (zk8 zs)))),(14,.w (W zs.length)),(15,.w (W k)),(23,.w (.c (.jb (zkl ps)))),(3,.w (Pt 0)),(9,.w (Pt 3)),(1,.w (W lane)),(2,.w (W tick))] [bx 5 (zf m),gb 1,some (own 1 (zu out)),bxv 1 2 (zdP ⟨ps,(q:Int)+1⟩)] =
    some (.exit 2,[(26,.w (Bo false)),(7,.w (.c (sl 2 1 (zu (out++(r.filter (zcK ss lane tick ⟨ps,(q:Int)+1⟩)).map Prt.lo))))),(25,.w (W ps.length)),(24,.w (W ps.length)),(13,.w (.c (.jb (zk8 zs)))),(14,.w (W zs.length)),(15,.w (W k)),(23,.w (.c (.jb (zkl ps)))),(3,.w (Pt 0)),(9,.w (Pt 3)),(1,.w (W lane)),(2,.w (W tick))],[bx 5 (zf m),gb 1,some (own 1 (zu (out++(r.filter (zcK ss lane tick ⟨ps,(q:Int)+1⟩)).map Prt.lo))),bxv 1 2 (zdP ⟨ps,(q:Int)+1⟩)]):=by
 have hgr:=zAP ss[q] lane tick (hz.ph _ (jf hq));have hwS:IntKind.i64.wrap (q:Int)=(q:Int):=zTd _ wA (by have:=hz.sfew;omega);have hpr:=zym ss lane tick ps hq;intro r;induction r with
 |nil =>
  intro i out hd hi ho;obtain rfl:=zUb hd hi;rw[ZfM zej.eq_1];simp
 |cons p r ih =>
  intro i out hd hi ho;obtain⟨hil,hp,hd'⟩:=zL hd;have hw:=zB (i:=i) wA;simp only[jl]at ho;by_cases c:p.lane=lane
  ·by_cases g:zfA ss[q] lane tick=true
   ·have hn:zcK ss lane tick ⟨ps,(q:Int)+1⟩ p=false:=by rw[hpr,g];simp
    rw[qW (by simp[hn]),<-ih (i+1) out hd' hil wA,ZfM zej.eq_1];clear ih;rw[g]at hgr;simp only[zeq]at hgr;simp[hil,hp,hw,c,hgr,hwS,hq,zeB,zdP,zeq,zf,hz.s,zg,zH]
   ·have g:zfA ss[q] lane tick=false:=by simpa using g
    have hn:zcK ss lane tick ⟨ps,(q:Int)+1⟩ p=true:=by rw[hpr,g];simp[c]
    have kA:(out.length+1)*8<=140737488355328:=wA
    rw[vW hn,kR,show out++p.lo::(r.filter (zcK ss lane tick ⟨ps,(q:Int)+1⟩)).map Prt.lo=(out++[p.lo])++(r.filter (zcK ss lane tick ⟨ps,(q:Int)+1⟩)).map Prt.lo by simp,<-ih (i+1) (out++[p.lo]) hd' hil (by simp;omega),ZfM zej.eq_1];clear ih;rw[g]at hgr;simp only[zeq]at hgr;simp[hil,hp,hw,c,hgr,hwS,hq,kA,zeB,zdP,zeq,zf,hz.s,zg,zH]
  ·have hn:zcK ss lane tick ⟨ps,(q:Int)+1⟩ p=false:=by rw[hpr];simp[c]
   have c':(p.lane==lane)=false:=by simp[c]
   rw[qW (by simp[hn]),<-ih (i+1) out hd' hil wA,ZfM zej.eq_1];clear ih;simp[hil,hp,hw,c,c',zeB,zdP,zf,zg,zH]
def zyd{m:zD}{zs:List Zon}{ss:List Sgn}(hz:Zd m zs ss)(lane tick:Int):∀(r:List Zon) (i:Nat) (out:List Int),zs.drop i=r->i<=zs.length->out.length<=6*i ->
  Y L Cs zgK (some [15,14,13,2,1,3,7]) 3 [(15,.w (W i)),(14,.w (W zs.length)),(13,.w (.c (.jb (zk8 zs)))),(2,.w (W tick)),(1,.w (W lane)),(3,.w (Pt 0)),(7,.w (.c (sl 2 1 (zu out))))] [bx 5 (zf m),gb 1,some (own 1 (zu out))] =
    some (.exit 0,[(16,.w (Bo false)),(15,.w (W zs.length)),(14,.w (W zs.length)),(13,.w (.c (.jb (zk8 zs)))),(2,.w (W tick)),(1,.w (W lane)),(3,.w (Pt 0)),(7,.w (.c (sl 2 1 (zu (out++zpN r ss lane tick)))))],[bx 5 (zf m),gb 1,some (own 1 (zu (out++zpN r ss lane tick)))]):=by
 have hf:=hz.few;intro r;induction r with
 |nil =>
  intro i out hd hi ho;obtain rfl:=zUb hd hi;rw[ZfM zgK.eq_1];simp[zpN]
 |cons z r ih =>
  intro i out hd hi ho;obtain⟨hil,hz',hd'⟩:=zL hd;have hw:=zB (i:=i) wA;have hzm:z∈zs:=hz' ▸ jf hil;have hpf:=hz.pfew z hzm;have hsg:=hz.sig z hzm;have hrl:=zzH ss lane tick z;have e:zpN (z::r) ss lane tick=zqJ ss lane tick z++zpN r ss lane tick:=by simp[zpN]
  rw[e,<-jM,<-ih (i+1) (out++zqJ ss lane tick z) hd' hil (by simp;omega),ZfM zgK.eq_1];clear ih;obtain⟨ps,sg⟩:=z;by_cases c:sg=0
  ·subst c;simp[hil,hz',hw,zdP,zqJ,zf,zg,zH]
  ·obtain⟨q,rfl⟩:∃q:Nat,sg=(q:Int)+1:=⟨(sg-1).toNat,by dsimp at hsg;omega⟩;have hq:q<ss.length:=by dsimp at hsg;omega
   have h1:=zye hz lane tick ps q hq hpf i ps 0 out rfl (jr _) (by dsimp at hpf;omega);have c':(((q:Int)+1)==0)=false:=by simp;omega
   have er:zqJ ss lane tick ⟨ps,(q:Int)+1⟩=(ps.filter (zcK ss lane tick ⟨ps,(q:Int)+1⟩)).map Prt.lo:=by
    unfold zqJ;rw[if_neg c]
   rw[er];simp only[zdP,zf,jg,sl,own,zfq]at h1;simp[hil,hz',hw,c',h1,zdP,zf,zg,zH]
def zza(n:Nat)(h:n<=12):∃b,R L Cs zpS [.c (.int .u64 n)] []=some (.w (W b),[]):=by
 match n,h with
 |0,_=>exact⟨0,zah.2 ⟨400,by kernel_rfl⟩⟩
 |1,_=>exact⟨1,zah.2 ⟨400,by kernel_rfl⟩⟩
 |2,_=>exact⟨2,zah.2 ⟨400,by kernel_rfl⟩⟩
 |3,_=>exact⟨2,zah.2 ⟨400,by kernel_rfl⟩⟩
 |4,_=>exact⟨3,zah.2 ⟨400,by kernel_rfl⟩⟩
 |5,_=>exact⟨3,zah.2 ⟨400,by kernel_rfl⟩⟩
 |6,_=>exact⟨3,zah.2 ⟨400,by kernel_rfl⟩⟩
 |7,_=>exact⟨3,zah.2 ⟨400,by kernel_rfl⟩⟩
 |8,_=>exact⟨4,zah.2 ⟨400,by kernel_rfl⟩⟩
 |9,_=>exact⟨4,zah.2 ⟨400,by kernel_rfl⟩⟩
 |10,_=>exact⟨4,zah.2 ⟨400,by kernel_rfl⟩⟩
 |11,_=>exact⟨4,zah.2 ⟨400,by kernel_rfl⟩⟩
 |12,_=>exact⟨4,zah.2 ⟨400,by kernel_rfl⟩⟩
def zA4(a b:Int):R L Cs zoW [W a,W b] []=some (.w (Bo (decide (a<b))),[]):=by
 have h1:=zjw a;rw[zUa zo8 rfl];simp[zg8,h1]
abbrev Asc(l:List Int):Prop:=l.Pairwise (· < ·)
def zxK{l:List Int}(h:Asc l){i:Nat}(hi:i+1<l.length):l[i]<l[i+1]:=vn.1 h i (i+1) wA hi wA
abbrev ob(l:List Int):Option Blk:=some { box:=false,esz:=1,rows:=zu l,gen:=l.length,fz:=false,ver:=l.length }
abbrev os1(l:List Int):WV:=.c (.slice 0 l.length 1 0 l.length none)
def zwS(l:List Int)(h:Asc l)(hl:l.length<=1000):∀(m i:Nat),i+m=l.length->1<=i ->
  Y L Cs zaf (some [2,1,6,0]) 1 [(2,.w (W l.length)),(1,.w (W 0)),(6,.w (W i)),(0,.w (os1 l))] [ob l] =
    some (.exit 0,[(12,.w (Bo false)),(1,.w (W 0)),(2,.w (W l.length)),(6,.w (W l.length)),(0,.w (os1 l))],[ob l]):=by
 intro m;induction m with
 |zero =>
  intro i hi h1;have:i=l.length:=wA
  subst this;rw[ZfM zaf.eq_1];simp
 |succ m ih =>
  intro i hi h1;obtain⟨j,rfl⟩:∃j,i=j+1:=⟨i-1,wA⟩;have hg:=zxK h (i:=j) wA;have h2:j+1<l.length:=wA
  have h3:j<l.length:=wA
  have hw:=zB (i:=j+1) wA;have hc:=zA4 l[j+1] l[j];have hd:decide (l[j+1]<l[j])=false:=by simp;omega
  rw[hd]at hc;have hw1:IntKind.i64.wrap (((j+1:Nat):Int)-1)=(j:Int):=by rw[zTd _ wA wA];omega
  have hin:Y L Cs zbE (some [7,1,2,6,0]) 1 [(7,.w (W ((j+1:Nat):Int))),(1,.w (W 0)),(2,.w (W l.length)),(6,.w (W ((j+1:Nat):Int))),(0,.w (os1 l))] [ob l] =
   some (.exit 2,[(30,.w (Bo false)),(7,.w (W ((j+1:Nat):Int))),(1,.w (W 0)),(2,.w (W l.length)),(6,.w (W ((j+1:Nat):Int))),(0,.w (os1 l))],[ob l]):=by
   rw[ZfM zbE.eq_1];have e1:((j+1:Nat):Int).toNat=j+1:=wA
   have e2:(0:Int)<((j+1:Nat):Int):=wA
   simp[h2,h3,hw1,hc,e1,e2,-Int.natCast_add]
  rw[<-ih (j+1+1) wA wA,ZfM zaf.eq_1];clear ih;simp[h2,hin,hw,-Int.natCast_add]
def zAZ(l:List Int)(h:Asc l)(hl:l.length<=12):R L Cs zmO [os1 l] [ob l]=some (.t [],[ob l]):=by
 have hI:R L Cs zfL [os1 l,W 0,W l.length] [ob l]=some (.t [],[ob l]):=by
  rw[zUa zfR rfl];by_cases c:l.length=0
  ·have hY:Y L Cs zaf (some [2,1,6,0]) 1 [(2,.w (W l.length)),(1,.w (W 0)),(6,.w (W 1)),(0,.w (os1 l))] [ob l]=some (.exit 0,[(12,.w (Bo false)),(1,.w (W 0)),(2,.w (W l.length)),(6,.w (W 1)),(0,.w (os1 l))],[ob l]):=by
    rw[ZfM zaf.eq_1];simp[c]
   have w1:IntKind.i64.wrap 1=1:=rfl;simp[zbh,hY,w1]
  ·have h1:=zwS l h wA (l.length-1) 1 wA wA;have w1:IntKind.i64.wrap 1=1:=rfl;simp only[kg]at h1;simp[zbh,h1,w1]
 obtain⟨b,hb⟩:=zza l.length hl;have hu:IntKind.u64.wrap (l.length:Int)=(l.length:Int):=by simp[IntKind.wrap,IntKind.signed,IntKind.bits];omega
 have hP:R L Cs zhm [os1 l,W 0,W l.length,W b] [ob l]=some (.t [],[ob l]):=by
  rw[zUa zhw rfl];have hY:Y L Cs zcm (some [3,8,9,0,1,2]) 1 [(3,.w (W b)),(8,.w (Bo true)),(9,.w (Bo true)),(0,.w (os1 l)),(1,.w (W 0)),(2,.w (W l.length))] [ob l]=some (.ret,[],[ob l]):=by
   rw[ZfM zcm.eq_1];have w0:IntKind.i64.wrap (l.length:Int)=(l.length:Int):=zTd _ wA wA;have c1:(l.length:Int)<=12:=wA
   simp[w0,c1,hl,hI]
  simp[z2r,hY]
 rw[zUa zmY rfl];simp[zfD,hu,hb,hP]
def zrq(l:List Int)(h:Asc l)(hl:l.length<=1000):∀(m i:Nat),i+m=l.length->1<=i ->
  Y L Cs zcu (some [3,0]) 2 [(3,.w (W i)),(0,.w (os1 l))] [ob l,gb 1] =
    some (.exit 0,[(13,.w (Bo false)),(3,.w (W l.length)),(0,.w (os1 l))],[ob l,gb 1]):=by
 intro m;induction m with
 |zero =>
  intro i hi h1;have:i=l.length:=wA
  subst this;rw[ZfM zcu.eq_1];simp
 |succ m ih =>
  intro i hi h1;obtain⟨j,rfl⟩:∃j,i=j+1:=⟨i-1,wA⟩;have hg:=zxK h (i:=j) wA;have h2:j+1<l.length:=wA
  have h3:j<l.length:=wA
  have hw:=zB (i:=j+1) wA;have hw1:IntKind.i64.wrap (((j+1:Nat):Int)-1)=(j:Int):=by rw[zTd _ wA wA];omega
  have hd:(l[j+1]==l[j])=false:=by simp;omega
  have e1:((j+1:Nat):Int).toNat=j+1:=wA
  rw[<-ih (j+1+1) wA wA,ZfM zcu.eq_1];clear ih;simp[h2,h3,hw,hw1,hd,e1,-Int.natCast_add]
def zvW(l:List Int)(h:Asc l)(hl:l.length<=12):R L Cs zkD [os1 l] [ob l]=some (.w (os1 l),[ob l]):=by
 rw[zUa zk1 rfl];by_cases c:l.length<2
 ·have c':(l.length:Int)<2:=wA
  simp[zdl,c,c',zg]
 ·have c':¬(l.length:Int)<2:=wA
  have h1:=zrq l h wA (l.length-1) 1 wA wA;simp only[kg]at h1;simp[zdl,c,c',h1,zg]
def zCQ{m:zD}{zs:List Zon}{ss:List Sgn}(hz:Zd m zs ss)(lane tick:Int)(ha:Asc (zpN zs ss lane tick))(hl:(zpN zs ss lane tick).length<=12):R L Cs zpy [.a (zf m),W lane,W tick] []=some (.w (.c (.jb (zu (zpN zs ss lane tick)))),[]):=by
 have h1:=zyd hz lane tick zs 0 [] rfl (jr _) (jr _);have h2:=zAZ _ ha hl;have h3:=zvW _ ha hl;generalize zpN zs ss lane tick=l at *;have hzz:=hz.z;simp only[je,jg,zay,sl,own,jp,zfq,zf]at h1;rw[zUa zv0 rfl];simp only[hzz]at h1;simp[zme,zf,h1,h2,h3,hzz,zg]
def zjF(z:Zon)(lane:Int):Option Prt:=z.parts.find? fun p=>decide (p.lane=lane)
def zff(ss:List Sgn)(lane tick:Int)(z:Zon):List Int:=if z.um=0 then [] else match zjF z lane with
 |none=>[]
 |some p=>if zfA (ss.getD (z.um-1).toNat ztn) lane tick=true then [] else [p.lo]
theorem zyf(ss:List Sgn)(lane tick:Int)(z:Zon)(hn:(z.parts.map Prt.lane).Nodup):zqJ ss lane tick z=zff ss lane tick z:=by
 unfold zqJ zff zjF;split
 ·rfl
 ·have key:∀(l:List Prt),(l.map Prt.lane).Nodup->(l.filter (zcK ss lane tick z)).map Prt.lo=match l.find? (fun p=>decide (p.lane=lane))with
   |none=>[]
   |some p=>if zfA (ss.getD (z.um-1).toNat ztn) lane tick=true then [] else [p.lo]:=by
   intro l;induction l with
   |nil=>intro _;rfl
   |cons p l ih =>
    intro hn;rw[kR,qK]at hn;by_cases c:p.lane=lane
    ·have hno:∀y∈l,zcK ss lane tick z y=false:=by
      intro y hy;have:y.lane≠lane:=fun e=>hn.1 (by rw[c,<-e];exact qI hy)
      simp[zcK,this]
     have hf:l.filter (zcK ss lane tick z)=[]:=List.filter_eq_nil_iff.2 fun y hy=>by simp[hno y hy]
     rw[List.find?_cons_of_pos (by simp[c]),uh,hf];cases hg:zfA (ss.getD (z.um-1).toNat ztn) lane tick with
     |true=>have:zcK ss lane tick z p=false:=by simp only[zcK,hg];simp
            rw[this];simp
     |false=>have:zcK ss lane tick z p=true:=by simp only[zcK,hg];simp[c]
             rw[this];simp
    ·have:zcK ss lane tick z p=false:=by simp[zcK,c]
     rw[List.find?_cons_of_neg (by simp[c]),qW (by simp[this]),ih hn.2]
  exact key z.parts hn
def wr{x:Int}(h1:-9000000000000000000<=x)(h2:x<=9000000000000000000):IntKind.i64.wrap x=x:=zTd _ wA wA
def ztS{a b A B:Int}(h1:-A<=a)(h2:a<=A)(h3:-B<=b)(h4:b<=B):-(A*B)<=a*b/\a*b<=A*B:=by
 have e1:0<=(A-a)*(B+b):=yc wA wA;have e2:0<=(A+a)*(B-b):=yc wA wA;have e3:0<=(A-a)*(B-b):=yc wA wA;have e4:0<=(A+a)*(B+b):=yc wA wA
 grind
structure Vw(vx vy wx wy:Int):Prop where
 a1:-1000000<=vx/\vx<=1000000
 a2:-1000000<=vy/\vy<=1000000
 a3:-20000000<=wx/\wx<=20000000
 a4:-20000000<=wy/\wy<=20000000
def z01(x0 y0 x y:Int)(h:(-16777216<=x0/\x0<=16777216)/\(-16777216<=y0/\y0<=16777216)/\(-16777216<=x/\x<=16777216)/\(-16777216<=y/\y<=16777216)) :
  R L Cs zXu [.a [I x0,I y0],.a [I x,I y]] []=some (.w (.a [I (x-x0),I (y-y0)]),[]):=by
 have h1:=wr (x:=x-x0) wA wA;have h2:=wr (x:=y-y0) wA wA;rw[zUa zZA rfl];simp[zun,zg,h1,h2]
def Vw.m{vx vy wx wy:Int}(h:Vw vx vy wx wy):(-20000000000000<=vx*wx/\vx*wx<=20000000000000)/\(-20000000000000<=vy*wy/\vy*wy<=20000000000000)/\(-20000000000000<=vx*wy/\vx*wy<=20000000000000)/\(-20000000000000<=vy*wx/\vy*wx<=20000000000000):=by
 obtain⟨⟨a1,a2⟩,⟨b1,b2⟩,⟨c1,c2⟩,⟨d1,d2⟩⟩:=h;have h1:=ztS (by omega:-1000000<=vx) a2 (by omega:-20000000<=wx) c2;have h2:=ztS (by omega:-1000000<=vy) b2 (by omega:-20000000<=wy) d2;have h3:=ztS (by omega:-1000000<=vx) a2 (by omega:-20000000<=wy) d2;have h4:=ztS (by omega:-1000000<=vy) b2 (by omega:-20000000<=wx) c2;omega
def z03{vx vy wx wy:Int}(h:Vw vx vy wx wy):R L Cs zWU [.a [I vx,I vy],.a [I wx,I wy]] []=some (.w (W (vx*wx+vy*wy)),[]):=by
 have hm:=h.m;have h1:=wr (x:=vx*wx) wA wA;have h2:=wr (x:=vy*wy) wA wA;have h3:=wr (x:=vx*wx+vy*wy) wA wA;rw[zUa zYt rfl];simp[ZfZ,zg,h1,h2,h3]
def z1s{vx vy wx wy:Int}(h:Vw vx vy wx wy):R L Cs zXp [.a [I vx,I vy],.a [I wx,I wy]] []=some (.w (W (vx*wy-vy*wx)),[]):=by
 have hm:=h.m;have h1:=wr (x:=vx*wy) wA wA;have h2:=wr (x:=vy*wx) wA wA;have h3:=wr (x:=vx*wy-vy*wx) wA wA;rw[zUa zYe rfl];simp[zW1,zg,h1,h2,h3]
def zZ7(n:Int):Int:=if -n>n then -n else n
def z1N{n:Int}(h1:-9000000000000000000<=n)(h2:n<=9000000000000000000):R L Cs zYH [W n] []=some (.w (W (zZ7 n)),[]):=by
 have e:=wr (x:=-n) wA wA;rw[zUa zZU rfl];simp[zYa,e,zZ7,zoU,zyw]
def zXz(a b:Int):Int:=if a.tmod b<0 then a.tdiv b-1 else a.tdiv b
def z0g{a b:Int}(hb:0<b)(h1:-9000000000000000<=a)(h2:a<=9000000000000000):-9000000000000000<=a.tdiv b/\a.tdiv b<=9000000000000000:=by
 have h:=Int.natAbs_tdiv_le_natAbs a b;omega
def z1q{a b:Int}(hb:0<b)(h1:-9000000000000000<=a)(h2:a<=9000000000000000):R L Cs zYl [W a,W b] []=some (.w (W (zXz a b)),[]):=by
 have hd:=z0g hb h1 h2;have e1:=wr (x:=a.tdiv b) wA wA;have e2:=wr (x:=a.tdiv b-1) wA wA;have hb0:b≠0:=wA
 rw[zUa zY9 rfl];by_cases c:a.tmod b<0<;>simp[zXI,e1,e2,hb0,c,zXz]
def zXn(x y:Int):Bool:=decide (-16777216<=x)&&decide (x<=16777216)&&decide (-16777216<=y)&&decide (y<=16777216)
def z0T(x y:Int):Y L Cs zpY (some [6,5,7]) 0 [(6,.w (W 1)),(5,.w (.c (.jb [[I x,I y]]))),(7,.w (W 1))] []=some (.exit 0,[(8,.w (Bo false)),(5,.w (.c (.jb [[I x,I y]]))),(6,.w (W 1)),(7,.w (W 1))],[]):=by
 rw[ZfM zpY.eq_1];simp
def z02(x y:Int):R L Cs zZr [.c (.jb [[I x,I y]])] []=some (.w (Bo (zXn x y)),[]):=by
 have e:IntKind.i64.wrap 1=1:=rfl;have h2:=z0T x y;have hy:∃E',Y L Cs zpY (some [6,5,7]) 0 [(6,.w (W 1)),(5,.w (.c (.jb [[I x,I y]]))),(7,.w (W 0))] []=some (if zXn x y then(.exit 0,[(8,.w (Bo false)),(5,.w (.c (.jb [[I x,I y]]))),(6,.w (W 1)),(7,.w (W 1))],[]) else(.ret,[(2,.w (Bo false))],E')):=by
  refine⟨[some { box:=true,esz:=2,rows:=[[I x,I y]],gen:=0,fz:=false,ver:=1 }],?_⟩;rw[ZfM zpY.eq_1];unfold zXn;rcases Int.lt_trichotomy x y with c|c|c
  ·by_cases c1:x < -16777216
   ·have c2:¬(-16777216<=x):=wA
    have c3:¬y<x:=wA
    simp[zg,zoU,zyw,c,c3,c1,c2]
   ·have c2:-16777216<=x:=wA
    have c3:¬y<x:=wA
    by_cases c4:16777216<y
    ·have c5:¬(y<=16777216):=wA
     simp[zg,zoU,zyw,c,c3,c1,c2,c4,c5]
    ·have c5:y<=16777216:=wA
     have c6:-16777216<=y:=wA
     have c7:x<=16777216:=wA
     simp[zg,zoU,zyw,c,c3,c1,c2,c4,c5,c6,c7,e,h2]
  ·subst c;by_cases c1:x < -16777216
   ·have c2:¬(-16777216<=x):=wA
    simp[zg,zoU,zyw,c1,c2]
   ·have c2:-16777216<=x:=wA
    by_cases c4:16777216<x
    ·have c5:¬(x<=16777216):=wA
     simp[zg,zoU,zyw,c1,c2,c4,c5]
    ·have c5:x<=16777216:=wA
     simp[zg,zoU,zyw,c1,c2,c4,c5,e,h2]
  ·have c':¬x<y:=wA
   by_cases c1:y < -16777216
   ·have c2:¬(-16777216<=y):=wA
    simp[zg,zoU,zyw,c,c',c1,c2]
   ·have c2:-16777216<=y:=wA
    by_cases c4:16777216<x
    ·have c5:¬(x<=16777216):=wA
     simp[zg,zoU,zyw,c,c',c1,c2,c4,c5]
    ·have c5:x<=16777216:=wA
     have c6:-16777216<=x:=wA
     have c7:y<=16777216:=wA
     simp[zg,zoU,zyw,c,c',c1,c2,c4,c5,c6,c7,e,h2]
 obtain⟨E',hy⟩:=hy;rw[zUa zZB rfl];by_cases c:zXn x y=true
 ·simp[zuo,hy,c]
 simp_all [if_neg,zuo]
abbrev nsh:List (Nat×Bool×Nat):=[(4,false,1),(5,false,1),(7,false,1)]
abbrev ghN(s:Int)(v:Nat):Option Blk:=some { box:=true,esz:=4,rows:=[[I s,Cl.ptr 1 0 0 0,Cl.ptr 2 0 0 0,Cl.ptr 3 0 0 0]],gen:=0,fz:=false,ver:=v }
abbrev pcb(x0 y0 vx vy len:Int):Option Blk:=some { box:=true,esz:=6,rows:=[[I x0,I y0,I vx,I vy,I len,I 0]],gen:=0,fz:=false,ver:=1 }
def zZI(x0 y0 vx vy len px py:Int):X L Cs (rG 1 [o1 0 9 (.box 0 6 (.k (.a [(I 0),(I 0),(I 0),(I 0),(I 0),(I 0)]))),o0 1 (.store 6 (.s 9) (.s 32))] [4,5,7,9]) (zv3 [31,32] [W 0,.a [I x0,I y0,I vx,I vy,I len,I 0]]++[(4,.w (Pt 1)),(5,.w (Pt 2)),(7,.w (Pt 3))]) [ghN 0 0,bx 2 [I px,I py],bx 1 [I 100],bx 1 [.jc]] =
  some (.normal,[(4,.w (Pt 1)),(5,.w (Pt 2)),(7,.w (Pt 3)),(9,.w (Pt 4))],[ghN 0 0,bx 2 [I px,I py],bx 1 [I 100],bx 1 [.jc],pcb x0 y0 vx vy len]):=by
 simp[zv3,zg,zH]
structure Rnd(x0 y0 vx vy len px py wx wy c d q:Int):Prop where
 hl:IntKind.i64.wrap (100*len)=100*len
 hl2:IntKind.i64.wrap (-100*len)=-100*len
 hl3:IntKind.i64.wrap (len+100)=len+100
 hl4:IntKind.i64.wrap ((len+100)*len)=(len+100)*len
 Ae:R L Cs zXu [.a [I x0,I y0],.a [I px,I py]] []=some (.w (.a [I wx,I wy]),[])
 AC:R L Cs zXp [.a [I vx,I vy],.a [I wx,I wy]] []=some (.w (W c),[])
 BG:R L Cs zWU [.a [I vx,I vy],.a [I wx,I wy]] []=some (.w (W d),[])
 Di:R L Cs zYH [W c] []=some (.w (W (zZ7 c)),[])
 hfl:R L Cs zYl [W d,W len] []=some (.w (W q),[])
def zXi(len c d:Int):Bool:=decide (100*len<zZ7 c)||decide (d < -100*len)||decide ((len+100)*len<d)
def z0t{x0 y0 vx vy len px py wx wy c d q:Int}(h:Rnd x0 y0 vx vy len px py wx wy c d q)(hm:zXi len c d=true) :
  ∃E M,X L Cs zWF.code [(4,.w (Pt 1)),(5,.w (Pt 2)),(7,.w (Pt 3)),(9,.w (Pt 4))] [ghN 1 1,bx 2 [I px,I py],bx 1 [I 100],bx 1 [.jc],pcb x0 y0 vx vy len]=some (.normal,E,[ghN 1 1,bx 2 [I px,I py],bx 1 [I 100],bx 1 [.jc],M,some { box:=true,esz:=2,rows:=[[I wx,I wy]],gen:=0,fz:=false,ver:=1 }]):=by
 obtain⟨hl,hl2,hl3,hl4,Ae,AC,BG,Di,hfl⟩:=h;have e1:IntKind.i64.wrap (-100)=-100:=rfl;unfold zXi at hm;by_cases h1:100*len<zZ7 c
 ·simp[zWF,zg,zH,Ae,AC,BG,Di,hl,h1]
 ·by_cases h2:d < -100*len
  ·simp[zWF,zg,zH,Ae,AC,BG,Di,hl,hl2,e1,h1,h2]
  ·have h3:(len+100)*len<d:=by simpa [h1,h2]using hm
   simp[zWF,zg,zH,Ae,AC,BG,Di,hl,hl2,hl3,hl4,e1,h1,h2,h3]
abbrev zYh(q len:Int):Int:=if 0<if len<q then len else q then if len<q then len else q else 0
abbrev zZH(v:Int):Option Blk:=some { box:=false,esz:=1,rows:=[[I v]],gen:=1,fz:=false,ver:=1 }
abbrev z0s(id:Nat):Option Blk:=some { box:=true,esz:=1,rows:=[[Cl.slice id 1 1 0 1 none]],gen:=0,fz:=false,ver:=1 }
def z0N{x0 y0 vx vy len px py wx wy c d q:Int}(h:Rnd x0 y0 vx vy len px py wx wy c d q)(hm:zXi len c d=false)(hw:IntKind.i64.wrap (zYh q len)=zYh q len) :
  X L Cs zWF.code [(4,.w (Pt 1)),(5,.w (Pt 2)),(7,.w (Pt 3)),(9,.w (Pt 4))] [ghN 1 1,bx 2 [I px,I py],bx 1 [I 100],bx 1 [.jc],pcb x0 y0 vx vy len] =
    some (.normal,[],[ghN 1 1,bx 2 [I px,I py],bx 1 [I 100],z0s 7,pcb x0 y0 vx vy len,some { box:=true,esz:=2,rows:=[[I wx,I wy]],gen:=0,fz:=false,ver:=1 },zZH (zYh q len),zZH (zYh q len)]):=by
 obtain⟨hl,hl2,hl3,hl4,Ae,AC,BG,Di,hfl⟩:=h;have e1:IntKind.i64.wrap (-100)=-100:=rfl;simp only[zXi,Bool.or_eq_false_iff,decide_eq_false_iff_not]at hm;obtain⟨⟨h1,h2⟩,h3⟩:=hm;simp[zWF,zg,zH,Ae,AC,BG,Di,hl,hl2,hl3,hl4,e1,h1,h2,h3,hfl,zoU,zyw,hw]
def zZ0{x0 y0 vx vy len px py wx wy c d q:Int}(h:Rnd x0 y0 vx vy len px py wx wy c d q)(hm:zXi len c d=true) :
  R L Cs zWv [.c (.yld 0 zWv nsh),W 0,.a [I x0,I y0,I vx,I vy,I len,I 0]] [ghN 0 0,bx 2 [I px,I py],bx 1 [I 100],bx 1 [.jc]] =
    some (.w (Bo true),[ghN 0 2,bx 2 [I px,I py],bx 1 [I 100],bx 1 [.jc]]):=by
 obtain⟨E,M,hc⟩:=z0t h hm;exact zOg (cells:=[.ptr 1 0 0 0,.ptr 2 0 0 0,.ptr 3 0 0 0]) (M2:=[ghN 1 1,bx 2 [I px,I py],bx 1 [I 100],bx 1 [.jc],pcb x0 y0 vx vy len]) (M4:=[ghN 0 2,bx 2 [I px,I py],bx 1 [I 100],bx 1 [.jc],M,some { box:=true,esz:=2,rows:=[[I wx,I wy]],gen:=0,fz:=false,ver:=1 }]) zX3 rfl rfl (by simp[kM]) (by simp[zxb]) (by rfl) (zZI x0 y0 vx vy len px py) (by simp[zsR]) hc (by simp[zsR,zxZ]) wD
def z0q{x0 y0 vx vy len px py wx wy c d q:Int}(h:Rnd x0 y0 vx vy len px py wx wy c d q)(hm:zXi len c d=false)(hw:IntKind.i64.wrap (zYh q len)=zYh q len) :
  R L Cs zWv [.c (.yld 0 zWv nsh),W 0,.a [I x0,I y0,I vx,I vy,I len,I 0]] [ghN 0 0,bx 2 [I px,I py],bx 1 [I 100],bx 1 [.jc]] =
    some (.w (Bo true),[ghN 0 2,bx 2 [I px,I py],bx 1 [I 100],z0s 4,zZH (zYh q len)]):=by
 have hc:=z0N h hm hw;exact zOg (cells:=[.ptr 1 0 0 0,.ptr 2 0 0 0,.ptr 3 0 0 0]) (M2:=[ghN 1 1,bx 2 [I px,I py],bx 1 [I 100],bx 1 [.jc],pcb x0 y0 vx vy len]) (M4:=[ghN 0 2,bx 2 [I px,I py],bx 1 [I 100],z0s 7,pcb x0 y0 vx vy len,some { box:=true,esz:=2,rows:=[[I wx,I wy]],gen:=0,fz:=false,ver:=1 },zZH (zYh q len),zZH (zYh q len)]) zX3 rfl rfl (by simp[kM]) (by simp[zxb]) (by rfl) (zZI x0 y0 vx vy len px py) (by simp[zsR]) hc (by simp[zsR,zxZ]) (by simp[zH,List.range,List.range.loop])
abbrev crv(x0 y0 x1 y1:Int):Cl:=.jb [[I x0,I y0],[I x1,I y1]]
def zZ1{x0 y0 x1 y1 vx vy len px py a v:Int}(hw:IntKind.i64.wrap len=len)
  (Ae:R L Cs zXu [.a [I x0,I y0],.a [I x1,I y1]] []=some (.w (.a [I vx,I vy]),[]))
  (BG:R L Cs zWU [.a [I vx,I vy],.a [I vx,I vy]] []=some (.w (W a),[]))
  (Ds:R L Cs zud [W a] []=some (.t [W len,Bo true],[]))
  (Ao:R L Cs zWv [.c (.yld 0 zWv nsh),W 0,.a [I x0,I y0,I vx,I vy,I len,I 0]] [ghN 0 0,bx 2 [I px,I py],bx 1 [I 100],bx 1 [.jc]] =
    some (.w (Bo true),[ghN 0 2,bx 2 [I px,I py],bx 1 [I 100],z0s 4,zZH v])) :
  R L Cs zWM [.c (.yld 0 zWv nsh),.c (.ptr 4 0 0 0)] [ghN 0 0,bx 2 [I px,I py],bx 1 [I 100],bx 1 [.jc],bx 1 [crv x0 y0 x1 y1]]=some (.t [],[ghN 0 2,bx 2 [I px,I py],bx 1 [I 100],z0s 5,bx 1 [crv x0 y0 x1 y1],zZH v]):=by
 have e:IntKind.i64.wrap 1=1:=rfl;rw[zUa zXP rfl];simp[zo2,zg,zH,e];rw[ZfM zmW.eq_1];simp[zg,zH,Ae,BG,Ds,Ao,e,hw];rw[ZfM zmW.eq_1];simp[zg,zH,List.range,List.range.loop]
def zZG{x0 y0 x1 y1 vx vy len px py a:Int}(hw:IntKind.i64.wrap len=len)
  (Ae:R L Cs zXu [.a [I x0,I y0],.a [I x1,I y1]] []=some (.w (.a [I vx,I vy]),[]))
  (BG:R L Cs zWU [.a [I vx,I vy],.a [I vx,I vy]] []=some (.w (W a),[]))
  (Ds:R L Cs zud [W a] []=some (.t [W len,Bo true],[]))
  (Ao:R L Cs zWv [.c (.yld 0 zWv nsh),W 0,.a [I x0,I y0,I vx,I vy,I len,I 0]] [ghN 0 0,bx 2 [I px,I py],bx 1 [I 100],bx 1 [.jc]] =
    some (.w (Bo true),[ghN 0 2,bx 2 [I px,I py],bx 1 [I 100],bx 1 [.jc]])) :
  R L Cs zWM [.c (.yld 0 zWv nsh),.c (.ptr 4 0 0 0)] [ghN 0 0,bx 2 [I px,I py],bx 1 [I 100],bx 1 [.jc],bx 1 [crv x0 y0 x1 y1]]=some (.t [],[ghN 0 2,bx 2 [I px,I py],bx 1 [I 100],bx 1 [.jc],bx 1 [crv x0 y0 x1 y1]]):=by
 have e:IntKind.i64.wrap 1=1:=rfl;rw[zUa zXP rfl];simp[zo2,zg,zH,e];rw[ZfM zmW.eq_1];simp[zg,zH,Ae,BG,Ds,Ao,e,hw];rw[ZfM zmW.eq_1];simp[zg,zH,List.range,List.range.loop]
def z0Z(c:Cl)(hc:∃rows,c=.jb rows):R L Cs zYX [.a [c]] []=some (.w (.c (.fn zWM [] [.ptr 0 0 0 0])),[bx 1 [c]]):=by
 obtain⟨rows,rfl⟩:=hc;rw[zUa zY1 rfl];simp[zrE,zg]
def z1h{x0 y0 x1 y1 px py:Int}{out:List Int}{M1:Mem}
  (hk:R L Cs zsk [.a [crv x0 y0 x1 y1]] []=some (.w (W 0),[]))
  (hf:zXn px py=true)
  (hp:(out=[]/\R L Cs zWM [.c (.yld 0 zWv nsh),.c (.ptr 4 0 0 0)] [ghN 0 0,bx 2 [I px,I py],bx 1 [I 100],bx 1 [.jc],bx 1 [crv x0 y0 x1 y1]]=some (.t [],[ghN 0 2,bx 2 [I px,I py],bx 1 [I 100],bx 1 [.jc],bx 1 [crv x0 y0 x1 y1]])) \/
   ∃v,out=[v]/\R L Cs zWM [.c (.yld 0 zWv nsh),.c (.ptr 4 0 0 0)] [ghN 0 0,bx 2 [I px,I py],bx 1 [I 100],bx 1 [.jc],bx 1 [crv x0 y0 x1 y1]]=some (.t [],[ghN 0 2,bx 2 [I px,I py],bx 1 [I 100],z0s 5,bx 1 [crv x0 y0 x1 y1],zZH v])) :
  R L Cs zXv [.a [crv x0 y0 x1 y1],.a [I px,I py],W 100] []=some (.w (.c (.jb (zu out))),[]):=by
 have hF:=z02 px py;rw[hf]at hF;have hq:=z0Z (crv x0 y0 x1 y1) ⟨_,rfl⟩;have hne:¬(zWv=zWM):=wC
 rw[zUa zYA rfl];rcases hp with⟨rfl,hp⟩ |⟨v,rfl,hp⟩
 ·simp[zXh,zg,zH,hk,hF,hq,zNb,zeN,ghost,hp,zX,kM,znr,zsR,hne]
 ·simp[zXh,zg,zH,hk,hF,hq,zNb,zeN,ghost,hp,zX,kM,znr,zsR,hne]
def z0O{x0 y0 x1 y1 px py:Int}(hk:R L Cs zsk [.a [crv x0 y0 x1 y1]] []=some (.w (W 0),[]))
  (hf:zXn px py=false):R L Cs zXv [.a [crv x0 y0 x1 y1],.a [I px,I py],W 100] []=some (.w (.c (.jb [])),[]):=by
 have hF:=z02 px py;rw[hf]at hF;rw[zUa zYA rfl];simp[zXh,zg,zH,hk,hF,zX]
structure Pc(x0 y0 x1 y1 len:Int):Prop where
 b:(-400000<=x0/\x0<=400000)/\(-400000<=y0/\y0<=400000)/\(-400000<=x1/\x1<=400000)/\(-400000<=y1/\y1<=400000)
 l:1000<=len/\len<=1000000
 chk:R L Cs zsk [.a [crv x0 y0 x1 y1]] []=some (.w (W 0),[])
 rchk:R L Cs zkH [.a [crv x0 y0 x1 y1]] []=some (.w (W 0),[])
 root:R L Cs zud [W ((x1-x0)*(x1-x0)+(y1-y0)*(y1-y0))] []=some (.t [W len,Bo true],[])
 rroot:R L Cs zlq [W ((x1-x0)*(x1-x0)+(y1-y0)*(y1-y0))] []=some (.w (W len),[])
def zX9(x0 y0 x1 y1 px py:Int):Int:=(x1-x0)*(py-y0)-(y1-y0)*(px-x0)
def zYq(x0 y0 x1 y1 px py:Int):Int:=(x1-x0)*(px-x0)+(y1-y0)*(py-y0)
def zZc(x0 y0 x1 y1 len px py:Int):List Int :=
 if zXn px py then(if zXi len (zX9 x0 y0 x1 y1 px py) (zYq x0 y0 x1 y1 px py) then [] else [zYh (zXz (zYq x0 y0 x1 y1 px py) len) len]) else []
def zZn{x y:Int}(h:zXn x y=true):(-16777216<=x/\x<=16777216)/\(-16777216<=y/\y<=16777216):=by
 simp[zXn]at h;omega
def zZi{q len:Int}(h:0<=len):0<=zYh q len/\zYh q len<=len:=by
 unfold zYh;split<;>split<;>omega
def Pc.vw{x0 y0 x1 y1 len px py:Int}(h:Pc x0 y0 x1 y1 len)(hf:zXn px py=true):Vw (x1-x0) (y1-y0) (px-x0) (py-y0):=by
 have:=h.b;have:=zZn hf;exact⟨wA,wA,wA,wA⟩
def Pc.nums{x0 y0 x1 y1 len px py:Int}(h:Pc x0 y0 x1 y1 len)(hf:zXn px py=true) :
  (-40000000000000<=zX9 x0 y0 x1 y1 px py/\zX9 x0 y0 x1 y1 px py<=40000000000000)/\(-40000000000000<=zYq x0 y0 x1 y1 px py/\zYq x0 y0 x1 y1 px py<=40000000000000):=by
 have:=(h.vw hf).m;unfold zX9 zYq;omega
def Pc.rnd{x0 y0 x1 y1 len px py:Int}(h:Pc x0 y0 x1 y1 len)(hf:zXn px py=true) :
  Rnd x0 y0 (x1-x0) (y1-y0) len px py (px-x0) (py-y0) (zX9 x0 y0 x1 y1 px py) (zYq x0 y0 x1 y1 px py) (zXz (zYq x0 y0 x1 y1 px py) len):=by
 have hb:=h.b;have hl:=h.l;have hp:=zZn hf;have hn:=h.nums hf;have hm:=ztS (a:=len+100) (b:=len) (A:=2000000) (B:=1000000) wA wA wA wA;exact⟨wr wA wA,wr wA wA,wr wA wA,wr wA wA,z01 _ _ _ _ wA,z1s (h.vw hf),z03 (h.vw hf),z1N wA wA,z1q wA wA wA⟩
def z1G{x0 y0 x1 y1 len:Int}(h:Pc x0 y0 x1 y1 len)(px py:Int):R L Cs zXv [.a [crv x0 y0 x1 y1],.a [I px,I py],W 100] []=some (.w (.c (.jb (zu (zZc x0 y0 x1 y1 len px py)))),[]):=by
 unfold zZc;by_cases hf:zXn px py=true
 ·rw[if_pos hf];have hb:=h.b;have hl:=h.l;have hv:Vw (x1-x0) (y1-y0) (x1-x0) (y1-y0):=⟨wA,wA,wA,wA⟩;have Ae:=z01 x0 y0 x1 y1 wA;have hval:=zZi (q:=zXz (zYq x0 y0 x1 y1 px py) len) (len:=len) wA;refine z1h (M1:=[]) h.chk hf ?_;by_cases hm:zXi len (zX9 x0 y0 x1 y1 px py) (zYq x0 y0 x1 y1 px py)=true
  ·rw[if_pos hm];exact .inl ⟨rfl,zZG (wr wA wA) Ae (z03 hv) h.root (zZ0 (h.rnd hf) hm)⟩
  ·rw[if_neg hm];exact .inr ⟨_,rfl,zZ1 (wr wA wA) Ae (z03 hv) h.root (z0q (h.rnd hf) (by simpa using hm) (wr wA wA))⟩
 ·rw[if_neg hf];exact z0O h.chk (by simpa using hf)
def pc0:Pc 0 0 60000 0 60000:=⟨wC,wC,zah.2 ⟨400,by kernel_rfl⟩,zah.2 ⟨400,by kernel_rfl⟩,zah.2 ⟨400,by kernel_rfl⟩,zah.2 ⟨400,by kernel_rfl⟩⟩
def pc1:Pc 0 0 50000 0 50000:=⟨wC,wC,zah.2 ⟨400,by kernel_rfl⟩,zah.2 ⟨400,by kernel_rfl⟩,zah.2 ⟨400,by kernel_rfl⟩,zah.2 ⟨400,by kernel_rfl⟩⟩
def pc2:Pc 30000 (-20000) 30000 20000 40000:=⟨wC,wC,zah.2 ⟨400,by kernel_rfl⟩,zah.2 ⟨400,by kernel_rfl⟩,zah.2 ⟨400,by kernel_rfl⟩,zah.2 ⟨400,by kernel_rfl⟩⟩
def pc3:Pc 0 0 30000 0 30000:=⟨wC,wC,zah.2 ⟨400,by kernel_rfl⟩,zah.2 ⟨400,by kernel_rfl⟩,zah.2 ⟨400,by kernel_rfl⟩,zah.2 ⟨400,by kernel_rfl⟩⟩
def pc4:Pc 30000 0 60000 0 30000:=⟨wC,wC,zah.2 ⟨400,by kernel_rfl⟩,zah.2 ⟨400,by kernel_rfl⟩,zah.2 ⟨400,by kernel_rfl⟩,zah.2 ⟨400,by kernel_rfl⟩⟩
def pc5:Pc 30000 0 54000 10000 26000:=⟨wC,wC,zah.2 ⟨400,by kernel_rfl⟩,zah.2 ⟨400,by kernel_rfl⟩,zah.2 ⟨400,by kernel_rfl⟩,zah.2 ⟨400,by kernel_rfl⟩⟩
def pc6:Pc 6000 (-10000) 30000 0 26000:=⟨wC,wC,zah.2 ⟨400,by kernel_rfl⟩,zah.2 ⟨400,by kernel_rfl⟩,zah.2 ⟨400,by kernel_rfl⟩,zah.2 ⟨400,by kernel_rfl⟩⟩
def pc7:Pc 0 0 20000 0 20000:=⟨wC,wC,zah.2 ⟨400,by kernel_rfl⟩,zah.2 ⟨400,by kernel_rfl⟩,zah.2 ⟨400,by kernel_rfl⟩,zah.2 ⟨400,by kernel_rfl⟩⟩
def pc8:Pc 20000 0 50000 0 30000:=⟨wC,wC,zah.2 ⟨400,by kernel_rfl⟩,zah.2 ⟨400,by kernel_rfl⟩,zah.2 ⟨400,by kernel_rfl⟩,zah.2 ⟨400,by kernel_rfl⟩⟩
def pc9:Pc 35000 (-8000) 35000 8000 16000:=⟨wC,wC,zah.2 ⟨400,by kernel_rfl⟩,zah.2 ⟨400,by kernel_rfl⟩,zah.2 ⟨400,by kernel_rfl⟩,zah.2 ⟨400,by kernel_rfl⟩⟩
def pc10:Pc 20000 0 44000 10000 26000:=⟨wC,wC,zah.2 ⟨400,by kernel_rfl⟩,zah.2 ⟨400,by kernel_rfl⟩,zah.2 ⟨400,by kernel_rfl⟩,zah.2 ⟨400,by kernel_rfl⟩⟩
def pc11:Pc 36000 (-12000) 36000 18000 30000:=⟨wC,wC,zah.2 ⟨400,by kernel_rfl⟩,zah.2 ⟨400,by kernel_rfl⟩,zah.2 ⟨400,by kernel_rfl⟩,zah.2 ⟨400,by kernel_rfl⟩⟩
structure zmp(m:zD):Prop where
 one:∀l∈m.jd,∃x0 y0 x1 y1,l.pts=[(x0,y0),(x1,y1)]/\Pc x0 y0 x1 y1 l.len
 few:m.jd.length<=4/\0<m.jd.length
theorem zAd(lim r o1 o2 o3 v:Int)(ws:List zCP):zmp (zq 0 lim r o1 o2 o3 v ws):=by
 refine⟨fun l hl=>?_,by constructor<;>simp[zq,zy]⟩;simp only[zq,zy,jK,qg,or_false]at hl;subst hl
 ·exact⟨_,_,_,_,rfl,pc0⟩
theorem zAc(lim r o1 o2 o3 v:Int)(ws:List zCP):zmp (zq 1 lim r o1 o2 o3 v ws):=by
 refine⟨fun l hl=>?_,by constructor<;>simp[zq,zy]⟩;simp only[zq,zy,jK,qg,or_false]at hl;rcases hl with rfl|rfl
 ·exact⟨_,_,_,_,rfl,pc1⟩
 ·exact⟨_,_,_,_,rfl,pc2⟩
theorem zAb(lim r o1 o2 o3 v:Int)(ws:List zCP):zmp (zq 2 lim r o1 o2 o3 v ws):=by
 refine⟨fun l hl=>?_,by constructor<;>simp[zq,zy]⟩;simp only[zq,zy,jK,qg,or_false]at hl;rcases hl with rfl|rfl
 ·exact⟨_,_,_,_,rfl,pc1⟩
 ·exact⟨_,_,_,_,rfl,pc2⟩
theorem zAa(lim r o1 o2 o3 v:Int)(ws:List zCP):zmp (zq 3 lim r o1 o2 o3 v ws):=by
 refine⟨fun l hl=>?_,by constructor<;>simp[zq,zy]⟩;simp only[zq,zy,jK,qg,or_false]at hl;rcases hl with rfl|rfl|rfl
 ·exact⟨_,_,_,_,rfl,pc3⟩
 ·exact⟨_,_,_,_,rfl,pc4⟩
 ·exact⟨_,_,_,_,rfl,pc5⟩
theorem zz9(lim r o1 o2 o3 v:Int)(ws:List zCP):zmp (zq 4 lim r o1 o2 o3 v ws):=by
 refine⟨fun l hl=>?_,by constructor<;>simp[zq,zy]⟩;simp only[zq,zy,jK,qg,or_false]at hl;rcases hl with rfl|rfl|rfl
 ·exact⟨_,_,_,_,rfl,pc3⟩
 ·exact⟨_,_,_,_,rfl,pc6⟩
 ·exact⟨_,_,_,_,rfl,pc4⟩
theorem zz8(lim r o1 o2 o3 v:Int)(ws:List zCP):zmp (zq 5 lim r o1 o2 o3 v ws):=by
 refine⟨fun l hl=>?_,by constructor<;>simp[zq,zy]⟩;simp only[zq,zy,jK,qg,or_false]at hl;rcases hl with rfl|rfl|rfl
 ·exact⟨_,_,_,_,rfl,pc7⟩
 ·exact⟨_,_,_,_,rfl,pc8⟩
 ·exact⟨_,_,_,_,rfl,pc9⟩
theorem zz7(lim r o1 o2 o3 v:Int)(ws:List zCP):zmp (zq 6 lim r o1 o2 o3 v ws):=by
 refine⟨fun l hl=>?_,by constructor<;>simp[zq,zy]⟩;simp only[zq,zy,jK,qg,or_false]at hl;rcases hl with rfl|rfl|rfl|rfl
 ·exact⟨_,_,_,_,rfl,pc7⟩
 ·exact⟨_,_,_,_,rfl,pc8⟩
 ·exact⟨_,_,_,_,rfl,pc10⟩
 ·exact⟨_,_,_,_,rfl,pc11⟩
def zCX(b:zk)(i v:Nat)(M:Mem)(h:M[i]?=some (bxv v 6 (ze b))):R L Cs znx [Pt i] M=some (.t [W b.lane,.c (.ptr i 0 0 1),.c (.ptr i 0 0 2)],M):=by
 rw[zUa znG rfl];simp only[ze]at h;simp[zf9,h,ze,p1F]
def zoX(x fr to:Int)(b:zk):List zk :=
 if b.lane≠x\/fr>to\/fr>b.hi\/to<b.lo then [b] else
 (if b.lo<fr then [{ b with hi:=fr-1 }] else [])++(if to<b.hi then [{ b with lo:=to+1 }] else [])
def zhn(x fr to:Int):List zk->List zk
 |[]=>[]
 |b::r=>zoX x fr to b++zhn x fr to r
def zrn(x fr to:Int)(b:zk):(zoX x fr to b).length<=2:=by
 unfold zoX;split
 ·simp
 ·split<;>split<;>simp
def zod(x fr to:Int):∀(r:List zk),(zhn x fr to r).length<=2*r.length
 |[]=>by simp[zhn]
 |b::r=>by
  have:=zrn x fr to b;have:=zod x fr to r;simp only[zhn,jF,jl];omega
def Mid(n:Int):Prop:=-4000000000000000000<=n/\n<=4000000000000000000
def zAu(x fr to:Int)(hfr:Mid fr)(hto:Mid to)(l:List zk)(hl:l.length<=100000000000):∀(r:List zk) (i:Nat) (out:List zk),l.drop i=r->i<=l.length->out.length<=2*i ->
  Y L Cs zdV (some [5,21,20,19,3]) 3 [(5,.w (.c (sl 2 6 (zI out)))),(21,.w (W i)),(20,.w (W l.length)),(19,.w (.c (.jb (zI l)))),(3,.w (Pt 0))] [bx 3 [I x,I fr,I to],gb 6,some (own 6 (zI out))] =
    some (.exit 0,[(22,.w (Bo false)),(5,.w (.c (sl 2 6 (zI (out++zhn x fr to r))))),(21,.w (W l.length)),(20,.w (W l.length)),(19,.w (.c (.jb (zI l)))),(3,.w (Pt 0))],[bx 3 [I x,I fr,I to],gb 6,some (own 6 (zI (out++zhn x fr to r)))]):=by
 intro r;induction r with
 |nil =>
  intro i out hd hi ho;obtain rfl:=zUb hd hi;rw[ZfM zdV.eq_1];simp[zhn]
 |cons b r ih =>
  intro i out hd hi ho;obtain⟨hil,hb,hd'⟩:=zL hd;have hw:=zB (i:=i) wA;have hcl:(out++zoX x fr to b).length<=2*(i+1):=by
   have:=zrn x fr to b;rw[jF];omega
  obtain⟨f1,f2⟩:=hfr;obtain⟨t1,t2⟩:=hto;have hw1:=qB (fr-1);have hw2:=qB (to+1);have kA:(out.length+1)*48<=140737488355328:=wA
  have CF:(out.length+2)*48<=140737488355328:=by clear hcl hd hb hd' ih;omega
  have he:=zCX b 0 1 [bxv 1 6 (ze b)] rfl;have e1:out++zhn x fr to (b::r)=(out++zoX x fr to b)++zhn x fr to r:=by simp[zhn]
  rw[e1,<-ih (i+1) (out++zoX x fr to b) hd' hil hcl,ZfM zdV.eq_1];clear ih e1 hcl;clear f1 f2 t1 t2;obtain⟨bl,lo,hi',vlo,vhi,hold⟩:=b;simp only[ze,zoX]at *;by_cases c1:bl=x
  ·subst c1;by_cases c2:to<fr
   ·simp[hil,hb,ze,hw,kA,zg,zH,he,c2]
   ·by_cases c3:hi'<fr
    ·simp[hil,hb,ze,hw,kA,zg,zH,he,c2,c3]
    ·by_cases c4:to<lo
     ·simp[hil,hb,ze,hw,kA,zg,zH,he,c2,c3,c4]
     ·by_cases c5:lo<fr
      ·by_cases c6:to<hi'
       ·have htk:∀y:List Cl,List.take (out.length+1) (zI out++[y])=zI out++[y]:=fun y=>jx wD
        simp[hil,hb,ze,hw,hw1,hw2,kA,CF,zg,zH,he,c2,c3,c4,c5,c6,htk]
       ·simp[hil,hb,ze,hw,hw1,hw2,kA,zg,zH,he,c2,c3,c4,c5,c6]
      ·by_cases c6:to<hi'
       ·simp[hil,hb,ze,hw,hw1,hw2,kA,zg,zH,he,c2,c3,c4,c5,c6]
       ·simp[hil,hb,ze,hw,hw1,hw2,kA,zg,zH,he,c2,c3,c4,c5,c6]
  ·have b1:(bl==x)=false:=by simp[c1]
   have b2:(bl !=x)=true:=by simp[c1]
   simp[hil,hb,ze,hw,kA,zg,zH,he,c1,b1,b2]
def zDp(x fr to:Int)(hfr:Mid fr)(hto:Mid to)(l:List zk)(hl:l.length<=100000000000):R L Cs zoa [.c (.jb (zI l)),.a [I x,I fr,I to]] []=some (.w (.c (.jb (zI (zhn x fr to l)))),[]):=by
 have hc:=zAu x fr to hfr hto l hl l 0 [] rfl (jr _) (jr _);simp only[jg,je,zic,sl,own,jp,zgg]at hc;rw[zUa zov rfl];simp[zgM,hc,zg]
def zj2(m:zD)(r:List Int):Prop:=∀x∈r,0<=x/\x<m.jd.length
def zW(m:zD):Int->List Int->List Int
 |_,[]=>[]
 |a,x::r=>a::zW m (a+z8 m x) r
def zmd(m:zD):Int->List Int->Int
 |a,[]=>a
 |a,x::r=>zmd m (a+z8 m x) r
def zcX{m:zD}(h:zcp m){x:Int}(hx:0<=x/\x<m.jd.length):1000<=z8 m x/\z8 m x<=1000000:=by
 obtain⟨n,rfl⟩:=jA hx.1;have hn:n<m.jd.length:=wA
 have:=h.Cf _ (jf hn);simpa [z8,hn]using this
def zxO{m:zD}(h:zcp m){x:Int}(hx:0<=x/\x<m.jd.length):R L Cs zkE [.a (zf m),W x] []=some (.w (W (z8 m x)),[]):=by
 obtain⟨n,rfl⟩:=jA hx.1;have hn:n<m.jd.length:=wA
 have e:z8 m n=m.jd[n].len:=by simp[z8,hn]
 rw[e];exact zAV h hn
abbrev znJ:List Cl:=[I 0,.jc,.jc,.jc,.jc,.jc,.jc,I 0]
abbrev zlf(m:zD)(l:List Int)(S:Cl)(n:Int):List Cl:=[I m.version,.jb (m.jd.map zo),.jb m.qR,.jb m.signals,.jb (m.kT.map zaL),.jb (zu l),S,I n]
def zvl{m:zD}(h:zcp m)(l:List Int)(hl:l.length<=1000)(hon:zj2 m l)(j:Nat):∀(r:List Int) (i:Nat) (out:List Int) (v:Nat) (a:Int) (G:Mem),l.drop i=r->i<=l.length->out.length=i->0<=a->a<=i*1000000->G[j]?=some (some (own 1 (zu out))) ->
  ∃v' G',G'[j]?=some (some (own 1 (zu (out++zW m a r))))/\Y L Cs zc3 (some [18,17,4,16,2,5]) 3 [(18,.w (W i)),(17,.w (W l.length)),(4,.w (Pt 1)),(16,.w (.c (.jb (zu l)))),(2,.w (Pt 0)),(5,.w (Pt 2))] (bx 5 (zf m)::bx 8 znJ::bxv v 8 (zlf m l (.slice (j+3) out.length 1 0 out.length none) a)::G) =
   some (.exit 0,[(19,.w (Bo false)),(18,.w (W l.length)),(17,.w (W l.length)),(4,.w (Pt 1)),(16,.w (.c (.jb (zu l)))),(2,.w (Pt 0)),(5,.w (Pt 2))],bx 5 (zf m)::bx 8 znJ::bxv v' 8 (zlf m l (.slice (j+3) (out++zW m a r).length 1 0 (out++zW m a r).length none) (zmd m a r))::G'):=by
 intro r;induction r with
 |nil =>
  intro i out v a G hd hi ho ha1 ha2 hG;obtain rfl:=zUb hd hi;refine⟨v,G,by simpa [zW]using hG,?_⟩;rw[ZfM zc3.eq_1];simp[zW,zmd]
 |cons x r ih =>
  intro i out v a G hd hi ho ha1 ha2 hG;subst ho;obtain⟨hil,hx,hd'⟩:=zL hd;have hxm:=hon x (by rw[<-hx];exact jf _);have hw:=zB (i:=out.length) wA;have hjG:j<G.length:=(jy.1 hG).1;have hg:∀N:Mem,(G++N)[j]?=some (some (own 1 (zu out))):=fun N=>by rw[jo hjG,hG]
  have AP:∀(N:Mem) (x:Option Blk),(G++N).set j x=G.set j x++N:=fun N x=>ur _ _ hjG
  have hL:=zxO h hxm;have hle:=zcX h hxm;have kA:(out.length+1)*8<=140737488355328:=wA
  have hwa:=qB (a+z8 m x);obtain⟨v',G',h1,h2⟩:=ih (out.length+1) (out++[a]) (v+1+1) (a+z8 m x) (G.set j (some (own 1 (zu (out++[a]))))++[some (own 1 [[I a]])]) hd' hil wD wA wA (by rw[jo (by simpa using hjG),jS hjG]);have e1:out++zW m a (x::r)=(out++[a])++zW m (a+z8 m x) r:=by simp[zW]
  refine⟨v',G',by rw[e1];exact h1,?_⟩;rw[e1,zmd,<-h2,ZfM zc3.eq_1];simp only[own,zfq,zf]at hg hL;have hdr:∀(E:Env) (p q:Option Blk) (w g len:Nat) (a:Int) (N:Mem),km 3 E (p::q::bxv w 8 (zlf m l (.slice (j+3) g 1 0 len none) a)::N)=(p::q::bxv w 8 (zlf m l (.slice (j+3) g 1 0 len none) a)::N):=by
   intro E p q w g len a N;unfold km;split
   ·rfl
   ·rw[if_neg];simp[zH,Blk.below,Eng.below,yC]
  simp only[bxv,zlf]at hdr;simp[hil,hx,hL,zf,hw,hg,AP,kA,hwa,zg,hdr,-km]
  try omega
theorem zcO(m:zD):∀(r:List Int) (a:Int),(zW m a r).length=r.length
 |[],_=>rfl
 |x::r,a=>by simp[zW,zcO m r]
def zxC(M:Mem)(r:List (List Cl)):zdR M (.jb r)=some (.jb r):=rfl
def zyF{M:Mem}{m:zD}{l:List Int}{S x:Cl}{n:Int}(h:zdR M S=some x)(hx:Eng.below 0 x=true):leave true 0 (.w (.a (zlf m l S n))) M=some (.w (.a (zlf m l x n)),[]) :=
 zid (by simp only[zoS,zn7,yL,h,zvj,zxC];rfl) (by show List.all (zlf m l x n) (Eng.below 0)=true;simp only[zlf,ud,List.all_nil,hx];rfl)
def zg1{m:zD}(h:zcp m){l:List Int}(hr:zdA m l=0):zj2 m l/\l≠[]/\l.length<=8:=by
 cases l with
 |nil=>simp[zdA]at hr
 |cons x t =>
  simp only[zdA]at hr;split at hr
  ·cases hr
  split at hr
  ·cases hr
  split at hr
  ·cases hr
  split at hr
  ·cases hr
  split at hr
  ·rename_i h1 h2 h3 h4 h5;refine⟨?_,wD,by simp;omega⟩;have key:∀(t:List Int) (a:Int),0<=a->a<m.jd.length->goF m a t=true->zj2 m t:=by
    intro t;induction t with
    |nil=>intro a _ _ _ y hy;cases hy
    |cons y t ih =>
     intro a ha1 ha2 hg;simp only[goF,jk,decide_eq_true_eq]at hg;have hal:a.toNat<m.jd.length:=wA
     have kY:((m.jd[a.toNat]?).map zfn.next).getD []=(m.jd[a.toNat]).next:=by rw[jq hal];rfl
     rw[kY]at hg;have hv:=h.small.valid _ (jf hal) y hg.1;intro z hz;rcases jK.1 hz with rfl|hz
     ·exact hv
     ·exact ih y hv.1 hv.2 hg.2 z hz
   intro z hz;rcases jK.1 hz with rfl|hz
   ·exact⟨wA,wA⟩
   ·exact key t x wA wA h5 z hz
  ·cases hr
def zvR{m:zD}(h:zcp m){l:List Int}(hr:zdA m l=0):R L Cs zrf [.a (zf m),.c (.jb (zu l))] []=some (.w (.a (zlf m l (.jb (zu (zW m 0 l))) (zmd m 0 l))),[]):=by
 obtain⟨hon,hne,hlen⟩:=zg1 h hr;have hck:=zos m h.small h.chk l wA;rw[hr]at hck;obtain⟨x,r,hl⟩:=u6 hne;have Dy:∃M' S v,Y L Cs zc3 (some [18,17,4,16,2,5]) 3 [(18,.w (W 0)),(17,.w (W l.length)),(4,.w (Pt 1)),(16,.w (.c (.jb (zu l)))),(2,.w (Pt 0)),(5,.w (Pt 2))] [bx 5 (zf m),bx 8 znJ,bxv 1 8 (zlf m l .jc 0)] =
   some (.exit 0,[(19,.w (Bo false)),(18,.w (W l.length)),(17,.w (W l.length)),(4,.w (Pt 1)),(16,.w (.c (.jb (zu l)))),(2,.w (Pt 0)),(5,.w (Pt 2))],bx 5 (zf m)::bx 8 znJ::bxv v 8 (zlf m l S (zmd m 0 l))::M') /\
   zdR (bx 5 (zf m)::bxv 1 8 (zlf m l S (zmd m 0 l))::bxv v 8 (zlf m l S (zmd m 0 l))::M') S=some (.jb (zu (zW m 0 l))):=by
  have hll:0<l.length:=by rw[hl];simp
  have h0:l[0]=x:=by simp[hl]
  have hxm:=hon x (by rw[hl];simp);have hL:=zxO h hxm;have hle:=zcX h hxm;have hwa:=qB (z8 m x);obtain⟨v',G',h1,h2⟩:=zvl h l wA hon 1 r 1 [0] 3 (z8 m x) [some (own 1 [[I 0]]),some (own 1 (zu [0]))] (by rw[hl];rfl) wA rfl wA wA rfl;have ve:zW m 0 l=[0]++zW m (z8 m x) r:=by rw[hl];simp[zW]
  have A0:zmd m 0 l=zmd m (z8 m x) r:=by rw[hl];simp[zmd]
  refine⟨G',.slice 4 ([0]++zW m (z8 m x) r).length 1 0 ([0]++zW m (z8 m x) r).length none,v',?_,?_⟩
  ·rw[A0];simp only[kg,jg,jl,jp,own,zf,zlf]at hL h2 ⊢;rw[<-h2,ZfM zc3.eq_1];have hw:IntKind.i64.wrap 1=1:=rfl;have hr:(0:Int)<(l.length:Int):=wA
   simp[hll,h0,hL,hw,hwa,zg,hr]
  ·rw[ve];simp[zdR,look,h1]
 obtain⟨M',S,v,h1,h2⟩:=Dy;simp only[zf,zlf]at hck h1 h2;rw[zUa zrV rfl];simp[zir,zf,hck,h1,-leave];exact zyF h2 rfl
def zAY{m:zD}(h:zcp m){l:List Int}(hr:zdA m l=0):R L Cs zrh [.a (zf m),.c (.jb (zu l))] []=some (.w (.c (.jb (zu (zW m 0 l)))),[]):=by
 have hf:=zvR h hr;simp only[zf,zlf]at hf;rw[zUa zrX rfl];simp[zit,zf,hf]
def zsq{m:zD}(h:zcp m){l:List Int}(hr:zdA m l=0):R L Cs zmQ [.a (zf m),.c (.jb (zu l))] []=some (.w (W (zmd m 0 l)),[]):=by
 have hf:=zvR h hr;simp only[zf,zlf]at hf;rw[zUa zm0 rfl];simp[zfF,zf,hf]
def zbK(m:zD):Nat->List zfn->List Int
 |_,[]=>[]
 |i,_::r=>if zes i 0 m.jd=[] then(i:Int)::zbK m (i+1) r else zbK m (i+1) r
def zp8(m:zD):∀(r:List zfn) (i:Nat),i+r.length<=m.jd.length->zj2 m (zbK m i r)
 |[],_,_=>by intro x hx;cases hx
 |l::r,i,h=>by
  intro x hx;simp at h;unfold zbK at hx;split at hx
  ·rcases jK.1 hx with rfl|hx
   ·omega
   ·exact zp8 m r (i+1) wA x hx
  ·exact zp8 m r (i+1) wA x hx
def zlK(m:zD):∀(r:List zfn) (i:Nat),(zbK m i r).length<=r.length
 |[],_=>by simp[zbK]
 |l::r,i=>by
  have:=zlK m r (i+1);unfold zbK;split<;>simp<;>omega
def ztu{m:zD}(h:zcp m):∀(r:List zfn) (i:Nat) (out:List Int),m.jd.drop i=r->i<=m.jd.length->out.length<=i ->
  Y L Cs zdE (some [3,11,10,1]) 3 [(3,.w (.c (sl 2 1 (zu out)))),(11,.w (W i)),(10,.w (W m.jd.length)),(1,.w (Pt 0))] [bx 5 (zf m),gb 1,some (own 1 (zu out))] =
    some (.exit 0,[(12,.w (Bo false)),(3,.w (.c (sl 2 1 (zu (out++zbK m i r))))),(11,.w (W m.jd.length)),(10,.w (W m.jd.length)),(1,.w (Pt 0))],[bx 5 (zf m),gb 1,some (own 1 (zu (out++zbK m i r)))]):=by
 intro r;induction r with
 |nil =>
  intro i out hd hi ho;obtain rfl:=zUb hd hi;rw[ZfM zdE.eq_1];simp[zbK]
 |cons l r ih =>
  intro i out hd hi ho;obtain⟨hil,hl,hd'⟩:=zL hd;have hn:=h.small.jd;have hw:=zB (i:=i) wA;have hb:=zvT m i wA (fun l hl=>by have:=h.small.next l hl;omega);simp only[zf]at hb;have kA:(out.length+1)*8<=140737488355328:=wA
  rw[zbK];by_cases he:zes i 0 m.jd=[]
  ·rw[if_pos he,show out++(i:Int)::zbK m (i+1) r=(out++[(i:Int)])++zbK m (i+1) r by simp,<-ih (i+1) (out++[(i:Int)]) hd' hil (by simp;omega),ZfM zdE.eq_1];rw[he]at hb;simp at hb;simp[hil,zf,hb,hw,kA,zg,zH]
  ·rw[if_neg he,<-ih (i+1) out hd' hil wA,ZfM zdE.eq_1];have hz:(((zes i 0 m.jd).length:Int)==0)=false:=by
    have:0<(zes i 0 m.jd).length:=kD.2 he;exact beq_false_of_ne wA
   simp[hil,zf,hb,hw,he,hz,zg,zH]
def zzb{m:zD}(h:zcp m):R L Cs zpR [.a (zf m)] []=some (.w (.c (.jb (zu (zbK m 0 m.jd)))),[]):=by
 have hl:=ztu h m.jd 0 [] rfl (jr _) (jr _);have hck:=h.chk;simp only[zf,jg,je,zay,sl,own,jp,zfq]at hl hck;rw[zUa zp3 rfl];simp[zhE,zf,hl,hck,zg]
def zgU(l:List Bool):List (List Cl):=l.map fun b=>[.bool b]
@[simp] def zDa(l:List Bool):(zgU l).length=l.length:=by simp[zgU]
def zx6(l:List Bool)(i:Nat)(b:Bool):(zgU l).set i [.bool b]=zgU (l.set i b):=by simp[zgU,List.map_set]
@[simp] def zBb{l:List Bool}{i:Nat}(h:i<(zgU l).length):(zgU l)[i]=[.bool (l[i]'(by simpa using h))]:=by simp[zgU]
@[simp] def zCo(l:List Bool):(zgU l).take l.length=zgU l:=jx wD
def zx7(n:Nat):List.replicate n [Cl.bool false]=zgU (List.replicate n false):=by simp[zgU]
def zkj(l:List Bool)(s:List Int):List Bool:=s.foldl (fun l x=>l.set x.toNat true) l
theorem znN:∀(s:List Int) (l:List Bool),(zkj l s).length=l.length
 |[],l=>rfl
 |x::s,l=>by show(zkj (l.set x.toNat true) s).length=_;rw[znN s];simp
abbrev zi(m:zD)(l:List Int)(n:Int)(S T:Cl):List Cl:=[I m.version,.jb (m.jd.map zo),.jb m.qR,.jb m.signals,.jb (m.kT.map zaL),.jb (zu l),.jb (zu (zW m 0 l)),I (zmd m 0 l),I n,S,T]
def zh(m:zD)(l:List Int)(n:Int):List Cl:=zi m l n (.jb (zu (m.jd.map zfn.len))) (.jb (zgU (zkj (List.replicate m.jd.length false) (zbK m 0 m.jd))))
abbrev zqj:List Cl:=[I 0,.jc,.jc,.jc,.jc,.jc,.jc,I 0,I 0,.jc,.jc]
abbrev znf(v:Nat)(l:List Bool):Option Blk:=some { box:=false,esz:=1,rows:=zgU l,gen:=l.length,fz:=false,ver:=v }
def zvL{m:zD}(h:zcp m)(l:List Int)(nn:Int)(q:Option Blk)(j:Nat):∀(r:List zfn) (i:Nat) (out:List Int) (v:Nat) (G:Mem),m.jd.drop i=r->i<=m.jd.length->out.length=i->G[j]?=some (some (own 1 (zu out))) ->
  ∃v' G',G'[j]?=some (some (own 1 (zu (out++r.map zfn.len))))/\Y L Cs zc6 (some [28,27,6,3,7]) 4 [(28,.w (W i)),(27,.w (W m.jd.length)),(6,.w (Pt 1)),(3,.w (Pt 0)),(7,.w (Pt 3))] (bx 5 (zf m)::bx 11 zqj::q::bxv v 11 (zi m l nn (.slice (j+4) out.length 1 0 out.length none) (.slice 2 m.jd.length 1 0 m.jd.length none))::G) =
   some (.exit 0,[(29,.w (Bo false)),(28,.w (W m.jd.length)),(27,.w (W m.jd.length)),(6,.w (Pt 1)),(3,.w (Pt 0)),(7,.w (Pt 3))],bx 5 (zf m)::bx 11 zqj::q::bxv v' 11 (zi m l nn (.slice (j+4) (out++r.map zfn.len).length 1 0 (out++r.map zfn.len).length none) (.slice 2 m.jd.length 1 0 m.jd.length none))::G'):=by
 intro r;induction r with
 |nil =>
  intro i out v G hd hi ho hG;obtain rfl:=zUb hd hi;refine⟨v,G,by simpa using hG,?_⟩;rw[ZfM zc6.eq_1];simp
 |cons x r ih =>
  intro i out v G hd hi ho hG;subst ho;obtain⟨hil,hx,hd'⟩:=zL hd;have hn:=h.small.jd;have hw:=zB (i:=out.length) wA;have hjG:j<G.length:=(jy.1 hG).1;have hg:∀N:Mem,(G++N)[j]?=some (some (own 1 (zu out))):=fun N=>by rw[jo hjG,hG]
  have AP:∀(N:Mem) (x:Option Blk),(G++N).set j x=G.set j x++N:=fun N x=>ur _ _ hjG
  have hL:=zrQ h hil;rw[hx]at hL;have kA:(out.length+1)*8<=140737488355328:=wA
  obtain⟨v',G',h1,h2⟩:=ih (out.length+1) (out++[x.len]) (v+1) (G.set j (some (own 1 (zu (out++[x.len]))))++[some (own 1 [[I x.len]])]) hd' hil wD (by rw[jo (by simpa using hjG),jS hjG]);have e1:out++(x::r).map zfn.len=(out++[x.len])++r.map zfn.len:=wD
  refine⟨v',G',by rw[e1];exact h1,?_⟩;rw[e1,<-h2,ZfM zc6.eq_1];simp only[own,zfq,zf]at hg hL;have hdr:∀(E:Env) (p q s:Option Blk) (w g len:Nat) (N:Mem),km 4 E (p::q::s::bxv w 11 (zi m l nn (.slice (j+4) g 1 0 len none) (.slice 2 m.jd.length 1 0 m.jd.length none))::N)=(p::q::s::bxv w 11 (zi m l nn (.slice (j+4) g 1 0 len none) (.slice 2 m.jd.length 1 0 m.jd.length none))::N):=by
   intro E p q s w g len N;unfold km;split
   ·rfl
   ·rw[if_neg];simp[zH,Blk.below,Eng.below,yC]
  simp only[bxv,zi]at hdr;simp[hil,hL,zf,hw,hg,AP,kA,zg,hdr,-km]
def zvK{m:zD}(l:List Int)(nn:Int)(n0:Nat)(a b:Option Blk)(S:Cl)(w:Nat)(G:Mem)(hn0:n0=G.length+4)(s:List Int)(hs:s.length<=1000)(hon:zj2 m s):∀(r:List Int) (i:Nat) (src:List Bool) (v:Nat),s.drop i=r->i<=s.length->src.length=m.jd.length ->
  ∃v',v<=v'/\Y L Cs ze5 (some [43,42,6,41,7]) n0 [(43,.w (W i)),(42,.w (W s.length)),(6,.w (Pt 1)),(41,.w (.c (.jb (zu s)))),(7,.w (Pt 3))] (a::b::znf v src::bxv w 11 (zi m l nn S (.slice 2 m.jd.length 1 0 m.jd.length none))::G) =
   some (.exit 2,[(44,.w (Bo false)),(43,.w (W s.length)),(42,.w (W s.length)),(6,.w (Pt 1)),(41,.w (.c (.jb (zu s)))),(7,.w (Pt 3))],a::b::znf v' (zkj src r)::bxv w 11 (zi m l nn S (.slice 2 m.jd.length 1 0 m.jd.length none))::G):=by
 intro r;induction r with
 |nil =>
  intro i src v hd hi hl;obtain rfl:=zUb hd hi;rw[ZfM ze5.eq_1];simp[zkj]
 |cons x r ih =>
  intro i src v hd hi hl;obtain⟨hil,hx,hd'⟩:=zL hd;have hxm:=hon x (by rw[<-hx];exact jf _);have hw:=zB (i:=i) wA;obtain⟨n,rfl⟩:=jA hxm.1;have hn:n<m.jd.length:=wA
  have hn2:n<src.length:=wA
  obtain⟨v',h1,h2⟩:=ih (i+1) (src.set n true) (v+1) hd' hil (by simp[hl]);refine⟨v',wA,?_⟩;have e:zkj src (((n:Nat):Int)::r)=zkj (src.set n true) r:=rfl;rw[e,<-h2,ZfM ze5.eq_1];have hdl:∀(E:Env) (p q s t:Option Blk),km n0 E (p::q::s::t::G)=p::q::s::t::G:=by
   intro E p q s t;unfold km;rw[if_pos (by simp[hn0])]
  have hs':=zx6 src n true;simp[hil,hx,hw,hn,hn2,hl,hdl,hs',znf,-km]
def zra{M:Mem}{id g es len:Nat}{rows:List (List Cl)}{v:Nat}(h:M[id]?=some (some { box:=false,esz:=es,rows:=rows,gen:=g,fz:=false,ver:=v }))(hl:rows.length=len):zdR M (.slice id g es 0 len none)=some (.jb rows):=by
 subst hl
 simp_all
def zB9{m:zD}(h:zcp m){l:List Int}(hr:zdA m l=0)(nn:Int):R L Cs zrj [.a (zf m),.c (.jb (zu l)),W nn] []=some (.w (.a (zh m l nn)),[]):=by
 have hS:=zAY h hr;have hT:=zsq h hr;have hO:=zzb h;have hn:=h.small.jd;have hsl:=zlK m m.jd 0;have hson:=zp8 m m.jd 0 wA;have hne:m.jd≠[]:=by
  intro e;have:=(zg1 h hr).1;cases l with
  |nil=>exact(zg1 h hr).2.1 rfl
  |cons x t=>have:=this x wD;rw[e]at this;simp at this;omega
 obtain⟨x,r,hl⟩:=u6 hne;have hlen1:([x.len]++r.map zfn.len).length=m.jd.length:=by rw[hl];simp
 have hmap:[x.len]++r.map zfn.len=m.jd.map zfn.len:=by rw[hl];simp
 obtain⟨v1,G,hG,h1⟩:=zvL h l nn (znf m.jd.length (List.replicate m.jd.length false)) 1 r 1 [x.len] 2 [some (own 1 [[I x.len]]),some (own 1 (zu [x.len]))] (by rw[hl];rfl) (by rw[hl];simp) rfl rfl;rw[hlen1]at h1;have DB:Y L Cs zc6 (some [28,27,6,3,7]) 4 [(28,.w (W 0)),(27,.w (W m.jd.length)),(6,.w (Pt 1)),(3,.w (Pt 0)),(7,.w (Pt 3))] [bx 5 (zf m),bx 11 zqj,znf m.jd.length (List.replicate m.jd.length false),bxv 1 11 (zi m l nn .jc (.slice 2 m.jd.length 1 0 m.jd.length none))] =
   some (.exit 0,[(29,.w (Bo false)),(28,.w (W m.jd.length)),(27,.w (W m.jd.length)),(6,.w (Pt 1)),(3,.w (Pt 0)),(7,.w (Pt 3))],bx 5 (zf m)::bx 11 zqj::znf m.jd.length (List.replicate m.jd.length false)::bxv v1 11 (zi m l nn (.slice (1+4) m.jd.length 1 0 m.jd.length none) (.slice 2 m.jd.length 1 0 m.jd.length none))::G):=by
  have hll:0<m.jd.length:=by rw[hl];simp
  have h0:m.jd[0]=x:=by simp[hl]
  have hL:=zrQ h hll;rw[h0]at hL;simp only[kg,jg,jl,jp,own,zf]at hL h1 ⊢;rw[<-h1,ZfM zc6.eq_1];have hw:IntKind.i64.wrap 1=1:=rfl;have hr':(0:Int)<(m.jd.length:Int):=wA
  simp[hll,hL,hw,zg,hr']
 obtain⟨v2,hv2,h2⟩:=zvK l nn (G.length+4) (bx 5 (zf m)) (bx 11 zqj) (.slice (1+4) m.jd.length 1 0 m.jd.length none) v1 G rfl (zbK m 0 m.jd) wA hson (zbK m 0 m.jd) 0 (List.replicate m.jd.length false) m.jd.length rfl (jr _) wD;have hfz:∀(a b c d:Option Blk),zoS (a::b::c::d::G) (.w (.a (zi m l nn (.slice (1+4) m.jd.length 1 0 m.jd.length none) (.slice 2 m.jd.length 1 0 m.jd.length none))))=(match zdR (a::b::c::d::G) (.slice 2 m.jd.length 1 0 m.jd.length none)with |some T=>some (.w (.a (zi m l nn (.jb (zu (m.jd.map zfn.len))) T))) |none=>none):=by
  intro a b c d;have e1:zdR (a::b::c::d::G) (.slice (1+4) m.jd.length 1 0 m.jd.length none)=some (.jb (zu (m.jd.map zfn.len))):=by
   refine zra (v:=m.jd.length) ?_ wD;show G[1]?=_;rw[hG,hmap];simp
  simp only[zoS,zn7,yL,e1,zvj,zxC];cases zdR (a::b::c::d::G) (.slice 2 m.jd.length 1 0 m.jd.length none)<;>rfl
 have hrep:List.replicate m.jd.length [Cl.bool false]=zgU (List.replicate m.jd.length false):=zx7 _;simp only[zf,zi,jg,znf,uT]at hS hT hO DB h2 hfz;have kA:m.jd.length<=140737488355328:=wA
 rw[zUa zrZ rfl];have hd0:∀(E:Env) (p q s t:Option Blk),km (G.length+4) E (p::q::s::t::G)=p::q::s::t::G:=by
  intro E p q s t;unfold km;rw[if_pos wD]
 have hd4:∀(E:Env) (p q s t:Option Blk),km 4 E [p,q,s,t]=[p,q,s,t]:=by
  intro E p q s t;simp[km]
 simp[ziv,zf,hS,hT,hO,DB,h2,hrep,zg,kA,hd0,hd4,-leave,-km];have hbl:(zkj (List.replicate m.jd.length false) (zbK m 0 m.jd)).length=m.jd.length:=by rw[znN];simp
 refine zid ?_ (r':=.w (.a (zh m l nn))) rfl;refine(hfz _ _ _ _).trans ?_;rw[hbl];have e2:∀(a b d:Option Blk),zdR (a::b::some { box:=false,esz:=1,rows:=zgU (zkj (List.replicate m.jd.length false) (zbK m 0 m.jd)),gen:=m.jd.length,fz:=false,ver:=v2 }::d::G) (.slice 2 m.jd.length 1 0 m.jd.length none)=some (.jb (zgU (zkj (List.replicate m.jd.length false) (zbK m 0 m.jd)))):=fun a b d=>zra (v:=v2) rfl (by simp[hbl])
 rw[e2];rfl
def zaK(m:zD)(i:Int):Int:=((m.jd[i.toNat]?).map zfn.kind).getD 0
abbrev zqY:zk:=⟨-1,0,0,0,0,0⟩
def Ay(m:zD)(b:zk):Prop:=b.lo<0\/b.hi<b.lo\/z8 m b.lane<b.hi\/b.vlo<0\/b.vhi<b.vlo\/zeR (zaK m b.lane)<b.vhi\/b.hold<0\/z8 m b.lane<b.hold
instance(m:zD)(b:zk):Decidable (Ay m b):=by unfold Ay;infer_instance
def zmM(p b:zk):Prop:=b.lane<p.lane\/(b.lane=p.lane/\b.lo<=p.hi+1)
instance(p b:zk):Decidable (zmM p b):=by unfold zmM;infer_instance
def zer(m:zD)(p b:zk):Int:=if b.lane<0\/(m.jd.length:Int)<=b.lane then 7 else if Ay m b then 2 else if zmM p b then 11 else 0
def zls(m:zD):zk->List zk->Int
 |_,[]=>0
 |p,b::r=>if zer m p b≠0 then zer m p b else zls m b r
def ziC(n lo hi:Int):R L Cs zrd [W n,W lo,W hi] []=some (.w (Bo (decide (lo<=n)&&decide (n<=hi))),[]):=by
 rw[zUa zrT rfl];by_cases h:lo<=n
 ·simp[zgJ,h]
 ·simp[zgJ,h]
section
variable{m:zD}(h:zcp m)(k:zci)
abbrev ckM(m:zD)(k:zci)(v:Nat)(p:zk):Mem:=[bx 5 (zf m),bx 6 (zG k),bxv 1 4 (zch k.ego),bxv v 6 (ze p)]
abbrev ckE(k:zci)(i:Nat):Env:=[(62,.w (W k.jZ.length)),(61,.w (.c (.jb (zI k.jZ)))),(7,.w (Pt 3)),(2,.w (Pt 0)),(63,.w (W i))]
include h in
def zw8(hk:k.jZ.length<=100000000000)(i:Nat)(hi:i<k.jZ.length)(p:zk)(v:Nat)(hp:-1<=p.lane/\0<=p.hi/\p.hi<=1000000) :
  (zer m p k.jZ[i]=0->Y L Cs zTe (some [62,61,7,2,63]) 4 (ckE k i) (ckM m k v p)=Y L Cs zTe (some [62,61,7,2,63]) 4 (ckE k (i+1)) (ckM m k (v+1) k.jZ[i])) /\
  (zer m p k.jZ[i]≠0->Y L Cs zTe (some [62,61,7,2,63]) 4 (ckE k i) (ckM m k v p)=some (.ret,[(4,.w (W (zer m p k.jZ[i])))],ckM m k v p++[bxv 1 6 (ze k.jZ[i])])):=by
 have hw:=zB (i:=i) wA;generalize hb:k.jZ[i]=b;obtain⟨bl,lo,hi',vlo,vhi,hold⟩:=b;have hpw:=qB (p.hi+1);by_cases c1:bl<0
 ·have e:zer m p ⟨bl,lo,hi',vlo,vhi,hold⟩=7:=by simp[zer,c1]
  rw[e];refine⟨fun h=>(by cases h),fun _=>?_⟩;rw[ZfM zTe.eq_1];simp[hi,hb,ze,c1]
 by_cases c2:(m.jd.length:Int)<=bl
 ·have e:zer m p ⟨bl,lo,hi',vlo,vhi,hold⟩=7:=by simp[zer,c2]
  rw[e];refine⟨fun h=>(by cases h),fun _=>?_⟩;rw[ZfM zTe.eq_1];simp[hi,hb,ze,c1,c2,zf]
 obtain⟨n,rfl⟩:=jA (show 0<=bl by omega);have hn:n<m.jd.length:=wA
 have hL:=zrQ h hn;have hB:=zmo (h.kind _ (jf hn));have eL:z8 m (n:Int)=m.jd[n].len:=by simp[z8,hn]
 have eK:zaK m (n:Int)=m.jd[n].kind:=by simp[zaK,hn]
 have hl1:=h.Cf _ (jf hn);have hW:=ziC hold 0 m.jd[n].len;generalize Ad:m.jd[n]=ln at *;simp only[zf]at hL;have c1':¬((n:Int)<0):=wA
 have Ct:Ay m ⟨(n:Int),lo,hi',vlo,vhi,hold⟩->zer m p ⟨(n:Int),lo,hi',vlo,vhi,hold⟩=2:=fun ho=>by
  unfold zer;rw[if_neg (by simp;omega),if_pos ho]
 by_cases d1:lo<0
 ·have e:=Ct (by simp only[Ay,eL,eK];omega);rw[e];refine⟨fun h=>(by cases h),fun _=>?_⟩;rw[ZfM zTe.eq_1];simp[hi,hb,ze,c1',c2,hn,Ad,zf,zo,zG,hL,hB,hW,d1]
 by_cases d2:hi'<lo
 ·have e:=Ct (by simp only[Ay,eL,eK];omega);rw[e];refine⟨fun h=>(by cases h),fun _=>?_⟩;rw[ZfM zTe.eq_1];simp[hi,hb,ze,c1',c2,hn,Ad,zf,zo,zG,hL,hB,hW,d1,d2]
 by_cases d3:ln.len<hi'
 ·have e:=Ct (by simp only[Ay,eL,eK];omega);rw[e];refine⟨fun h=>(by cases h),fun _=>?_⟩;rw[ZfM zTe.eq_1];simp[hi,hb,ze,c1',c2,hn,Ad,zf,zo,zG,hL,hB,hW,d1,d2,d3]
 by_cases d4:vlo<0
 ·have e:=Ct (by simp only[Ay,eL,eK];omega);rw[e];refine⟨fun h=>(by cases h),fun _=>?_⟩;rw[ZfM zTe.eq_1];simp[hi,hb,ze,c1',c2,hn,Ad,zf,zo,zG,hL,hB,hW,d1,d2,d3,d4]
 by_cases d5:vhi<vlo
 ·have e:=Ct (by simp only[Ay,eL,eK];omega);rw[e];refine⟨fun h=>(by cases h),fun _=>?_⟩;rw[ZfM zTe.eq_1];simp[hi,hb,ze,c1',c2,hn,Ad,zf,zo,zG,hL,hB,hW,d1,d2,d3,d4,d5]
 by_cases d6:zeR ln.kind<vhi
 ·have e:=Ct (by simp only[Ay,eL,eK];omega);rw[e];refine⟨fun h=>(by cases h),fun _=>?_⟩;rw[ZfM zTe.eq_1];simp[hi,hb,ze,c1',c2,hn,Ad,zf,zo,zG,hL,hB,hW,d1,d2,d3,d4,d5,d6]
 by_cases d7:hold<0
 ·have e:=Ct (by simp only[Ay,eL,eK];omega);rw[e];refine⟨fun h=>(by cases h),fun _=>?_⟩;rw[ZfM zTe.eq_1];simp[hi,hb,ze,c1',c2,hn,Ad,zf,zo,zG,hL,hB,hW,d1,d2,d3,d4,d5,d6,d7]
 by_cases d8:ln.len<hold
 ·have e:=Ct (by simp only[Ay,eL,eK];omega);rw[e];refine⟨fun h=>(by cases h),fun _=>?_⟩;rw[ZfM zTe.eq_1];simp[hi,hb,ze,c1',c2,hn,Ad,zf,zo,zG,hL,hB,hW,d1,d2,d3,d4,d5,d6,d7,d8]
 have e0:¬Ay m ⟨(n:Int),lo,hi',vlo,vhi,hold⟩:=by simp only[Ay,eL,eK];omega
 have g1:(0:Int)<=hold:=wA
 have g2:hold<=ln.len:=wA
 by_cases o1:(n:Int)<p.lane
 ·have e:zer m p ⟨(n:Int),lo,hi',vlo,vhi,hold⟩=11:=by
   unfold zer;rw[if_neg (by simp;omega),if_neg e0,if_pos (by unfold zmM;simp;omega)]
  rw[e];refine⟨fun h=>(by cases h),fun _=>?_⟩;rw[ZfM zTe.eq_1];simp[hi,hb,ze,c1',c2,hn,Ad,zf,zo,zG,hL,hB,hW,d1,d2,d3,d4,d5,d6,d7,d8,g1,g2,o1]
 by_cases o2:(n:Int)=p.lane
 ·have o2':p.lane=(n:Int):=o2.symm;by_cases o3:lo<=p.hi+1
  ·have e:zer m p ⟨(n:Int),lo,hi',vlo,vhi,hold⟩=11:=by
    unfold zer;rw[if_neg (by simp;omega),if_neg e0,if_pos (by unfold zmM;simp;omega)]
   rw[e];refine⟨fun h=>(by cases h),fun _=>?_⟩;rw[ZfM zTe.eq_1];simp[hi,hb,ze,c1',c2,hn,Ad,zf,zo,zG,hL,hB,hW,d1,d2,d3,d4,d5,d6,d7,d8,g1,g2,o2',o3,hpw]
  ·have e:zer m p ⟨(n:Int),lo,hi',vlo,vhi,hold⟩=0:=by
    unfold zer;rw[if_neg (by simp;omega),if_neg e0,if_neg (by unfold zmM;simp;omega)]
   rw[e];refine⟨fun _=>?_,fun h=>(absurd rfl h)⟩;rw[ZfM zTe.eq_1];simp[hi,hb,ze,c1',c2,hn,Ad,zf,zo,zG,hL,hB,hW,d1,d2,d3,d4,d5,d6,d7,d8,g1,g2,o2',o3,hpw,hw,ckE,ckM]
 ·have e:zer m p ⟨(n:Int),lo,hi',vlo,vhi,hold⟩=0:=by
   unfold zer;rw[if_neg (by simp;omega),if_neg e0,if_neg (by unfold zmM;simp;omega)]
  rw[e];have b2:((n:Int)==p.lane)=false:=by simp[o2]
  refine⟨fun _=>?_,fun h=>(absurd rfl h)⟩;rw[ZfM zTe.eq_1];simp[hi,hb,ze,c1',c2,hn,Ad,zf,zo,zG,hL,hB,hW,d1,d2,d3,d4,d5,d6,d7,d8,g1,g2,o1,o2,b2,hw,ckE,ckM]
end
abbrev zsa:Int:=1099511627776
def ziI(k:zci):Prop:=k.tick<0\/zsa<k.tick\/k.ego.slo<0\/k.ego.shi<k.ego.slo\/zsa<k.ego.shi\/k.ego.vlo<0\/k.ego.vhi<k.ego.vlo\/2000<k.ego.vhi
instance(k:zci):Decidable (ziI k):=by unfold ziI;infer_instance
def zdf(m:zD)(k:zci):Int:=if ziI k then 2 else zls m zqY k.jZ
def zui{m:zD}(h:zcp m){p b:zk}(hc:zer m p b=0):0<=b.lane/\b.lane<m.jd.length/\0<=b.lo/\b.lo<=b.hi/\b.hi<=z8 m b.lane/\0<=b.vlo/\b.vlo<=b.vhi/\b.vhi<=zeR (zaK m b.lane)/\0<=b.hold/\b.hold<=z8 m b.lane/\z8 m b.lane<=1000000/\¬zmM p b:=by
 unfold zer at hc;split at hc
 ·cases hc
 rename_i h1;split at hc
 ·cases hc
 rename_i h2;split at hc
 ·cases hc
 rename_i h3;unfold Ay at h2;obtain⟨n,hn⟩:=jA (show 0<=b.lane by omega);have hl:n<m.jd.length:=wA
 have hl1:=h.Cf _ (jf hl);have e:z8 m b.lane=m.jd[n].len:=by rw[hn];simp[z8,hl]
 refine⟨wA,wA,wA,wA,wA,wA,wA,wA,wA,wA,wA,h3⟩
def zw9{m:zD}(h:zcp m)(k:zci)(hk:k.jZ.length<=100000000000):∀(r:List zk) (i:Nat) (p:zk) (v:Nat),k.jZ.drop i=r->i<=k.jZ.length->(-1<=p.lane/\0<=p.hi/\p.hi<=1000000) ->
  ∃M' E',Y L Cs zTe (some [62,61,7,2,63]) 4 (ckE k i) (ckM m k v p)=some (if zls m p r=0 then(.exit 0,E',M') else(.ret,[(4,.w (W (zls m p r)))],M')):=by
 intro r;induction r with
 |nil =>
  intro i p v hd hi hp;obtain rfl:=zUb hd hi;refine⟨ckM m k v p,[(64,.w (Bo false)),(2,.w (Pt 0)),(7,.w (Pt 3)),(61,.w (.c (.jb (zI k.jZ)))),(62,.w (W k.jZ.length)),(63,.w (W k.jZ.length))],?_⟩;rw[ZfM zTe.eq_1];simp[zls]
 |cons b r ih =>
  intro i p v hd hi hp;obtain⟨hil,hb,hd'⟩:=zL hd;obtain⟨s1,s2⟩:=zw8 h k hk i hil p v hp;rw[hb]at s1 s2;by_cases hc:zer m p b=0
  ·have ho:=zui h hc;obtain⟨M',E',h4⟩:=ih (i+1) b (v+1) hd' hil wA;refine⟨M',E',?_⟩;rw[s1 hc,h4];simp[zls,hc]
  ·refine⟨ckM m k v p++[bxv 1 6 (ze b)],[],?_⟩;rw[s2 hc];simp[zls,hc]
def zuu{m:zD}(h:zcp m)(k:zci)(hk:k.jZ.length<=100000000000):R L Cs zsg [.a (zf m),.a (zG k)] []=some (.w (W (zdf m k)),[]):=by
 have hck:=h.chk;obtain⟨M',E',hl⟩:=zw9 h k hk k.jZ 0 zqY 1 rfl (jr _) wC;have hW:=ziC k.tick 0 zsa;simp only[ckE,ckM,zf,zG,ze,jg,bx,bxv,zch]at hl hck;rw[zUa zss rfl];by_cases d1:k.tick<0
 ·have e:zdf m k=2:=by rw[zdf,if_pos (by unfold ziI;omega)]
  have d1':¬(0:Int)<=k.tick:=wA
  simp[zbJ,zf,zG,hck,hW,e,d1,d1']
 by_cases d2:zsa<k.tick
 ·have e:zdf m k=2:=by rw[zdf,if_pos (by unfold ziI;omega)]
  have d2':¬k.tick<=zsa:=wA
  simp[zbJ,zf,zG,hck,hW,e,d1,d2,d2']
 have g1:(0:Int)<=k.tick:=wA
 have g2:k.tick<=zsa:=wA
 by_cases d3:k.ego.slo<0
 ·have e:zdf m k=2:=by rw[zdf,if_pos (by unfold ziI;omega)]
  simp[zbJ,zf,zG,hck,hW,e,d1,d2,g1,g2,d3]
 by_cases d4:k.ego.shi<k.ego.slo
 ·have e:zdf m k=2:=by rw[zdf,if_pos (by unfold ziI;omega)]
  simp[zbJ,zf,zG,hck,hW,e,d1,d2,g1,g2,d3,d4]
 by_cases d5:zsa<k.ego.shi
 ·have e:zdf m k=2:=by rw[zdf,if_pos (by unfold ziI;omega)]
  simp[zbJ,zf,zG,hck,hW,e,d1,d2,g1,g2,d3,d4,d5]
 by_cases d6:k.ego.vlo<0
 ·have e:zdf m k=2:=by rw[zdf,if_pos (by unfold ziI;omega)]
  simp[zbJ,zf,zG,hck,hW,e,d1,d2,g1,g2,d3,d4,d5,d6]
 by_cases d7:k.ego.vhi<k.ego.vlo
 ·have e:zdf m k=2:=by rw[zdf,if_pos (by unfold ziI;omega)]
  simp[zbJ,zf,zG,hck,hW,e,d1,d2,g1,g2,d3,d4,d5,d6,d7]
 by_cases d8:2000<k.ego.vhi
 ·have e:zdf m k=2:=by rw[zdf,if_pos (by unfold ziI;omega)]
  simp[zbJ,zf,zG,hck,hW,e,d1,d2,g1,g2,d3,d4,d5,d6,d7,d8]
 have e:zdf m k=zls m zqY k.jZ:=by rw[zdf,if_neg (by unfold ziI;omega)]
 rw[e];by_cases hz:zls m zqY k.jZ=0
 ·rw[if_pos hz]at hl;rw[hz];simp[zbJ,zf,zG,hck,hW,hl,d1,d2,g1,g2,d3,d4,d5,d6,d7,d8,-leave];exact zid rfl rfl
 ·rw[if_neg hz]at hl;simp[zbJ,zf,zG,hck,hW,hl,d1,d2,g1,g2,d3,d4,d5,d6,d7,d8,-leave];exact zid rfl rfl
abbrev fn1(f:Nat):WV:=.c (.fn f [] [])
abbrev bad(b:zk):Bool:=decide (b.hi<b.lo)
abbrev blk(v:Nat)(l:List zk):Option Blk:=some { box:=false,esz:=6,rows:=zI l,gen:=l.length,fz:=false,ver:=v }
def zeg(l:List zk)(i:Nat)(b:zk):(zI l).set i (ze b)=zI (l.set i b):=by simp[zI,List.map_set]
def zwT(l:List zk)(hl:l.length<=900000000000):Y L Cs zbF (some [7,1,0,8]) 0 [(7,.w (W l.length)),(1,.w (fn1 zct)),(0,.w (.c (.jb (zI l)))),(8,.w (W (0:Nat)))] [] =
  some (match l.findIdx? bad with |some i=>(.ret,[(4,.w (W i))],[]) |none=>(.exit 0,[(9,.w (Bo false)),(0,.w (.c (.jb (zI l)))),(1,.w (fn1 zct)),(7,.w (W l.length)),(8,.w (W l.length))],[])):=by
 refine zxf l (fun i=>[(7,.w (W l.length)),(1,.w (fn1 zct)),(0,.w (.c (.jb (zI l)))),(8,.w (W i))]) _ _ _ _ ?_ ?_ ?_
 ·intro i h hp;have hw:=zB (i:=i) wA;have hc:=zrR l[i];simp only[bad]at hp;rw[hp]at hc;simp only[ze]at hc;rw[ZfM zbF.eq_1];simp[h,hw,hc,ze]
 ·intro i h hp;have hc:=zrR l[i];simp only[bad]at hp;rw[hp]at hc;simp only[ze]at hc;rw[ZfM zbF.eq_1];simp[h,hc,ze]
 ·rw[ZfM zbF.eq_1];simp
def zbe:Option Nat->Int
 |some i=>i
 |none=>-1
def zvV(l:List zk)(hl:l.length<=900000000000):R L Cs zjK [.c (.jb (zI l)),fn1 zct] []=some (.w (W (zbe (l.findIdx? bad))),[]):=by
 have h:=zwT l hl;simp only[jg]at h;rw[zUa zj5 rfl];cases hf:l.findIdx? bad with
 |none =>
  simp only[hf]at h;simp[zc2,h,zbe]
 |some i =>
  simp only[hf]at h;simp[zc2,h,zbe]
def zvq(n:Nat)(hn:n<=900000000000):∀(r:List zk) (l:List zk) (i j v:Nat),l.length=n->l.drop j=r->i<j->j<=n->∃l' i' v',v<=v'/\(v'=v->l'=l)/\l'.length=n/\i'<=n/\l'.take i'=l.take i++r.filter (fun b=>!bad b) /\
  Y L Cs zbw (some [5,6,1,0]) 2 [(5,.w (W i)),(6,.w (W j)),(1,.w (fn1 zct)),(0,.w (.c (.slice 0 n 6 0 n none)))] [blk v l,gb 6] =
    some (.exit 0,[(19,.w (Bo false)),(5,.w (W i')),(6,.w (W n)),(1,.w (fn1 zct)),(0,.w (.c (.slice 0 n 6 0 n none)))],[blk v' l',gb 6]):=by
 intro r;induction r with
 |nil =>
  intro l i j v hl hd hij hj;obtain rfl:=zUb hd wA;refine⟨l,i,v,jm _,fun _=>rfl,hl,wA,wD,?_⟩;rw[ZfM zbw.eq_1];simp[hl]
 |cons x r ih =>
  intro l i j v hl hd hij hj;obtain⟨hjl,hx,hd'⟩:=zL hd;have hw:=zB (i:=j) wA;have hw2:=zB (i:=i) wA;have hc:=zrR x;have hjn:j<n:=wA
  have hin:i<n:=wA
  by_cases hb:x.hi<x.lo
  ·obtain⟨l',i',v',g1,g2,h1,h2,h3,h4⟩:=ih l i (j+1) v hl hd' wA wA;refine⟨l',i',v',g1,g2,h1,h2,by simp[h3,hb],?_⟩;rw[<-h4,ZfM zbw.eq_1];simp[hb,ze]at hc;simp[hl,hjl,hjn,hx,hc,hw,ze]
  ·obtain⟨l',i',v',g1,g2,h1,h2,h3,h4⟩:=ih (l.set i x) (i+1) (j+1) (v+1) (by simp[hl]) (by rw[List.drop_set_of_lt wA];exact hd') wA wA;have ht:(l.set i x).take (i+1)=l.take i++[x]:=by
    rw[kU (by simp;omega),List.take_set_of_le (jm _)];simp
   refine⟨l',i',v',wA,fun hv=>wA,h1,h2,by rw[h3,ht];simp[hb],?_⟩;rw[<-h4,ZfM zbw.eq_1];simp[hb,ze]at hc;have hs:=zeg l i x;simp only[ze]at hs;simp[hl,hjl,hjn,hin,hx,hc,hw,hw2,hs,ze,blk]
abbrev z9:zk:=⟨0,0,0,0,0,0⟩
@[simp] def zCd(l:List zk)(k:Nat):(zI l).take k=zI (l.take k):=by simp[zI,ym]
@[simp] def zCx(l:List zk)(k:Nat):(zI l).drop k=zI (l.drop k):=by simp[zI,List.map_drop]
@[simp] def zCv(k:Nat):List.replicate k [I 0,I 0,I 0,I 0,I 0,I 0]=zI (List.replicate k z9):=by simp[zI,ze]
def zuw(l:List zk)(v:Nat)(hn:l.length<=900000000000):∃l' v',v<=v'/\(v'=v->l'=l)/\l'.length=l.length/\(l.filter (fun b=>!bad b)).length<=l.length/\l'.take (l.filter (fun b=>!bad b)).length=l.filter (fun b=>!bad b) /\
  R L Cs zjk [.c (.slice 0 l.length 6 0 l.length none),fn1 zct] [blk v l]=some (.w (.c (.slice 0 l.length 6 0 (l.filter (fun b=>!bad b)).length none)),[blk v' l']):=by
 have hi:=zvV l hn;rw[zUa zjx rfl];cases hf:l.findIdx? bad with
 |none =>
  have ve:∀b∈l,bad b=false:=fun b hb=>qM.1 hf b hb
  have hfil:l.filter (fun b=>!bad b)=l:=vu.2 fun b hb=>by rw[ve b hb];rfl
  refine⟨l,v,jm _,fun _=>rfl,rfl,by rw[hfil];exact jm _,by rw[hfil];simp,?_⟩;rw[hfil];simp only[hf,zbe]at hi;simp[zb6,hi,zX]
 |some k =>
  obtain⟨hk,hbk,Co⟩:=j6.1 hf;obtain⟨l',i',v',g1,g2,h1,h2,h3,h4⟩:=zvq l.length hn (l.drop (k+1)) l k (k+1) v rfl rfl wA hk;have hpre:l.filter (fun b=>!bad b)=l.take k++(l.drop (k+1)).filter (fun b=>!bad b):=by
   conv=>lhs;rw[<-ki k l,List.filter_append,jv hk,uh]
   rw[if_neg (by simp[hbk])]
   congr 1
   refine vu.2 fun b hb=>?_
   obtain⟨j,hj,rfl⟩:=uy hb;simp at hj;have:=Co j wA;simpa using this
  rw[<-hpre]at h3;have hlen:(l.filter (fun b=>!bad b)).length=i':=by rw[<-h3];simp;omega
  have hw:=zB (i:=k) wA;simp only[hf,zbe]at hi;refine⟨if l.length-i'=0 then l' else l'.take i'++List.replicate (l.length-i') z9++l'.drop (i'+(l.length-i')),if l.length-i'=0 then v' else v'+1,by split<;>omega,fun hv=>?_,?_,wA,?_,?_⟩
  ·split at hv
   ·rename_i h0;rw[if_pos h0];exact g2 hv
   ·omega
  ·split
   ·exact h1
   ·simp;omega
  ·rw[hlen,h3.symm];split
   ·rfl
   ·rw[jM,uJ (by simp;omega)];rw[AH,Nat.min_self]
  ·rw[hlen];have hne:((k:Int) == -1)=false:=wD
   have hi0:(0:Int)<=i'/\(i':Int)<=(l.length:Int):=wA
   have hil:i'+(l.length-i')<=l'.length:=wA
   simp only[jt,kg,blk]at h4;by_cases h0:l.length-i'=0
   ·simp[zb6,hi,zX,hne,hw,h4,h0,h2,hi0,h1,blk,zgI,zcl]
   ·simp[zb6,hi,zX,hne,hw,h4,h0,h2,hi0,h1,hil,zgI,zcl,blk]
def bub(l:List zk):Nat->List zk
 |0=>l
 |j+1=>if ziK (l.getD (j+1) z9) (l.getD j z9)<0 then bub ((l.set (j+1) (l.getD j z9)).set j (l.getD (j+1) z9)) j else l
def zq4(l:List zk)(i:Nat):Nat->List zk
 |0=>l
 |m+1=>zq4 (bub l i) (i+1) m
def zeM(a b:zk):zk:=⟨a.lane,min a.lo b.lo,max a.hi b.hi,min a.vlo b.vlo,max a.vhi b.vhi,if a.hold=0\/b.hold=0 then 0 else max a.hold b.hold⟩
def zCU(a b:zk):R L Cs zsi [.a (ze a),.a (ze b)] []=some (.w (.a (ze (zeM a b))),[]):=by
 rw[zUa zsw rfl];by_cases h1:a.hold=0
 ·simp[zfO,ze,zeM,h1]
 ·have b1:(a.hold==0)=false:=by simp[h1]
  by_cases h2:b.hold=0
  ·simp[zfO,ze,zeM,h1,h2,b1]
  ·have b2:(b.hold==0)=false:=by simp[h2]
   simp[zfO,ze,zeM,h1,h2,b1,b2]
def meets(a b:zk):Bool:=decide (a.lane=b.lane)&&(decide (b.lo<=a.hi)||decide (b.lo-1=a.hi))
def zaQ(out:List zk)(b:zk):List zk :=
 if 0<out.length/\meets (out.getD (out.length-1) z9) b=true then out.set (out.length-1) (zeM (out.getD (out.length-1) z9) b) else out++[b]
structure OKB(b:zk):Prop where
 lo1:-9223372036854775808<=b.lo
 lo2:b.lo<=9223372036854775807
 hi1:-9223372036854775808<=b.hi
 hi2:b.hi<=9223372036854775807
theorem zBI{a b:zk}(ha:OKB a)(hb:OKB b):OKB (zeM a b):=⟨by simp[zeM];have:=ha.lo1;have:=hb.lo1;omega,by simp[zeM];have:=ha.lo2;grind,by simp[zeM];have:=ha.hi1;grind,by simp[zeM];have:=ha.hi2;have:=hb.hi2;omega⟩
def zva{out:List zk}{b:zk}(h:∀x∈out,OKB x)(hb:OKB b):∀x∈zaQ out b,OKB x:=by
 grind [zaQ,List.mem_or_eq_of_mem_set,zBI,List.getElem?_eq_getElem,List.getElem_mem]
def zt3(out:List zk)(b:zk):(zaQ out b).length<=out.length+1:=by
 grind [zaQ]
def zyO(S:List zk)(k:Nat)(hk:k<=900000000000)(hS:k<=S.length)(v:Nat)(hok:∀x∈S.take k,OKB x):∀(r:List zk) (i:Nat) (out:List zk) (w:Nat),(S.take k).drop i=r->i<=k->out.length<=i->(∀x∈out,OKB x)->∃w',
  Y L Cs zfv (some [15,14,13,4]) 3 [(15,.w (W i)),(14,.w (W k)),(13,.w (.c (.slice 1 S.length 6 0 k none))),(4,.w (.c (.slice 2 out.length 6 0 out.length none)))] [gb 6,blk v S,blk w out] =
    some (.exit 0,[(16,.w (Bo false)),(15,.w (W k)),(14,.w (W k)),(13,.w (.c (.slice 1 S.length 6 0 k none))),(4,.w (.c (.slice 2 (r.foldl zaQ out).length 6 0 (r.foldl zaQ out).length none)))],[gb 6,blk v S,blk w' (r.foldl zaQ out)]):=by
 intro r;induction r with
 |nil =>
  intro i out w hd hi ho hoo;have:i=k:=by
   have:=zUb hd (by simp;omega);simp at this;omega
  subst this;refine⟨w,?_⟩;rw[ZfM zfv.eq_1];simp
 |cons b r ih =>
  intro i out w hd hi ho hoo;obtain⟨hil,hb,hd'⟩:=zL hd;simp at hil hb;have hik:i<k:=wA
  have hiS:i<S.length:=wA
  have hbok:OKB b:=hok b (qp (i:=i) (by rw[hd];exact js));have hw:=zB (i:=i) wA;obtain⟨w',h4⟩:=ih (i+1) (zaQ out b) (if 0<out.length/\meets (out.getD (out.length-1) z9) b=true then w+1 else w+1) hd' hik (by have:=zt3 out b;omega) (zva hoo hbok);refine⟨w',?_⟩;rw[j8,<-h4,ZfM zfv.eq_1];have kA:(out.length+1)*48<=140737488355328:=wA
  by_cases h0:out.length=0
  ·have e:out=[]:=kc.1 h0;subst e;simp[zaQ,hik,hiS,hb,hw,ze,blk]
  have hp:0<out.length:=wA
  have hp':(0:Int)<(out.length:Int):=wA
  have yz:out.length-1<out.length:=wA
  have e1:out.getD (out.length-1) z9=out[out.length-1]:=by simp[yz]
  have hw1:=qB ((out.length:Int)-1);have i1:(1:Int)<=(out.length:Int):=wA
  have i2:(out.length:Int)-1<(out.length:Int):=wA
  have i3:((out.length:Int)-1).toNat=out.length-1:=wA
  have aok:OKB out[out.length-1]:=hoo _ (jf _);have hc:=zCU out[out.length-1] b;rw[zaQ,e1];generalize ha:out[out.length-1]=a at *;have hs:=zeg out (out.length-1) (zeM a b);simp only[ze]at hc hs;by_cases h2:a.lane=b.lane
  ·rw[h2]at hc;by_cases h3:b.lo<=a.hi
   ·have hm:meets a b=true:=by simp[meets,h2,h3]
    simp[hm,hik,hiS,hb,hw,ze,blk,hp,hp',hw1,i1,i2,i3,yz,ha,h2,h3,hc,hs]
   ·have hw2:IntKind.i64.wrap (b.lo-1)=b.lo-1:=zTd _ (by have:=aok.hi1;omega) (by have:=hbok.lo2;omega);by_cases h5:b.lo-1=a.hi
    ·have hm:meets a b=true:=by simp[meets,h2,h5]
     have hw3:IntKind.i64.wrap a.hi=a.hi:=zTd _ aok.hi1 aok.hi2;simp[hw3,hm,hik,hiS,hb,hw,ze,blk,hp,hp',hw1,i1,i2,i3,yz,ha,h2,h3,hc,hs,hw2,h5]
    ·have hm:meets a b=false:=by simp[meets,h2,h3,h5]
     have b5:(b.lo-1==a.hi)=false:=by simp[h5]
     simp[hm,hik,hiS,hb,hw,ze,blk,hp,hp',hw1,i1,i2,i3,yz,ha,h2,h3,hw2,h5,b5,kA]
  ·have hm:meets a b=false:=by simp[meets,h2]
   have b2:(a.lane==b.lane)=false:=by simp[h2]
   simp[hm,hik,hiS,hb,hw,ze,blk,hp,hp',hw1,i1,i2,i3,yz,ha,h2,b2,kA]
def zzs(l:List zk):List zk:=zq4 l 1 (l.length-1)
def zAj(l:List zk):List zk:=(zzs (l.filter fun b=>!bad b)).foldl zaQ []
def ltB(a b:zk):Bool:=decide (a.lane<b.lane)||(decide (a.lane=b.lane)&&decide (a.lo<b.lo))
def znX(a b:zk):(ziK a b<0)<->ltB a b=true:=by
 unfold ziK ltB zgQ;by_cases h1:a.lane<b.lane
 ·simp[h1]
 ·by_cases h2:b.lane<a.lane
  ·have h3:¬a.lane=b.lane:=wA
   simp[h1,h2,h3]
  ·have h3:a.lane=b.lane:=wA
   by_cases h4:a.lo<b.lo
   ·simp[h3,h4]
   ·by_cases h5:b.lo<a.lo
    ·simp[h3,h4,h5]
    ·simp[h3,h4,h5]
def zev(x:zk)(s:List zk):Nat->Nat
 |0=>0
 |a+1=>if ltB x (s.getD a z9)=true then zev x s a else a+1
def zl0(x:zk)(s:List zk):∀a,zev x s a<=a
 |0=>jm _
 |a+1=>by unfold zev;split;exact qU (zl0 x s a);exact jm _
def zfK(s:List zk)(x:zk):List zk:=s.take (zev x s s.length)++x::s.drop (zev x s s.length)
theorem zn4(s:List zk)(x:zk):(zfK s x).length=s.length+1:=by
 have:=zl0 x s s.length;simp[zfK];omega
def zb5(s:List zk)(x:zk):List zk:=if bad x=true then s else zfK s x
def glue(a b:zk):zk:=⟨b.lane,a.lo,max a.hi b.hi,min a.vlo b.vlo,max a.vhi b.vhi,if a.hold=0\/b.hold=0 then 0 else max a.hold b.hold⟩
def far(a b:zk):Bool:=!decide (a.lane=b.lane)||(decide (a.hi<b.lo)&&decide (a.hi<b.lo-1))
def zcP(out:List zk)(b:zk):List zk :=
 if 0<out.length/\far (out.getD (out.length-1) z9) b=false then out.set (out.length-1) (glue (out.getD (out.length-1) z9) b) else out++[b]
def zn6(out:List zk)(b:zk):(zcP out b).length<=out.length+1:=by
 unfold zcP;split<;>simp
theorem zAm{s:List zk}{x y:zk}:y∈zfK s x<->y=x\/y∈s:=by
 grind [zfK,zev,List.take_append_drop]
def zuL:∀(l s:List zk) (y:zk),y∈l.foldl zb5 s->y∈l\/y∈s
 |[],s,y,h=>.inr h
 |x::l,s,y,h=>by
  rcases zuL l (zb5 s x) y h with h|h
  ·grind
  grind [zb5,zAm,List.mem_cons_self]
def zqq:∀(l s:List zk),(l.foldl zb5 s).length<=l.length+s.length
 |[],s=>wD
 |x::l,s=>by
  have h:=zqq l (zb5 s x);have h2:(zb5 s x).length<=s.length+1:=by grind [zb5,zn4]
  grind
def zcz(l:List zk):List zk:=(l.foldl zb5 []).foldl zcP []
def leB(a b:zk):Prop:=a.lane<b.lane\/(a.lane=b.lane/\a.lo<=b.lo)
theorem zqc(a b:zk):leB a b<->¬ltB b a=true:=by
 grind [leB,ltB]
theorem zfs{a b c:zk}(h1:leB a b)(h2:leB b c):leB a c:=by grind [leB]
def zxy{a b:zk}(h:ltB a b=true):leB a b:=by grind [leB,ltB]
def zn5(x:zk)(t u:List zk):∀a,a<=t.length->zev x (t++u) a=zev x t a
 |0,_=>rfl
 |a+1,h=>by
  have e:(t++u).getD a z9=t.getD a z9:=by grind
  unfold zev;rw[e,zn5 x t u a wA]
def zup(x:zk):∀(n:Nat) (s r:List zk),s.length=n->bub (s++x::r) n=zfK s x++r
 |0,s,r,h=>by
  grind [List.length_eq_zero_iff,bub,zfK,zev]
 |n+1,s,r,h=>by
  rcases uV s with e |⟨t,y,e⟩
  ·grind
  ·rw[yh]at e;subst e;have ht:t.length=n:=by grind
   subst ht;have e1:(t++[y]++x::r).getD (t.length+1) z9=x:=by simp[jG]
   have e2:(t++[y]++x::r).getD t.length z9=y:=by grind
   have e3:((t++[y]++x::r).set (t.length+1) y).set t.length x=t++x::(y::r):=wD
   rw[bub,e1,e2,e3];have e4:zev x (t++[y]) (t.length+1)=if ltB x y=true then zev x t t.length else t.length+1:=by
    simp[zev,z9,jG,zn5,jm]
   by_cases hc:ziK x y<0
   ·have hl:=(znX x y).1 hc;rw[if_pos hc,zup x t.length t (y::r) rfl]
    simp_all [zl0,zfK,jF,jl,jp,jJ,if_pos,uJ,List.drop_append_of_le_length]
   simp_all [ltB,znX,if_neg,zfK,jF,jl,jp,jJ,jx,ub]
theorem zvc:∀(r s:List zk),zq4 (s++r) s.length r.length=r.foldl zfK s
 |[],s=>by simp[zq4]
 |x::r,s=>by
  rw[jl,zq4,zup x s.length s r rfl,j8];have h:=zvc r (zfK s x)
  grind [zn4]
def zsN(l:List zk):zzs l=l.foldl zfK []:=by
 cases l with
 |nil=>rfl
 |cons x r =>
  grind [zvc,List.length_cons,List.length_nil,List.singleton_append,zzs,Nat.add_sub_cancel,zfK,zev]
def zpi:∀(l s:List zk),l.foldl zb5 s=(l.filter fun b=>!bad b).foldl zfK s
 |[],s=>rfl
 |x::l,s=>by
  rw[j8,zpi l,uh];cases h:bad x with
  |true=>simp[zb5,h]
  |false=>simp[zb5,h]
def zpu(x:zk)(s:List zk):∀a,a<=s.length->∀i,zev x s a<=i->i<a->ltB x (s.getD i z9)=true
 |0,_,i,_,h=>wA
 |a+1,ha,i,h1,h2=>by
  unfold zev at h1;split at h1
  ·rcases qG i a with h3|h3
   ·exact zpu x s a wA i h1 h3
   grind
  grind
def zpt(x:zk)(s:List zk):∀a,0<zev x s a->ltB x (s.getD (zev x s a-1) z9)=false
 |0,h=>by grind [zev]
 |a+1,h=>by
  unfold zev at h ⊢;split at h
  ·rename_i h1;rw[if_pos h1];exact zpt x s a h
  grind
def zvd(s:List zk)(x:zk)(h:s.Pairwise leB):(zfK s x).Pairwise leB:=by
 unfold zfK;have hab:=zpu x s s.length (jm _);have hbe:=zpt x s s.length;have hle:=zl0 x s s.length;generalize zev x s s.length=a at *;have hs:=vn.1 h;have hx1:∀y∈s.take a,leB y x:=by
  intro y hy;obtain⟨i,hi,rfl⟩:=uy hy
  grind [leB,zqc,Nat.lt_or_ge,zfs]
 have hx2:∀y∈s.drop a,leB x y:=by
  intro y hy;obtain⟨i,hi,rfl⟩:=uy hy
  simp_all [List.getElem_drop,z9,zxy]
 have hsp:(s.take a++s.drop a).Pairwise leB:=by simp_all
 rw[kE]at hsp ⊢
 simp_all
def ziR:∀(l s:List zk),s.Pairwise leB->(l.foldl zfK s).Pairwise leB
 |[],s,h=>h
 |x::l,s,h=>ziR l _ (zvd s x h)
def zoI(a b:zk):meets a b = !far a b:=by
 grind [meets,far]
def zxD:∀(l out:List zk),l.Pairwise leB->(0<out.length->∀b∈l,leB (out.getD (out.length-1) z9) b)->l.foldl zaQ out=l.foldl zcP out
 |[],out,_,_=>rfl
 |b::l,out,h,ho=>by
  rw[jX]at h;have hst:zaQ out b=zcP out b:=by
   unfold zaQ zcP;rw[zoI];by_cases hc:0<out.length/\far (out.getD (out.length-1) z9) b=false
   ·have hle:=ho hc.1 b js;generalize out.getD (out.length-1) z9=a at *;have hm:=zoI a b
    grind [meets,leB,zeM,glue,min]
   grind
  rw[j8,j8,hst];refine zxD l _ h.2 fun hp c hcm=>?_
  unfold zcP;split
  ·rename_i hcc;have h1:=ho hcc.1 b js;generalize out.getD (out.length-1) z9=a at *;have:leB (glue a b) b:=by unfold leB glue;unfold leB at h1;have:=zoI a b;grind [meets]
   grind [zfs]
  grind
def zAh(l:List zk):zAj l=zcz l:=by
 simp[zAj,zcz,zsN,zpi,zxD,ziR]
def zoc(a b:zk):zbM [false,false,false,false,false,false] (ze a) (ze b)=some (decide (a=b)):=by
 obtain⟨a1,a2,a3,a4,a5,a6⟩:=a;obtain⟨b1,b2,b3,b4,b5,b6⟩:=b;simp only[ze,zbM,zue,if_true];by_cases h1:a1=b1<;>by_cases h2:a2=b2<;>by_cases h3:a3=b3<;>by_cases h4:a4=b4<;>by_cases h5:a5=b5<;>by_cases h6:a6=b6<;>simp[h1,h2,h3,h4,h5,h6]
def zqi{α:Type}[DecidableEq α]:∀{a b:List α},a.length=b.length->((a.zip b).any fun x=>decide (x.1≠x.2)) = !decide (a=b)
 |[],[],_=>rfl
 |x::a,y::b,h=>by
  have:=zqi (a:=a) (b:=b) (by grind)
  simp_all
 |[],_::_,h=>by grind
 |_::_,[],h=>by grind
def ztF(a b:zci)(hl:a.jZ.length=b.jZ.length)(ha:a.jZ.length<=100000000000) :
  Y L Cs zb8 (some [2,3,5]) 2 [(2,.w (Pt 0)),(3,.w (Pt 1)),(5,.w (W 0))] [bx 6 (zG a),bx 6 (zG b)] =
    some (if(a.jZ.zip b.jZ).any fun x=>decide (x.1≠x.2) then(.ret,[(4,.w (Bo false))],[bx 6 (zG a),bx 6 (zG b)])
     else(.exit 0,[(31,.w (Bo false)),(3,.w (Pt 1)),(2,.w (Pt 0)),(5,.w (W a.jZ.length))],[bx 6 (zG a),bx 6 (zG b)])):=by
 have hz:(a.jZ.zip b.jZ).length=a.jZ.length:=by simp[hl]
 refine zpE (a.jZ.zip b.jZ) (fun i=>[(2,.w (Pt 0)),(3,.w (Pt 1)),(5,.w (W i))]) _ _ _ _ ?_ ?_ ?_
 ·intro i h hp;have hi:i<a.jZ.length:=wA
  have hj:i<b.jZ.length:=wA
  have hw:=zB (i:=i) wA;simp at hp;rw[ZfM zb8.eq_1];simp[zG,hi,hj,hw,zoc,hp]
 ·intro i h hp;have hi:i<a.jZ.length:=wA
  have hj:i<b.jZ.length:=wA
  simp at hp;rw[ZfM zb8.eq_1];simp[zG,hi,hj,zoc,hp]
 ·rw[hz,ZfM zb8.eq_1];simp[zG]
def zlN(a b:zci):Bool:=decide (a.tick=b.tick)&&decide (a.ego=b.ego)&&decide (a.jZ=b.jZ)
def ztl(a b:zci)(ha:a.jZ.length<=100000000000):R L Cs zll [.a (zG a),.a (zG b)] []=some (.w (Bo (zlN a b)),[]):=by
 rw[zUa zlB rfl];obtain⟨t,l,⟨e1,e2,e3,e4⟩⟩:=a;obtain⟨t',l',⟨e1',e2',e3',e4'⟩⟩:=b;by_cases ht:t=t'
 ·by_cases h1:e1=e1'
  ·by_cases h2:e2=e2'
   ·by_cases h3:e3=e3'
    ·by_cases h4:e4=e4'
     ·by_cases hl:l.length=l'.length
      ·have h:=ztF ⟨t,l,⟨e1,e2,e3,e4⟩⟩ ⟨t',l',⟨e1',e2',e3',e4'⟩⟩ hl ha;rw[zqi hl]at h;simp only[zG,bx]at h;by_cases h5:l=l'
       ·simp[h5,ht,h1,h2,h3,h4]at h;simp[zaE,zG,zlN,ht,h1,h2,h3,h4,h5,h]
       ·simp[h5,ht,h1,h2,h3,h4]at h;simp[zaE,zG,zlN,ht,h1,h2,h3,h4,h5,h,hl]
      ·have h5:l≠l':=fun h=>hl (by rw[h])
       have hl':¬((l.length:Int)=(l'.length:Int)):=wA
       simp[zaE,zG,zlN,ht,h1,h2,h3,h4,h5,hl,hl']
     ·have hb:(e4==e4')=false:=by simp[h4]
      simp[zaE,zG,zlN,ht,h1,h2,h3,h4,hb]
    ·have hb:(e3==e3')=false:=by simp[h3]
     simp[zaE,zG,zlN,ht,h1,h2,h3,hb]
   ·have hb:(e2==e2')=false:=by simp[h2]
    simp[zaE,zG,zlN,ht,h1,h2,hb]
  ·have hb:(e1==e1')=false:=by simp[h1]
   simp[zaE,zG,zlN,ht,h1,hb]
 ·have hb:(t !=t')=true:=by simp[ht]
  simp[zaE,zG,zlN,ht,hb]
def z9f(k:zci)(st lo hi:Int):zci×Bool :=
 if st≠k.tick then(k,true) else
 if max k.ego.vlo lo>min k.ego.vhi hi then(k,false) else({ k with ego:={ k.ego with vlo:=max k.ego.vlo lo,vhi:=min k.ego.vhi hi } },true)
def Zag(k:zci)(st lo hi:Int):zci×Bool :=
 if st≠k.tick then(k,true) else
 if max k.ego.slo lo>min k.ego.shi hi then(k,false) else({ k with ego:={ k.ego with slo:=max k.ego.slo lo,shi:=min k.ego.shi hi } },true)
def zM5(r:zci×Bool):AV:=.t [.a (zG r.1),Bo r.2]
def Za4(k:zci)(hl:k.jZ.length<=100000000000)(st lo hi:Int):R L Cs z9X [.a (zG k),.a [I st,I lo,I hi]] []=some (zM5 (z9f k st lo hi),[]):=by
 have hc:=z1I k hl;simp only[zG]at hc;rw[zUa z90 rfl];by_cases h:st=k.tick
 ·by_cases h2:min k.ego.vhi hi<max k.ego.vlo lo
  ·simp[z8l,zG,hc,h,h2,z9f,zM5]
  ·simp[z8l,zG,hc,h,h2,z9f,zM5]
 ·simp[z8l,zG,hc,h,z9f,zM5]
def Zbi(k:zci)(hl:k.jZ.length<=100000000000)(st lo hi:Int):R L Cs Zz [.a (zG k),.a [I st,I lo,I hi]] []=some (zM5 (Zag k st lo hi),[]):=by
 have hc:=z1I k hl;simp only[zG]at hc;rw[zUa ZI rfl];by_cases h:st=k.tick
 ·by_cases h2:min k.ego.shi hi<max k.ego.slo lo
  ·simp[z8p,zG,hc,h,h2,Zag,zM5]
  ·simp[z8p,zG,hc,h,h2,Zag,zM5]
 ·simp[z8p,zG,hc,h,Zag,zM5]
def zvh:∀(l out:List zk),(l.foldl zcP out).length<=l.length+out.length
 |[],out=>wD
 |b::l,out=>by
  have:=zvh l (zcP out b);have:=zn6 out b;simp only[j8,jl];omega
theorem zkq(l:List zk):(zcz l).length<=l.length:=by
 have h1:=zvh (l.foldl zb5 []) [];have h2:=zqq l [];simp at h1 h2;unfold zcz;omega
@[simp] def zwl(a:zci):zlN a a=true:=by simp[zlN]
abbrev zmN:Sh:=.int .i64
def zk0(n:Int):Prop:=-9223372036854775808<=n/\n<=9223372036854775807
def zQf(x lo hi tick:Int)(w:zCP):Bool:=decide (w.lane=x)&&decide (w.lo<=hi)&&decide (lo<=w.hi)&&decide (w.Ca<=tick)&&decide (tick<w.ends)
def zOx(x lo hi tick:Int)(n:Int)(w:zCP):Int:=if zQf x lo hi tick w=true then min n w.vY else n
def zLS(m:zD)(x:Int):Int:=((m.jd[x.toNat]?).map zfn.vY).getD 0
def zNi(m:zD)(fr to tick a out x:Int):Int :=
 if max 0 (fr-a)>min (to-a) (z8 m x) then out else
 if out<0\/m.kT.foldl (zOx x (max 0 (fr-a)) (min (to-a) (z8 m x)) tick) (zLS m x)<out then m.kT.foldl (zOx x (max 0 (fr-a)) (min (to-a) (z8 m x)) tick) (zLS m x) else out
def zNU(m:zD)(fr to tick:Int):Int->Int->List Int->Int
 |_,out,[]=>out
 |a,out,x::r=>zNU m fr to tick (a+z8 m x) (zNi m fr to tick a out x) r
def zOw{m:zD}(hw:m.kT.length<=1000)(l:List Int)(nn to fr len i out tick x lo hi:Int)(q0:List (List Cl))(n:Int) :
  Y L Cs zIw (some [14,60,59,4,2,1,18,19,20,9,58,11,13,12,3]) 1 [(14,.w (W n)),(60,.w (W (0:Nat))),(59,.w (W m.kT.length)),(4,.w (Pt 0)),(2,.w (W to)),(1,.w (W fr)),(18,.w (.c (.jb q0))),(19,.w (W len)),(20,.w (W i)),(9,.w (W out)),(58,.w (.c (.jb (m.kT.map zaL)))),(11,.w (W x)),(13,.w (W hi)),(12,.w (W lo)),(3,.w (W tick))] [bx 11 (zh m l nn)] =
    some (.exit 2,[(61,.w (Bo false)),(14,.w (W (m.kT.foldl (zOx x lo hi tick) n))),(60,.w (W m.kT.length)),(59,.w (W m.kT.length)),(4,.w (Pt 0)),(2,.w (W to)),(1,.w (W fr)),(18,.w (.c (.jb q0))),(19,.w (W len)),(20,.w (W i)),(9,.w (W out)),(58,.w (.c (.jb (m.kT.map zaL)))),(11,.w (W x)),(13,.w (W hi)),(12,.w (W lo)),(3,.w (W tick))],[bx 11 (zh m l nn)]):=by
 have q:=zPH (L:=L) (Cs:=Cs) (b:=zIw) (live:=some [14,60,59,4,2,1,18,19,20,9,58,11,13,12,3]) (n0:=1) m.kT
  (fun k s=>[(14,.w (W s)),(60,.w (W k)),(59,.w (W m.kT.length)),(4,.w (Pt 0)),(2,.w (W to)),(1,.w (W fr)),(18,.w (.c (.jb q0))),(19,.w (W len)),(20,.w (W i)),(9,.w (W out)),(58,.w (.c (.jb (m.kT.map zaL)))),(11,.w (W x)),(13,.w (W hi)),(12,.w (W lo)),(3,.w (W tick))]) (fun _ _=>[bx 11 (zh m l nn)]) (fun _ _=>True) (fun _=>zOx x lo hi tick)
  (fun s=>(.exit 2,[(61,.w (Bo false)),(14,.w (W s)),(60,.w (W m.kT.length)),(59,.w (W m.kT.length)),(4,.w (Pt 0)),(2,.w (W to)),(1,.w (W fr)),(18,.w (.c (.jb q0))),(19,.w (W len)),(20,.w (W i)),(9,.w (W out)),(58,.w (.c (.jb (m.kT.map zaL)))),(11,.w (W x)),(13,.w (W hi)),(12,.w (W lo)),(3,.w (W tick))],[bx 11 (zh m l nn)])) ?_ ?_ (s0:=n) trivial
 ·rw[zMd]at q;exact q
 ·intro k hk s _;refine⟨trivial,?_⟩;have hww:=zB (i:=k) wA;simp only[zh,zi];rw[ZfM zIw.eq_1];generalize hwk:m.kT[k]=w;obtain⟨wl,wf,wt,wb,we,wm⟩:=w;simp only[zOx,zQf];by_cases c1:wl=x
  ·by_cases c2:wf<=hi
   ·by_cases c3:lo<=wt
    ·by_cases c4:wb<=tick
     ·by_cases c5:tick<we
      ·simp[hk,hwk,hww,zaL,c1,c2,c3,c4,c5]
      ·simp[hk,hwk,hww,zaL,c1,c2,c3,c4,c5]
     ·simp[hk,hwk,hww,zaL,c1,c2,c3,c4]
    ·simp[hk,hwk,hww,zaL,c1,c2,c3]
   ·simp[hk,hwk,hww,zaL,c1,c2]
  ·have b1:(wl==x)=false:=by simp[c1]
   simp[hk,hwk,hww,zaL,c1,b1]
 ·intro s _;simp only[zh,zi];rw[ZfM zIw.eq_1];simp
def zOv{m:zD}(h:zcp m)(hwk:m.kT.length<=1000)(l:List Int)(hl:l.length<=1000)(hon:zj2 m l)(nn fr to tick:Int)(hfr:0<=fr/\fr<=10000000000)(hto:0<=to/\to<=10000000000):∀(r:List Int) (i:Nat) (out a:Int),l.drop i=r->i<=l.length->(zW m 0 l).drop i=zW m a r->0<=a->a<=i*1000000 ->
  Y L Cs zIv (some [20,19,18,1,2,3,9,4]) 1 [(20,.w (W i)),(19,.w (W l.length)),(18,.w (.c (.jb (zu l)))),(1,.w (W fr)),(2,.w (W to)),(3,.w (W tick)),(9,.w (W out)),(4,.w (Pt 0))] [bx 11 (zh m l nn)] =
    some (.exit 0,[(21,.w (Bo false)),(20,.w (W l.length)),(19,.w (W l.length)),(18,.w (.c (.jb (zu l)))),(1,.w (W fr)),(2,.w (W to)),(3,.w (W tick)),(9,.w (W (zNU m fr to tick a out r))),(4,.w (Pt 0))],[bx 11 (zh m l nn)]):=by
 intro r;induction r with
 |nil =>
  intro i out a hd hi hs ha1 ha2;obtain rfl:=zUb hd hi;simp only[zh,zi];rw[ZfM zIv.eq_1];simp[zNU]
 |cons x r ih =>
  intro i out a hd hi hs ha1 ha2;obtain⟨hil,hx,hd'⟩:=zL hd;have hxm:=hon x (by rw[<-hx];exact jf _);have hle:=zcX h hxm;have hw:=zB (i:=i) wA;obtain⟨n,rfl⟩:=jA hxm.1;have hn:n<m.jd.length:=wA
  have eL:z8 m n=m.jd[n].len:=by simp[z8,hn]
  have eM:zLS m n=m.jd[n].vY:=by simp[zLS,hn]
  rw[zW]at hs;obtain⟨hsl,hsx,hs'⟩:=zL hs;have hw1:=qB (fr-a);have hw2:=qB (to-a);have hin:=zOw (m:=m) hwk l nn to fr l.length i out tick n (max 0 (fr-a)) (min (to-a) (z8 m n)) (zu l) (zLS m n);have ih':=ih (i+1) (zNi m fr to tick a out n) (a+z8 m n) hd' hil hs' wA wA;simp only[zNU];rw[<-ih'];simp only[zh,zi,jg]at hin ⊢;rw[ZfM zIv.eq_1];simp only[zNi];rw[eL,eM]at *;generalize hF:m.kT.foldl (zOx n (max 0 (fr-a)) (min (to-a) m.jd[n].len) tick) m.jd[n].vY=F at *;by_cases c1:min (to-a) m.jd[n].len<max 0 (fr-a)
  ·simp[hil,hx,hsl,hsx,hn,hw,hw1,hw2,c1,zo]
  ·by_cases c2:out<0
   ·simp[hil,hx,hsl,hsx,hn,hw,hw1,hw2,c1,c2,zo,hin]
   ·by_cases c3:F<out
    ·simp[hil,hx,hsl,hsx,hn,hw,hw1,hw2,c1,c2,c3,zo,hin]
    ·simp[hil,hx,hsl,hsx,hn,hw,hw1,hw2,c1,c2,c3,zo,hin]
def zEC{m:zD}(h:zcp m):∀(r:List Int) (a:Int),zj2 m r->0<=a->0<=zmd m a r/\zmd m a r<=a+r.length*1000000
 |[],a,_,ha=>by simp[zmd];exact ha
 |x::r,a,hon,ha=>by
  have hle:=zcX h (hon x wD);have:=zEC h r (a+z8 m x) (fun y hy=>hon y (by simp[hy])) wA;simp only[zmd,jl];omega
def zPh{m:zD}(h:zcp m)(hwk:m.kT.length<=1000)(l:List Int)(hl:l.length<=1000)(hon:zj2 m l)(nn fr to tick:Int)(hfr:0<=fr/\fr<=10000000000)(hto:0<=to/\to<=10000000000) :
  R L Cs zMX [.a (zh m l nn),W fr,W to,W tick] []=some (.w (W (max (zNU m fr to tick 0 (-1) l) 0)),[]):=by
 have hb:=zOv h hwk l hl hon nn fr to tick hfr hto l 0 (-1) 0 rfl (jr _) rfl wA wA;simp only[zh,zi,jg]at hb ⊢;rw[zUa zM1 rfl];simp[zIQ,hb]
def zxB:∀{rows:List (List Cl)},(∀r∈rows,zfo zmN r)->∃l,rows=zu l/\∀x∈l,zk0 x
 |[],_=>⟨[],rfl,wD⟩
 |r::rows,h=>by
  have h1:=h r (js ..);simp only[zfo]at h1;obtain⟨a,rfl,q⟩:=h1;obtain⟨l,rfl,hl⟩:=zxB fun x hx=>h x (jE _ hx)
  refine⟨a::l,rfl,fun x hx=>?_⟩;rcases jK.1 hx with rfl|hx
  ·exact q
  ·exact hl x hx
def zpO(m:zD)(e:Ego)(len:Int):Int->List Int->List zk->List zk
 |_,[],l=>l
 |a,x::r,l=>zpO m e len (a+z8 m x) r (zhn x (e.shi-len-a) (e.slo-a) l)
def zCj(m:zD)(l:List Int)(len:Int)(e:Ego)(he:-1000000000000000<=e.slo/\e.slo<=1000000000000000/\-1000000000000000<=e.shi/\e.shi<=1000000000000000)(hn:0<=len/\len<=20000):R L Cs zhP [.a (zh m l len),.a (zch e)] []=some (.w (Bo (decide (e.shi-len<=e.slo))),[]):=by
 have hw1:=qB (e.shi-len);rw[zUa zm1 rfl];simp[zfG,zh,hw1]
def zzJ{m:zD}(h:zcp m)(l:List Int)(hl:l.length<=8)(hon:zj2 m l)(len:Int)(e:Ego)(he:-1000000000000000<=e.slo/\e.slo<=1000000000000000/\-1000000000000000<=e.shi/\e.shi<=1000000000000000)(hn:0<=len/\len<=20000):∀(r:List Int) (i:Nat) (bs:List zk) (a:Int),l.drop i=r->i<=l.length->(zW m 0 l).drop i=zW m a r->0<=a->a<=i*1000000->bs.length*2 ^ r.length<=100000000000 ->
  Y L Cs zdn (some [1,17,16,15,5,3]) 3 [(1,.w (.c (.jb (zI bs)))),(17,.w (W i)),(16,.w (W l.length)),(15,.w (.c (.jb (zu l)))),(5,.w (Pt 1)),(3,.w (Pt 0))] [bx 11 (zh m l len),bx 4 (zch e),gb 6] =
    some (.exit 0,[(18,.w (Bo false)),(1,.w (.c (.jb (zI (zpO m e len a r bs))))),(17,.w (W l.length)),(16,.w (W l.length)),(15,.w (.c (.jb (zu l)))),(5,.w (Pt 1)),(3,.w (Pt 0))],[bx 11 (zh m l len),bx 4 (zch e),gb 6]):=by
 intro r;induction r with
 |nil =>
  intro i bs a hd hi hs ha1 ha2 hb;obtain rfl:=zUb hd hi;simp only[zh,zi];rw[ZfM zdn.eq_1];simp[zpO]
 |cons x r ih =>
  intro i bs a hd hi hs ha1 ha2 hb;obtain⟨hil,hx,hd'⟩:=zL hd;have hxm:=hon x (by rw[<-hx];exact jf _);have hle:=zcX h hxm;have hw:=zB (i:=i) wA;rw[zW]at hs;obtain⟨hsl,hsx,hs'⟩:=zL hs;have hw0:=qB (e.shi-len);have hw1:=qB (e.shi-len-a);have hw2:=qB (e.slo-a);have hcl:=zod x (e.shi-len-a) (e.slo-a) bs;have hb2:(zhn x (e.shi-len-a) (e.slo-a) bs).length*2 ^ r.length<=100000000000:=by
   refine jT (kh _ hcl) ?_;simp only[jl,Nat.pow_succ]at hb;rw[ua 2,Nat.mul_assoc,ua 2];exact hb
  have hb1:bs.length<=100000000000:=jT (qV _ (Nat.two_pow_pos _)) hb;have Be:=zDp x (e.shi-len-a) (e.slo-a) ⟨wA,wA⟩ ⟨wA,wA⟩ bs hb1;simp only[zpO];rw[<-ih (i+1) (zhn x (e.shi-len-a) (e.slo-a) bs) (a+z8 m x) hd' hil hs' wA wA hb2];clear ih hb hb2 hcl;simp only[zh,zi];rw[ZfM zdn.eq_1];simp[hil,hx,hsl,hsx,hw,hw0,hw1,hw2,Be]
def zuX(m:zD)(e:Ego)(len:Int):∀(r:List Int) (a:Int) (bs:List zk),(zpO m e len a r bs).length<=bs.length*2 ^ r.length
 |[],_,bs=>by simp[zpO]
 |x::r,a,bs=>by
  have h1:=zuX m e len r (a+z8 m x) (zhn x (e.shi-len-a) (e.slo-a) bs);have h2:=kh (2 ^ r.length) (zod x (e.shi-len-a) (e.slo-a) bs);simp only[zpO,jl,Nat.pow_succ];refine jT h1 (jT h2 ?_);rw[ua 2 bs.length,Nat.mul_assoc,ua 2];exact jm _
def zEn(n k:Int)(hk:0<k):n % k=if n.tmod k<0 then n.tmod k+k else n.tmod k:=by
 have h1:=vK n (show k≠0 by omega);have h2:=uM n hk;have h:=@Int.tmod_eq_emod n k;have h3:(k.natAbs:Int)=k:=wA
 split at h
 ·simp at h;rw[h];split<;>omega
 ·rw[h3]at h;rw[h];split<;>omega
def zEW(n k:Int)(hk:0<k)(hk2:k<=4000000000000000000):R L Cs zny [W n,W k] []=some (.w (W (n % k)),[]):=by
 rw[zUa znH rfl];have he:=zEn n k hk;have hb:=uM n hk;have hb0:=vK n (show k≠0 by omega);have hz:(k==0)=false:=beq_false_of_ne wA;have hz':k≠0:=wA
 by_cases h:n.tmod k<0
 ·rw[if_pos h]at he;have e:IntKind.i64.wrap (n.tmod k+k)=n % k:=by rw[<-he];exact zTd _ wA wA
  simp[zeK,h,e,hz,hz']
 ·rw[if_neg h]at he;rw[he]at *;simp[zeK,h,hz,hz']
def zD0(n k:Int)(hk:0<k)(hk2:k<=4000000000000000000):R L Cs zEd [W n,W k] []=some (.w (W (n % k)),[]):=by
 rw[zUa zEh rfl];have he:=zEn n k hk;have hb:=uM n hk;have hb0:=vK n (show k≠0 by omega);have hz:(k==0)=false:=beq_false_of_ne wA;have hz':k≠0:=wA
 by_cases h:n.tmod k<0
 ·rw[if_pos h]at he;have e:IntKind.i64.wrap (n.tmod k+k)=n % k:=by rw[<-he];exact zTd _ wA wA
  simp[zDP,h,e,hz,hz']
 ·rw[if_neg h]at he;rw[he]at *;simp[zDP,h,hz,hz']
def zDJ(a b:Int)(h:0<b):0<=a % b/\a % b<b:=⟨vK _ wA,uM _ h⟩
def ztL{m:zD}(h:zcp m):∀(r:List zfn) (i:Nat) (out:List Int),m.jd.drop i=r->i<=m.jd.length->out.length<=i ->
  Y L Cs zbx (some [3,4,1]) 3 [(3,.w (.c (sl 2 1 (zu out)))),(4,.w (W i)),(1,.w (Pt 0))] [bx 5 (zf m),gb 1,some (own 1 (zu out))] =
    some (.exit 0,[(9,.w (Bo false)),(3,.w (.c (sl 2 1 (zu (out++zbK m i r))))),(4,.w (W m.jd.length)),(1,.w (Pt 0))],[bx 5 (zf m),gb 1,some (own 1 (zu (out++zbK m i r)))]):=by
 intro r;induction r with
 |nil =>
  intro i out hd hi ho;obtain rfl:=zUb hd hi;rw[ZfM zbx.eq_1];simp[zbK,zf]
 |cons l r ih =>
  intro i out hd hi ho;obtain⟨hil,hl,hd'⟩:=zL hd;have hn:=h.small.jd;have hw:=zB (i:=i) wA;have hb:=zpG m i wA (fun l hl=>by have:=h.small.next l hl;omega);simp only[zf]at hb;have kA:(out.length+1)*8<=140737488355328:=wA
  rw[zbK];by_cases he:zes i 0 m.jd=[]
  ·rw[if_pos he,show out++(i:Int)::zbK m (i+1) r=(out++[(i:Int)])++zbK m (i+1) r by simp,<-ih (i+1) (out++[(i:Int)]) hd' hil (by simp;omega),ZfM zbx.eq_1];rw[he]at hb;simp[hil,zf,hb,hw,kA,zg,zH]
  ·rw[if_neg he,<-ih (i+1) out hd' hil wA,ZfM zbx.eq_1];have hz:(((zes i 0 m.jd).length:Int)==0)=false:=by
    have:0<(zes i 0 m.jd).length:=kD.2 he;exact beq_false_of_ne wA
   simp[hil,zf,hb,hw,he,hz,zg,zH]
def zzc{m:zD}(h:zcp m):R L Cs zjm [.a (zf m)] []=some (.w (.c (.jb (zu (zbK m 0 m.jd)))),[]):=by
 have hl:=ztL h m.jd 0 [] rfl (jr _) (jr _);simp only[zf,jg,je,zay,sl,own,jp,zfq]at hl;rw[zUa zjy rfl];simp[zd0,zf,hl,zg]
def zv4{q:Nat}(h:q<2000000):IntKind.i64.wrap (q:Int)=(q:Int):=zTd _ wA wA
def zS(m:zD)(a:Int):List Int:=((m.jd[a.toNat]?).map zfn.next).getD []
def goR(m:zD):Nat->Int->Nat->List Int
 |0,_,_=>[]
 |f+1,a,n=>if(zS m a).length=0 then [] else(zS m a).getD (n % (zS m a).length) 0::goR m f ((zS m a).getD (n % (zS m a).length) 0) (n / (zS m a).length)
def zEZ(m:zD):∀(f:Nat) (a:Int) (n:Nat),(goR m f a n).length<=f
 |0,_,_=>by simp[goR]
 |f+1,a,n=>by
  unfold goR;split
  ·simp
  ·have:=zEZ m f ((zS m a).getD (n % (zS m a).length) 0) (n / (zS m a).length)
   grind
def zEL{m:zD}(h:zcp m):∀(f:Nat) (a:Int) (n:Nat) (out:List Int),out.length+f=8->0<=a->a<m.jd.length->n<2000000 ->
  ∃b t,Y L Cs zDH (some [6,1,7,2]) 3 [(6,.w (W a)),(1,.w (W n)),(7,.w (.c (sl 2 1 (zu out)))),(2,.w (Pt 0))] [bx 5 (zf m),gb 1,some (own 1 (zu out))] =
   some (.exit 0,[(41,.w (Bo false)),(6,.w (W b)),(1,.w (W t)),(7,.w (.c (sl 2 1 (zu (out++goR m f a n))))),(2,.w (Pt 0))],[bx 5 (zf m),gb 1,some (own 1 (zu (out++goR m f a n)))]):=by
 intro f;induction f with
 |zero =>
  intro a n out hf ha1 ha2 hn;obtain⟨j,rfl⟩:=jA ha1;have hj:j<m.jd.length:=wA
  refine⟨(j:Int),(n:Int),?_⟩;rw[ZfM zDH.eq_1];have h8:¬((out.length:Int)<8):=wA
  by_cases c:0<m.jd[j].next.length
  ·simp[goR,zf,zo,hj,c,h8]
  ·simp[goR,zf,zo,hj,c]
 |succ f ih =>
  intro a n out hf ha1 ha2 hn;obtain⟨j,rfl⟩:=jA ha1;have hj:j<m.jd.length:=wA
  have h8:(out.length:Int)<8:=wA
  have en:zS m (j:Int)=m.jd[j].next:=by simp[zS,hj]
  by_cases c:0<m.jd[j].next.length
  ·have hk:=h.small.next _ (jf hj);have hm:n % m.jd[j].next.length<m.jd[j].next.length:=qF _ c;have hq:n / m.jd[j].next.length<=n:=Nat.div_le_self _ _;have hval:=h.small.valid _ (jf hj) _ (jf hm);rw[goR,en,if_neg wA];have eg:m.jd[j].next.getD (n % m.jd[j].next.length) 0=m.jd[j].next[n % m.jd[j].next.length]:=by simp[jG,hm]
   rw[eg];obtain⟨b,t,hy⟩:=ih (m.jd[j].next[n % m.jd[j].next.length]) (n / m.jd[j].next.length) (out++[m.jd[j].next[n % m.jd[j].next.length]]) (by simp;omega) hval.1 hval.2 wA;refine⟨b,t,?_⟩;rw[show out++(m.jd[j].next[n % m.jd[j].next.length]::goR m f m.jd[j].next[n % m.jd[j].next.length] (n / m.jd[j].next.length))=(out++[m.jd[j].next[n % m.jd[j].next.length]])++goR m f m.jd[j].next[n % m.jd[j].next.length] (n / m.jd[j].next.length) by simp,<-hy,ZfM zDH.eq_1];clear ih hy;have e1:(n:Int).tmod (m.jd[j].next.length:Int)=((n % m.jd[j].next.length:Nat):Int):=by
    rw[qH wA];rfl
   have e2:(n:Int).tdiv (m.jd[j].next.length:Int)=((n / m.jd[j].next.length:Nat):Int):=by
    rw[qr wA];rfl
   have e3:IntKind.i64.wrap ((n / m.jd[j].next.length:Nat):Int)=((n / m.jd[j].next.length:Nat):Int):=zv4 wA;have hz:((m.jd[j].next.length:Int)==0)=false:=beq_false_of_ne wA;have hz':(m.jd[j].next.length:Int)≠0:=wA
   have hz'':m.jd[j].next≠[]:=kD.1 c;have kA:(out.length+1)*8<=140737488355328:=wA
   generalize hq2:n / m.jd[j].next.length=q at *;generalize hm2:n % m.jd[j].next.length=p at *;generalize hln:m.jd[j]=ln at *;simp[zf,zo,hj,hln,c,h8,e1,e2,e3,hz,hz',hz'',hm,kA,zg,zH]
  ·refine⟨(j:Int),(n:Int),?_⟩;rw[goR,en,if_pos wA,ZfM zDH.eq_1];simp[zf,zo,hj,c]
def zsP(k:Nat)(r:Int):List Zon:=match k with
 |0=>[]
 |1=>[⟨[⟨0,28000,32000,r⟩,⟨1,18000,22000,2-2*r⟩],0⟩]
 |2=>[⟨[⟨0,28000,32000,r⟩,⟨1,18000,22000,2-2*r⟩],1⟩]
 |3=>[]
 |4=>[⟨[⟨0,25000,30000,1⟩,⟨1,20000,26000,0⟩,⟨2,0,5000,0⟩],0⟩]
 |5=>[⟨[⟨1,14000,16000,0⟩,⟨2,6000,10000,3⟩],0⟩]
 |_=>[⟨[⟨1,14000,18000,1⟩,⟨3,10000,14000,0⟩],if r=1 then 1 else 0⟩,⟨[⟨2,14000,21000,1⟩,⟨3,14500,23000,0⟩],if r=1 then 2 else 0⟩]
def sgP(o a b:Int):Sgn:=⟨o,[⟨12,[a]⟩,⟨5,[]⟩,⟨9,[b]⟩,⟨4,[]⟩]⟩
def ssP(k:Nat)(r o1 o2 o3:Int):List Sgn:=match k with
 |2=>[sgP o1 0 1]
 |6=>if r=1 then [sgP o2 1 3,sgP o3 2 3] else []
 |_=>[]
def zxQ(k:Nat)(hk:k<7)(r:Int):zO k r=zk8 (zsP k r):=by
 match k,hk with
 |0,_ |1,_ |2,_ |3,_ |4,_ |5,_ |6,_=>simp[zO,zsP,zk8,zdP,zfa,zkl,zeB,zdK]
theorem zzt(o a b:Int):zaY o a b=zeq (sgP o a b):=by simp[zaY,zeq,sgP,zje,zr6]
def zuN(k:Nat)(hk:k<7)(r o1 o2 o3:Int):zt k r o1 o2 o3=zjd (ssP k r o1 o2 o3):=by
 match k,hk with
 |0,_ |1,_ |3,_ |4,_ |5,_=>simp[zt,ssP,zjd]
 |2,_=>simp[zt,ssP,zjd,zzt]
 |6,_ =>
  grind [zt,ssP,zjd,zzt]
theorem zwk(o a b:Int):zvY (sgP o a b).j9:=⟨by simp[sgP],by simp[sgP],by simp[sgP],by simp[sgP]⟩
def zDs(k:Nat)(hk:k<7){lim r o1 o2 o3 v:Int}{ws:List zCP}(h:zp2 k lim r o1 o2 o3 v ws):Zd (zq k lim r o1 o2 o3 v ws) (zsP k r) (ssP k r o1 o2 o3) where
 z:=zxQ k hk r
 s:=zuN k hk r o1 o2 o3
 few:=by
  match k,hk with
  |0,_ |1,_ |2,_ |3,_ |4,_ |5,_ |6,_=>simp[zsP]
 sfew:=by
  match k,hk with
  |0,_ |1,_ |2,_ |3,_ |4,_ |5,_=>simp[ssP]
  |6,_=>grind [ssP]
 sig:=by
  match k,hk with
  |0,_ |1,_ |2,_ |3,_ |4,_ |5,_=>simp[ssP,zsP]
  |6,_ =>
   rcases h.r with c|c<;>(grind [ssP,zsP])
 pfew:=by
  match k,hk with
  |0,_ |1,_ |2,_ |3,_ |4,_ |5,_ |6,_=>simp[zsP]
 ph:=by
  match k,hk with
  |0,_ |1,_ |3,_ |4,_ |5,_=>simp[ssP]
  |2,_=>grind [ssP,zwk]
  |6,_ =>
   grind [ssP,zwk]
def zDu(k:Nat)(hk:k<7)(r:Int):∀z∈zsP k r,(z.parts.map Prt.lane).Nodup:=by
 match k,hk with
 |0,_ |1,_ |2,_ |3,_ |4,_ |5,_ |6,_=>simp[zsP]
theorem zlX(ss:List Sgn)(lane tick:Int)(z:Zon):zff ss lane tick z=[]\/∃p,zjF z lane=some p/\zff ss lane tick z=[p.lo]:=by
 unfold zff;split
 ·exact .inl rfl
 ·split
  ·exact .inl rfl
  ·rename_i p hp;split
   ·exact .inl rfl
   ·exact .inr ⟨p,hp,rfl⟩
def zDl(k:Nat)(hk:k<7)(r o1 o2 o3 lane tick:Int):Asc ((zsP k r).flatMap (zff (ssP k r o1 o2 o3) lane tick)):=by
 have one:∀z,Asc ([z].flatMap (zff (ssP k r o1 o2 o3) lane tick)):=fun z=>by
  rcases zlX (ssP k r o1 o2 o3) lane tick z with h |⟨p,_,h⟩<;>simp[h]
 match k,hk with
 |0,_ |3,_=>simp[zsP]
 |1,_ |2,_ |4,_ |5,_=>exact one _
 |6,_ =>
  simp only[zsP,kG,List.flatMap_nil,ku];rcases zlX (ssP 6 r o1 o2 o3) lane tick ⟨[⟨1,14000,18000,1⟩,⟨3,10000,14000,0⟩],if r=1 then 1 else 0⟩with h |⟨p,hp,h⟩<;>rcases zlX (ssP 6 r o1 o2 o3) lane tick ⟨[⟨2,14000,21000,1⟩,⟨3,14500,23000,0⟩],if r=1 then 2 else 0⟩with h' |⟨p',hp',h'⟩
  ·simp_all
  ·grind
  ·grind
  ·have e1:p.lane=lane/\(p.lo=14000/\p.lane=1\/p.lo=10000/\p.lane=3):=by
    have:=yw hp;have hm:=qL hp
    grind
   have e2:p'.lane=lane/\(p'.lo=14000/\p'.lane=2\/p'.lo=14500/\p'.lane=3):=by
    have:=yw hp';have hm:=qL hp'
    grind
   grind
structure zmX(m:zD):Prop where
 few:m.jd.length<=4
 nx:∀a,(zS m a).length<=2
 leaf:∀a,∀x∈zS m a,zS m x=[]
 up:∀a,∀x∈zS m a,a<x
 kn:∀a,∀x∈zS m a,zaK m x=zaK m a
def zyt{m:zD}{a:Int}(h:m.jd.length<=a.toNat):zS m a=[]:=by
 simp[zS,uU h]
def zCl(k:Nat)(hk:k<7)(lim r o1 o2 o3 v:Int)(ws:List zCP):zmX (zq k lim r o1 o2 o3 v ws):=by
 have key:∀a:Int,a.toNat=0\/a.toNat=1\/a.toNat=2\/a.toNat=3\/4<=a.toNat:=fun a=>wA
 have few:(zq k lim r o1 o2 o3 v ws).jd.length<=4:=by
  match k,hk with
  |0,_ |1,_ |2,_ |3,_ |4,_ |5,_ |6,_=>simp[zq,zy]
 have out:∀a:Int,4<=a.toNat->zS (zq k lim r o1 o2 o3 v ws) a=[]:=fun a h=>zyt wA
 refine⟨few,fun a=>?_,fun a=>?_,fun a=>?_,fun a=>?_⟩
 all_goals
  rcases key a with h|h|h|h|h
  case inr.inr.inr.inr=>grind
 all_goals
  match k,hk with
  |0,_ |1,_ |2,_ |3,_ |4,_ |5,_ |6,_ =>
   first
    |(simp[zS,zq,zy,h,zQ];done)
    |(simp[zS,zq,zy,h,zQ];omega)
    |(simp[zS,zaK,zq,zy,h,zQ])
structure zmq(m:zD)(zs:List Zon)(ss:List Sgn):Prop where
 qO:zcp m
 one:zmp m
 yn:zmX m
 zd:Zd m zs ss
 asc:∀lane tick,Asc (zs.flatMap (zff ss lane tick))
 nd:∀z∈zs,(z.parts.map Prt.lane).Nodup
 pv:∀z∈zs,∀p∈z.parts,(0<=p.lane/\p.lane<m.jd.length)/\0<=p.lo/\p.lo<p.hi/\p.hi<=z8 m p.lane/\0<=p.BE/\p.BE<=100
def zDt(k:Nat)(hk:k<7){lim r o1 o2 o3 v:Int}{ws:List zCP}(h:zp2 k lim r o1 o2 o3 v ws):∀z∈zsP k r,∀p∈z.parts,(0<=p.lane/\p.lane<(zq k lim r o1 o2 o3 v ws).jd.length)/\0<=p.lo/\p.lo<p.hi/\p.hi<=z8 (zq k lim r o1 o2 o3 v ws) p.lane/\0<=p.BE/\p.BE<=100:=by
 have hr:=h.r
 match k,hk with
 |0,_ |3,_=>simp[zsP]
 |1,_ |2,_ |4,_ |5,_ |6,_=>simp[zsP,zq,zy,z8,zQ];try omega
def zCE(k:Nat)(hk:k<7){lim r o1 o2 o3 v:Int}{ws:List zCP}(h:zp2 k lim r o1 o2 o3 v ws):zmq (zq k lim r o1 o2 o3 v ws) (zsP k r) (ssP k r o1 o2 o3):=by
 refine⟨?_,?_,zCl k hk _ _ _ _ _ _ _,zDs k hk h,zDl k hk r o1 o2 o3,zDu k hk r,zDt k hk h⟩
 ·grind [zTy]
 ·match k,hk with
  |0,_=>grind [zAd]
  |1,_=>grind [zAc]
  |2,_=>grind [zAb]
  |3,_=>grind [zAa]
  |4,_=>grind [zz9]
  |5,_=>grind [zz8]
  |6,_=>grind [zz7]
def zA5(n:Int):∃k lim r o1 o2 o3 v ws,k<7/\zp2 k lim r o1 o2 o3 v ws/\R L Cs zY [W n] []=some (.w (.a (zf (zq k lim r o1 o2 o3 v ws))),[]):=by
 have h7:0<=(n % 16777216).tmod 7/\(n % 16777216).tmod 7<7:=by
  grind
 have nu:=zBA n;exact⟨((n % 16777216).tmod 7).toNat,_,_,_,_,_,_,_,wA,nu _ wA,zTw _ n wA wA⟩
def zet(v b:Int):Int:=if v<1 then 0 else(v-1) / b*v-b*(((v-1) / b)*((v-1) / b+1) / 2)
def zzj(n:Int):(n+1)*(n+1+1) / 2=n*(n+1) / 2+(n+1):=by
 grind
theorem zsG{v b:Int}(hb:1<=b)(h:b<v):zet v b=(v-b)+zet (v-b) b:=by
 have e:(v-b-1) / b=(v-1) / b-1:=by
  rw[show v-b-1=(v-1)+(-1)*b by omega,Int.add_mul_ediv_right _ _ wA];omega
 unfold zet;rw[if_neg wA,if_neg wA,e];generalize (v-1) / b=n;have t:=zzj (n-1)
 grind
theorem zki{v b:Int}(hb:1<=b)(h:v<=b):zet v b=0:=by
 unfold zet;split
 ·rfl
 ·have:(v-1) / b=0:=Int.ediv_eq_zero_of_lt wA wA
  grind
def ztT{a b A B:Int}(ha:0<=a/\a<=A)(hb:0<=b/\b<=B):0<=a*b/\a*b<=A*B :=
 ⟨yc ha.1 hb.1,Int.mul_le_mul ha.2 hb.2 hb.1 wA⟩
def zBV(v b:Int)(hv:v<=10000)(hb:1<=b/\b<=1000):R L Cs zua [W v,W b] []=some (.w (W (zet v b)),[]):=by
 rw[zUa zuy rfl];by_cases c:v<1
 ·simp[zh2,c,zet]
 ·have n1:0<=(v-1) / b:=Au wA wA;have n2:(v-1) / b<=10000:=Int.le_trans (Int.ediv_le_self _ wA) wA;have et:(v-1).tdiv b=(v-1) / b:=qr wA;have hz:b≠0:=wA
  have m1:min v 1000000=v:=wA
  have m2:min b 1000000=b:=wA
  have c2:¬b<1:=wA
  have w1:=qB (v-1);unfold zet;generalize (v-1) / b=n at *;have w2:=qB n;have p1:=ztT ⟨n1,n2⟩ (show 0<=v/\v<=10000 by omega);have p2:=ztT ⟨n1,n2⟩ (show 0<=n+1/\n+1<=10001 by omega);have p3:0<=n*(n+1) / 2/\n*(n+1) / 2<=100010000:=wA
  have e2:(n*(n+1)).tdiv 2=n*(n+1) / 2:=qr wA;have w3:=qB (n*v);have w4:=qB (n+1);have w5:=qB (n*(n+1));have w6:=qB (n*(n+1) / 2);have p4:=ztT (show 0<=b/\b<=1000 by omega) p3;generalize hx:n*v=x at *;generalize n*(n+1) / 2=y at *;have w7:=qB (b*y);have w8:=qB (x-b*y);simp[zh2,c,c2,m1,m2,w1,et,hz,w2,hx,w3,w4,w5,e2,w6,w7,w8]
def zgH(m:zD)(l:List Int)(act:Int):Int:=max (-zd4 (zaK m (l.getD 0 0))) (min act (zif (zaK m (l.getD 0 0))))
def zcD(m:zD)(l:List Int)(act v:Int):Int:=max 0 (min (v+zgH m l act) (zeR (zaK m (l.getD 0 0))))
def zaN(m:zD)(l:List Int)(e:Ego)(act:Int):Ego:=⟨e.slo+zcD m l act e.vlo,e.shi+zcD m l act e.vhi,zcD m l act e.vlo,zcD m l act e.vhi⟩
def ztm(v act top:Int)(p q:Nat)(hv:-100000<=v/\v<=100000)(ha:-100000<=act/\act<=100000):R L Cs zjL [W v,Pt 0,Pt 1] [bxv p 1 [I act],bxv q 1 [I top]]=some (.w (W (max 0 (min (v+act) top))),[bxv p 1 [I act],bxv q 1 [I top]]):=by
 have w1:=qB (v+act);rw[zUa zj6 rfl];simp[zel,w1]
def tops{k:Int}(h:k=1\/k=2\/k=3):1<=zd4 k/\zd4 k<=300/\1<=zif k/\zif k<=100/\300<=zeR k/\zeR k<=2000:=by
 rcases h with rfl|rfl|rfl<;>simp[zd4,zif,zeR]
def zu9{m:zD}(h:zcp m){x:Int}(hx:0<=x/\x<m.jd.length):zaK m x=1\/zaK m x=2\/zaK m x=3:=by
 obtain⟨n,rfl⟩:=jA hx.1;have hn:n<m.jd.length:=wA
 have:=h.kind _ (jf hn)
 grind [zaK]
structure znd(e:Ego):Prop where
 s:0<=e.slo/\e.slo<=e.shi/\e.shi<=1099511627776
 v:0<=e.vlo/\e.vlo<=e.vhi/\e.vhi<=2000
def zge{m:zD}(h:zcp m){x:Int}(r:List Int)(hx:0<=x/\x<m.jd.length)(act v:Int):0<=zcD m (x::r) act v/\zcD m (x::r) act v<=2000:=by
 have:=tops (zu9 h hx)
 grind [zcD,List.getD_cons_zero]
def zvQ{m:zD}(h:zcp m)(x:Int)(r:List Int)(len:Int)(hx:0<=x/\x<m.jd.length)(e:Ego)(he:znd e)(act:Int)(ha:zk0 act):R L Cs zgW [.a (zh m (x::r) len),.a (zch e),W act] []=some (.w (.a (zch (zaN m (x::r) e act))),[]):=by
 obtain⟨n,rfl⟩:=jA hx.1;have hn:n<m.jd.length:=wA
 have hk:=h.kind _ (jf hn);have hB:=zmo hk;have ek:zaK m n=m.jd[n].kind:=by simp[zaK,hn]
 have ht:=tops hk;have hs1:=zge h r hx act e.vlo;have hs2:=zge h r hx act e.vhi;have es:=he.s;have ev:=he.v;have hc:zgH m ((n:Int)::r) act=max (-zd4 m.jd[n].kind) (min act (zif m.jd[n].kind)):=by simp only[zgH,uz,ek]
 have hcb:-300<=zgH m ((n:Int)::r) act/\zgH m ((n:Int)::r) act<=100:=by rw[hc];omega
 have hD1:=fun p q=>ztm e.vlo (zgH m ((n:Int)::r) act) (zeR m.jd[n].kind) p q wA wA
 have hD2:=fun p q=>ztm e.vhi (zgH m ((n:Int)::r) act) (zeR m.jd[n].kind) p q wA wA
 have e1:max 0 (min (e.vlo+zgH m ((n:Int)::r) act) (zeR m.jd[n].kind))=zcD m ((n:Int)::r) act e.vlo:=by simp only[zcD,uz,ek]
 have e2:max 0 (min (e.vhi+zgH m ((n:Int)::r) act) (zeR m.jd[n].kind))=zcD m ((n:Int)::r) act e.vhi:=by simp only[zcD,uz,ek]
 rw[e1]at hD1;rw[e2]at hD2;have wB:=qB (-zd4 m.jd[n].kind);have w1:=qB (e.slo+zcD m ((n:Int)::r) act e.vlo);have w2:=qB (e.shi+zcD m ((n:Int)::r) act e.vhi);unfold zaN;rw[hc]at hD1 hD2;rw[zUa zly rfl];simp[zeZ,zh,zi,zo,hn,hB,wB,hD1,hD2,w1,w2,zch]
structure VB(m:zD)(b:zk):Prop where
 lane:0<=b.lane/\b.lane<m.jd.length
 lo:0<=b.lo
 le:b.lo<=b.hi
 hi:b.hi<=z8 m b.lane
 vlo:0<=b.vlo
 vle:b.vlo<=b.vhi
 vhi:b.vhi<=zeR (zaK m b.lane)
 hold:0<=b.hold/\b.hold<=z8 m b.lane
def zcY(m:zD)(b:zk)(line:Int):Bool:=decide (b.hi<line)&&(decide (b.hi+zet b.vhi (zd4 (zaK m b.lane))<line)||(decide (b.hold≠0)&&decide (b.hold<=line)))
def zcW(m:zD)(b:zk):Int:=max 0 (b.vlo-zd4 (zaK m b.lane))
def zde(m:zD)(b:zk):Int:=min (zeR (zaK m b.lane)) (b.vhi+zif (zaK m b.lane))
def zdC(m:zD)(red:List Int)(b:zk)(signals src:Bool):zk :=
 { lane:=b.lane,lo:=if src=true/\b.lo=0 then 0 else b.lo+zcW m b,
   hi:=match (if signals then red.find? (zcY m b) else none)with |some l=>min (b.hi+zde m b) (l-1) |none=>b.hi+zde m b,
   vlo:=zcW m b,vhi:=zde m b,hold:=((if signals then red.find? (zcY m b) else none)).getD 0 }
def zqp:∀(s:List Int) (l:List Bool) (i:Nat),i<l.length->(∀x∈s,0<=x)->(zkj l s).getD i false=(l.getD i false||decide ((i:Int)∈s))
 |[],l,i,_,_=>by simp[zkj]
 |x::s,l,i,hi,hs=>by
  have h0:=hs x (js ..);show(zkj (l.set x.toNat true) s).getD i false=_;rw[zqp s _ i (by grind) fun y hy=>hs y (jE _ hy)]
  grind
def zzq{v b:Int}(hv:v<=10000)(hb:1<=b/\b<=1000):∀(f:Nat),v<=f->f<=10000->0<=zet v b/\zet v b<=10000*f:=by
 intro f;induction f generalizing v with
 |zero=>grind [zki]
 |succ f ih =>
  grind [zsG,zki]
structure zDx(m:zD)(b:zk):Prop where
 k:zaK m b.lane=1\/zaK m b.lane=2\/zaK m b.lane=3
 t:1<=zd4 (zaK m b.lane)/\zd4 (zaK m b.lane)<=300/\1<=zif (zaK m b.lane)/\zif (zaK m b.lane)<=100/\300<=zeR (zaK m b.lane)/\zeR (zaK m b.lane)<=2000
 s:0<=zcW m b/\zcW m b<=2000
 f:0<=zde m b/\zde m b<=2000
 sf:zcW m b<=zde m b
 pos:b.lo<=1000000/\b.hi<=1000000
 st:0<=zet b.vhi (zd4 (zaK m b.lane))/\zet b.vhi (zd4 (zaK m b.lane))<=100000000
def zqQ{m:zD}(h:zcp m){b:zk}(hb:VB m b):zDx m b:=by
 have hk:=zu9 h hb.lane;have ht:=tops hk;have hl:=zcX h hb.lane;have a2:=hb.le;have a3:=hb.hi;have a4:=hb.vlo;have a5:=hb.vle;have a6:=hb.vhi;have hs:=zzq (v:=b.vhi) (b:=zd4 (zaK m b.lane)) wA wA 10000 wA wA;exact⟨hk,ht,by grind [zcW],by grind [zde],by grind [zcW,zde],wA,hs.1,wA⟩
def zyu{m:zD}(h:zcp m){b:zk}(hb:VB m b)(src:Bool)(red:List Int):(zdC m red b false src).lo<=(zdC m red b false src).hi:=by
 have ho:=zqQ h hb;have a2:=hb.le;have a3:=ho.sf;have a4:=ho.f;simp only[zdC,jI,if_false];split<;>omega
def zpT(m:zD)(b x:zk)(rr:List Int):zk:=match rr.find? (zcY m b)with |some l=>{ x with hi:=min x.hi (l-1),hold:=l } |none=>x
def zwF{m:zD}(r:List Int)(len:Int)(b x z:zk)(v:Nat)(hb:OKB b)(red:List Int)(hred:∀l∈red,-1000000000<=l/\l<=1000000000)(hlen:red.length<=1000):∀(rr:List Int) (i:Nat),red.drop i=rr->i<=red.length->∃E v',
  Y L Cs zb7 (some [85,84,14,5,86,13,8]) 4 [(85,.w (W red.length)),(84,.w (.c (.jb (zu red)))),(14,.w (W (b.hi+zet b.vhi (zd4 (zaK m b.lane))))),(5,.w (Pt 1)),(86,.w (W i)),(13,.w (Pt 3)),(8,.w (Pt 2))] [bx 11 (zh m r len),bx 6 (ze b),bx 6 (ze z),bxv v 6 (ze x)] =
    some (.exit 0,E,[bx 11 (zh m r len),bx 6 (ze b),bx 6 (ze z),bxv v' 6 (ze (zpT m b x rr))])/\E.get 13=some (.w (Pt 3))/\E.get 8=some (.w (Pt 2)):=by
 intro rr;induction rr with
 |nil =>
  intro i hd hi;obtain rfl:=zUb hd hi;rw[show zpT m b x []=x from rfl];refine⟨[(87,.w (Bo false)),(5,.w (Pt 1)),(14,.w (W (b.hi+zet b.vhi (zd4 (zaK m b.lane))))),(84,.w (.c (.jb (zu red)))),(85,.w (W red.length)),(86,.w (W red.length)),(13,.w (Pt 3)),(8,.w (Pt 2))],v,?_,wD⟩;rw[ZfM zb7.eq_1];simp
 |cons l rr ih =>
  intro i hd hi;obtain⟨hil,hl,hd'⟩:=zL hd;have hw:=zB (i:=i) wA;have hlb:=hred l (hl ▸ jf hil);by_cases c:zcY m b l=true
  ·rw[show zpT m b x (l::rr)={ x with hi:=min x.hi (l-1),hold:=l } by rw[zpT,List.find?_cons_of_pos c]];refine⟨[(13,.w (Pt 3)),(8,.w (Pt 2))],v+1+1,?_,wD⟩;have w1:=qB (l-1);rw[ZfM zb7.eq_1];clear ih;unfold zcY at c;simp only[jk,Av,decide_eq_true_eq]at c;obtain⟨c1,c2⟩:=c;by_cases c3:b.hi+zet b.vhi (zd4 (zaK m b.lane))<l
   ·simp[hil,hl,hw,w1,c1,c3,ze]
   ·have c2:=c2.resolve_left c3;have c4:(b.hold !=0)=true:=by simp[c2.1]
    simp[hil,hl,hw,w1,c1,c3,c2.1,c2.2,c4,ze]
  ·rw[show zpT m b x (l::rr)=zpT m b x rr by rw[zpT,List.find?_cons_of_neg c];rfl];obtain⟨E,v',h1,h2⟩:=ih (i+1) hd' hil;refine⟨E,v',?_,h2⟩;rw[<-h1,ZfM zb7.eq_1];clear ih h1 h2;have c:zcY m b l=false:=by simpa using c
   unfold zcY at c;by_cases c1:b.hi<l
   ·by_cases c2:b.hi+zet b.vhi (zd4 (zaK m b.lane))<l
    ·simp[c1,c2]at c
    ·by_cases c3:b.hold=0
     ·simp[hil,hl,hw,c1,c2,c3,ze]
     ·have c4:¬b.hold<=l:=by simp[c1,c2,c3]at c;omega
      have c3':(b.hold !=0)=true:=by simp[c3]
      simp[hil,hl,hw,c1,c2,c3,c3',c4,ze]
   ·simp[hil,hl,hw,c1,ze]
def zeA(zs:List Zon)(ss:List Sgn)(lane tick:Int):List Int:=zs.flatMap (zff ss lane tick)
def zBp{m:zD}{zs:List Zon}{ss:List Sgn}(h:zmq m zs ss)(lane tick:Int):zpN zs ss lane tick=zeA zs ss lane tick:=by
 have key:∀l:List Zon,(∀z∈l,(z.parts.map Prt.lane).Nodup)->l.flatMap (zqJ ss lane tick)=l.flatMap (zff ss lane tick):=by
  intro l;induction l with
  |nil=>grind
  |cons z l ih=>grind [zyf,List.mem_cons_self,List.mem_cons_of_mem]
 exact key zs h.nd
def zqK(zs:List Zon)(ss:List Sgn)(lane tick:Int):(zeA zs ss lane tick).length<=zs.length:=by
 unfold zeA;induction zs with
 |nil=>simp
 |cons z l ih =>
  grind [List.length_append,List.length_cons,zlX,List.length_nil]
def zuT{m:zD}{zs:List Zon}{ss:List Sgn}(h:zmq m zs ss){lane tick l:Int}(hl:l∈zeA zs ss lane tick):0<=l/\l<z8 m lane:=by
 unfold zeA at hl;rw[kj]at hl;obtain⟨z,hz,hl⟩:=hl;rcases zlX ss lane tick z with e |⟨p,hp,e⟩
 ·grind
 ·have h1:=yw hp;have h2:=qL hp;have h3:=h.pv z hz p h2
  grind
def zBW{m:zD}{zs:List Zon}{ss:List Sgn}(h:zmq m zs ss)(lane tick:Int):R L Cs zpy [.a (zf m),W lane,W tick] []=some (.w (.c (.jb (zu (zeA zs ss lane tick)))),[]):=by
 have e:=zBp h lane tick;have ha:=h.asc lane tick;have hl:=zqK zs ss lane tick;have hf:=h.zd.few;have:=zCQ h.zd lane tick (by rw[e];exact ha) (by grind)
 grind
def zqo(m:zD):∀(r:List zfn) (i:Nat),∀x∈zbK m i r,0<=x/\x<i+r.length
 |[],i,x,h=>by grind [zbK]
 |y::r,i,x,h=>by
  unfold zbK at h;rw[jl];split at h
  ·rcases jK.1 h with h|h
   ·grind
   ·have:=zqo m r (i+1) x h;omega
  ·have:=zqo m r (i+1) x h;omega
def zAU{m:zD}{zs:List Zon}{ss:List Sgn}(hf:zmq m zs ss)(r:List Int)(len:Int)(b:zk)(hb:VB m b)(tick:Int)(signals:Bool):R L Cs zgV [.a (zh m r len),.a (ze b),W tick,Bo signals] [] =
  some (.t [.a (ze (zdC m (zeA zs ss b.lane tick) b signals (decide (b.lane∈zbK m 0 m.jd)))),Bo (decide ((zdC m (zeA zs ss b.lane tick) b signals (decide (b.lane∈zbK m 0 m.jd))).lo<=(zdC m (zeA zs ss b.lane tick) b signals (decide (b.lane∈zbK m 0 m.jd))).hi))],[]):=by
 have h:=hf.qO;have ho:=zqQ h hb;have hle:=zyu h hb (decide (b.lane∈zbK m 0 m.jd)) (zeA zs ss b.lane tick);obtain⟨n,hn0⟩:=jA hb.lane.1;have hn:n<m.jd.length:=by have:=hb.lane.2;omega
 have hk:=h.kind _ (jf hn);have hB:=zmo hk;have ek:zaK m b.lane=m.jd[n].kind:=by grind [zaK]
 have a1:=hb.lo;have a2:=hb.le;have a4:=hb.vlo;have a5:=hb.vle;have a6:=hb.vhi;have ht:=ho.t;have hp:=ho.pos;have hs:=ho.s;have hff:=ho.f;have hst:=ho.st;have w1:IntKind.i64.wrap (b.vlo-zd4 m.jd[n].kind)=b.vlo-zd4 m.jd[n].kind:=by grind [zTd]
 have w2:IntKind.i64.wrap (b.vhi+zif m.jd[n].kind)=b.vhi+zif m.jd[n].kind:=by grind [zTd]
 have e1:max 0 (b.vlo-zd4 m.jd[n].kind)=zcW m b:=by rw[zcW,ek]
 have e2:min (zeR m.jd[n].kind) (b.vhi+zif m.jd[n].kind)=zde m b:=by rw[zde,ek]
 have w3:=qB (b.lo+zcW m b);have w4:=qB (b.hi+zde m b);have hsrc:(zkj (List.replicate m.jd.length false) (zbK m 0 m.jd))[n]?=some (decide (b.lane∈zbK m 0 m.jd)):=by
  have hl:n<(zkj (List.replicate m.jd.length false) (zbK m 0 m.jd)).length:=by grind [znN]
  have:=zqp (zbK m 0 m.jd) (List.replicate m.jd.length false) n (by grind) (fun x hx=>(zqo m m.jd 0 x hx).1)
  grind
 have hsl:n<(zkj (List.replicate m.jd.length false) (zbK m 0 m.jd)).length:=(jy.1 hsrc).1;have hsg:(zkj (List.replicate m.jd.length false) (zbK m 0 m.jd))[n]=decide (b.lane∈zbK m 0 m.jd):=(jy.1 hsrc).2;have hred:=fun l hl=>zuT hf (lane:=b.lane) (tick:=tick) (l:=l) hl
 have hrl:=zqK zs ss b.lane tick;have hzf:=hf.zd.few;have hln:=zcX h hb.lane;have hR:=zBW hf b.lane tick;have hS:=zBV b.vhi (zd4 m.jd[n].kind) wA (by grind);have w5:IntKind.i64.wrap (b.hi+zet b.vhi (zd4 m.jd[n].kind))=b.hi+zet b.vhi (zd4 m.jd[n].kind):=by grind [zTd]
 generalize hsrcE:decide (b.lane∈zbK m 0 m.jd)=src at *;rw[zUa zlx rfl];cases signals with
 |false =>
  have hb1:decide ((zdC m (zeA zs ss b.lane tick) b false src).lo<=(zdC m (zeA zs ss b.lane tick) b false src).hi)=true:=by simpa using hle
  rw[hb1];by_cases c:b.lo=0
  ·cases src with
   |true=>simp[za9,zh,zi,zo,ze,hn0,hn,hB,w1,w2,e1,e2,w3,w4,hsg,hsl,c,zdC]
   |false =>
    rw[c,Int.zero_add]at w3;simp[za9,zh,zi,zo,ze,hn0,hn,hB,w1,w2,e1,e2,w3,w4,hsg,hsl,c,zdC]
  ·have c':(b.lo==0)=false:=by simp[c]
   simp[za9,zh,zi,zo,ze,hn0,hn,hB,w1,w2,e1,e2,w3,w4,hsg,hsl,c,c',zdC]
 |true =>
  rw[ek]at hst;have hmv:zdC m (zeA zs ss b.lane tick) b true src=zpT m b ⟨b.lane,if src=true/\b.lo=0 then 0 else b.lo+zcW m b,b.hi+zde m b,zcW m b,zde m b,0⟩ (zeA zs ss b.lane tick):=by
   simp only[zdC,zpT,if_true];cases (zeA zs ss b.lane tick).find? (zcY m b)<;>rfl
  have BO:=fun x v=>zwF (m:=m) r len b x z9 v ⟨wA,wA,wA,wA⟩ (zeA zs ss b.lane tick) (fun l hl=>by have:=hred l hl;omega) wA (zeA zs ss b.lane tick) 0 rfl (jr _)
  rw[hmv];generalize zeA zs ss b.lane tick=red at *;rw[hn0]at hR;simp only[zf]at hR;by_cases c:b.lo=0
  ·cases src with
   |true =>
    obtain⟨E,v',h1,h2,h3⟩:=BO ⟨b.lane,0,b.hi+zde m b,zcW m b,zde m b,0⟩ 7;have hx:(if true=true/\b.lo=0 then 0 else b.lo+zcW m b)=0:=if_pos ⟨rfl,c⟩;rw[hx];generalize zpT m b ⟨b.lane,0,b.hi+zde m b,zcW m b,zde m b,0⟩ red=y at *;rw[ek]at h1;simp only[jg,zh,zi,ze,hn0,c]at h1;simp[za9,zh,zi,zo,ze,zf,hn0,hn,hB,w1,w2,e1,e2,w3,w4,w5,hsg,hsl,c,hR,hS,h1,h2,h3]
   |false =>
    obtain⟨E,v',h1,h2,h3⟩:=BO ⟨b.lane,b.lo+zcW m b,b.hi+zde m b,zcW m b,zde m b,0⟩ 6;have hx:(if false=true/\b.lo=0 then 0 else b.lo+zcW m b)=b.lo+zcW m b:=if_neg (fun h=>by cases h.1);rw[hx];generalize zpT m b ⟨b.lane,b.lo+zcW m b,b.hi+zde m b,zcW m b,zde m b,0⟩ red=y at *;rw[ek]at h1;simp only[jg,zh,zi,ze,hn0,c,Int.zero_add]at h1;rw[c,Int.zero_add]at w3;simp[za9,zh,zi,zo,ze,zf,hn0,hn,hB,w1,w2,e1,e2,w3,w4,w5,hsg,hsl,c,hR,hS,h1,h2,h3]
  ·have c':(b.lo==0)=false:=by simp[c]
   obtain⟨E,v',h1,h2,h3⟩:=BO ⟨b.lane,b.lo+zcW m b,b.hi+zde m b,zcW m b,zde m b,0⟩ 6;have hx:(if src=true/\b.lo=0 then 0 else b.lo+zcW m b)=b.lo+zcW m b:=if_neg (fun h=>c h.2);rw[hx];generalize zpT m b ⟨b.lane,b.lo+zcW m b,b.hi+zde m b,zcW m b,zde m b,0⟩ red=y at *;rw[ek]at h1;simp only[jg,zh,zi,ze,hn0]at h1;simp[za9,zh,zi,zo,ze,zf,hn0,hn,hB,w1,w2,e1,e2,w3,w4,w5,hsg,hsl,c,c',hR,hS,h1,h2,h3]
def zgo(l:List Int)(x:Int):Option Nat:=l.findIdx? fun y=>decide (y=x)
def zfT{l:List Int}{x:Int}{i:Nat}(h:zgo l x=some i):∃hi:i<l.length,l[i]=x:=by
 obtain⟨h1,h2,_⟩:=j6.1 h
 grind
def zoq(l:List Int)(x:Int)(hl:l.length<=100000):R L Cs zf1 [.c (.jb (zu l)),W x] []=some (.w (W (zbe (zgo l x))),[]):=by
 obtain⟨h1,h2⟩:=zpv l x hl l 0 rfl (jr _);simp only[jg]at h1 h2;by_cases h:x∈l
 ·obtain⟨k,hk,hk1,hk2⟩:=h2 h;obtain⟨hkl,hkx⟩:=jy.1 hk1;have e:zgo l x=some k:=by
   refine j6.2 ⟨hkl,by grind,fun j hj=>?_⟩
   grind
  rw[e,zUa zeL rfl];simp[zcI,hk,zbe]
 ·obtain⟨E',hE⟩:=h1 h;have e:zgo l x=none:=qM.2 fun y hy=>by
   have:y≠x:=fun e=>h (e ▸ hy)
   simp[this]
  rw[e,zUa zeL rfl];simp[zcI,hE,zbe]
def kM(m:zD)(r:List Int)(i:Nat):Int:=(zW m 0 r).getD i 0
def zcV(r:List Int)(lane:Int)(cap:Bool):Bool:=cap&&(zgo r lane).isSome
def zcj(m:zD)(r:List Int)(bar lane hi:Int)(cap:Bool):Int:=match zgo r lane with
 |some i=>if cap then min hi (min (z8 m lane) (bar-kM m r i)) else min hi (z8 m lane)
 |none=>min hi (z8 m lane)
abbrev LB:=zk×Bool
def lbC(x:LB):List Cl:=[I x.1.lane,I x.1.lo,I x.1.hi,I x.1.vlo,I x.1.vhi,I x.1.hold,.bool x.2]
def zdz(l:List LB):List (List Cl):=l.map lbC
@[simp] def zx8(l:List LB):(zdz l).length=l.length:=by simp[zdz]
@[simp] def zgf:zdz []=[]:=rfl
@[simp] def zfd(x:LB)(l:List LB):zdz (x::l)=lbC x::zdz l:=rfl
@[simp] def zx9(l k:List LB):zdz (l++k)=zdz l++zdz k:=by simp[zdz]
@[simp] def zBc{l:List LB}{i:Nat}(h:i<(zdz l).length):(zdz l)[i]=lbC (l[i]'(by simpa using h)):=by simp[zdz]
@[simp] def zCs(l:List LB):(zdz l).take l.length=zdz l:=jx wD
def zhO(m:zD)(r:List Int)(bar:Int)(b:zk)(lo hi:Int)(cap:Bool):zk:=⟨b.lane,max 0 lo,zcj m r bar b.lane hi cap,b.vlo,b.vhi,b.hold⟩
def stays(m:zD)(r:List Int)(bar:Int)(b:zk)(lo hi:Int)(cap:Bool):Bool:=decide (lo<=z8 m b.lane)&&decide (max 0 lo<=zcj m r bar b.lane hi cap)
def zbA(m:zD)(r:List Int)(bar:Int)(b:zk)(lo hi:Int)(cap:Bool):List LB :=
 if stays m r bar b lo hi cap=true then [(zhO m r bar b lo hi cap,zcV r b.lane cap)] else []
def zm(m:zD)(r:List Int)(len bar:Int)(e:Ego):List Cl:=zh m r len++[I bar,I e.slo,I e.shi,I e.vlo,I e.vhi]
abbrev zbt(j:Nat):Option Blk:=some { box:=true,esz:=1,rows:=[[.fn zcg [] [.ptr 0 0 0 0,.ptr 1 0 0 0,.ptr j 0 0 0]]],gen:=0,fz:=false,ver:=1 }
structure ziO(m:zD)(r:List Int)(bar:Int):Prop where
 qO:zcp m
 len:r.length<=8
 on:zj2 m r
 bar:-4000000000000<=bar/\bar<=4000000000000
def zqm{m:zD}(h:zcp m):∀(r:List Int),zj2 m r->∀(a:Int) (i:Nat),0<=a->i<r.length->a<=(zW m a r).getD i 0/\(zW m a r).getD i 0<=a+1000000*i
 |[],_,a,i,_,hi=>by grind
 |x::r,hon,a,0,ha,_=>by simp[zW]
 |x::r,hon,a,i+1,ha,hi=>by
  have hx:=zcX h (hon x (js ..));have:=zqm h r (fun y hy=>hon y (jE _ hy)) (a+z8 m x) i wA (by grind)
  grind [zW,List.getD_cons_succ]
def zmA{m:zD}{r:List Int}{bar:Int}(h:ziO m r bar){i:Nat}(hi:i<r.length):0<=kM m r i/\kM m r i<=8000000:=by
 have:=zqm h.qO r h.on 0 i (jQ _) hi;have h8:=h.len
 grind [kM]
def zz6{m:zD}{r:List Int}{bar:Int}(h:ziO m r bar)(len:Int)(e:Ego)(b:zk)(hb:0<=b.lane/\b.lane<m.jd.length)(hn:zS m b.lane=[])(lo hi:Int)(hlo:-100000000<=lo/\lo<=100000000)(hhi:-100000000<=hi/\hi<=100000000)(cap:Bool)(l:List LB)(hl:l.length<=1000)(v:Nat) :
  R L Cs zcg [.a (ze b),W lo,W hi,Bo cap,Pt 0,Pt 1,Pt 3] [bx 16 (zm m r len bar e),bxv v 1 [.slice 2 l.length 7 0 l.length none],some (own 7 (zdz l)),zbt 3] =
    some (.t [],[bx 16 (zm m r len bar e),bxv (if stays m r bar b lo hi cap=true then v+1 else v) 1 [.slice 2 (l++zbA m r bar b lo hi cap).length 7 0 (l++zbA m r bar b lo hi cap).length none],some (own 7 (zdz (l++zbA m r bar b lo hi cap))),zbt 3]):=by
 obtain⟨n,hn0⟩:=jA hb.1;have hnl:n<m.jd.length:=wA
 have hI:=zoq r b.lane (by have:=h.len;omega);have hlen:=zcX h.qO hb;have el:z8 m b.lane=m.jd[n].len:=by grind [z8]
 have en:m.jd[n].next=[]:=by grind [zS]
 have hY:∀(n0:Nat) (a c d e1 f g q s u1:AV) (M:Mem),Y L Cs zU (some [89,88,87,7,12,4,6,1,2,11,3]) n0 [(89,.w (W 0)),(88,.w (W 0)),(87,a),(7,c),(12,d),(4,e1),(6,f),(1,g),(2,q),(11,s),(3,u1)] M=some (.exit 0,[(90,.w (Bo false)),(89,.w (W 0)),(88,.w (W 0)),(87,a),(7,c),(12,d),(4,e1),(6,f),(1,g),(2,q),(11,s),(3,u1)],M):=by
  intro n0 a c d e1 f g q s u1 M;rw[ZfM zU.eq_1];simp
 have hrm:(l.length+1)*56<=140737488355328:=wA
 rw[el]at hlen;cases hix:zgo r b.lane with
 |none =>
  rw[hix]at hI;simp only[hn0,zbe]at hI;cases cap with
  |true =>
   have ec:zcV r b.lane true=false:=by simp[zcV,hix]
   have et:zcj m r bar b.lane hi true=min hi m.jd[n].len:=by simp[zcj,hix,el]
   unfold zbA stays zhO;rw[ec,et,el,zUa zam rfl];by_cases d1:lo<=m.jd[n].len
   ·by_cases d2:max 0 lo<=min hi m.jd[n].len
    ·by_cases d3:hi<m.jd[n].len
     ·simp[za,zm,zh,zi,ze,zo,hn0,hnl,hI,d1,d2,d3,hrm,en,hY,lbC,zg,zr]
     ·simp[za,zm,zh,zi,ze,zo,hn0,hnl,hI,d1,d2,d3,hrm,en,hY,lbC,zg,zr]
    ·by_cases d3:hi<m.jd[n].len
     ·simp[za,zm,zh,zi,ze,zo,hn0,hnl,hI,d1,d2,d3,hrm,en,hY,lbC,zg,zr]
     ·simp[za,zm,zh,zi,ze,zo,hn0,hnl,hI,d1,d2,d3,hrm,en,hY,lbC,zg,zr]
   ·by_cases d3:hi<m.jd[n].len
    ·simp[za,zm,zh,zi,ze,zo,hn0,hnl,hI,d1,d3,hrm,en,hY,lbC,zg,zr]
    ·simp[za,zm,zh,zi,ze,zo,hn0,hnl,hI,d1,d3,hrm,en,hY,lbC,zg,zr]
  |false =>
   have ec:zcV r b.lane false=false:=by simp[zcV,hix]
   have et:zcj m r bar b.lane hi false=min hi m.jd[n].len:=by simp[zcj,hix,el]
   unfold zbA stays zhO;rw[ec,et,el,zUa zam rfl];by_cases d1:lo<=m.jd[n].len
   ·by_cases d2:max 0 lo<=min hi m.jd[n].len
    ·by_cases d3:hi<m.jd[n].len
     ·simp[za,zm,zh,zi,ze,zo,hn0,hnl,hI,d1,d2,d3,hrm,en,hY,lbC,zg,zr]
     ·simp[za,zm,zh,zi,ze,zo,hn0,hnl,hI,d1,d2,d3,hrm,en,hY,lbC,zg,zr]
    ·by_cases d3:hi<m.jd[n].len
     ·simp[za,zm,zh,zi,ze,zo,hn0,hnl,hI,d1,d2,d3,hrm,en,hY,lbC,zg,zr]
     ·simp[za,zm,zh,zi,ze,zo,hn0,hnl,hI,d1,d2,d3,hrm,en,hY,lbC,zg,zr]
   ·by_cases d3:hi<m.jd[n].len
    ·simp[za,zm,zh,zi,ze,zo,hn0,hnl,hI,d1,d3,hrm,en,hY,lbC,zg,zr]
    ·simp[za,zm,zh,zi,ze,zo,hn0,hnl,hI,d1,d3,hrm,en,hY,lbC,zg,zr]
 |some i =>
  obtain⟨hil,_⟩:=zfT hix;have hsb:=zmA h hil;have Dh:=h.bar;have wS:=qB (bar-kM m r i);have hsl:i<(zW m 0 r).length:=by rw[zcO];exact hil
  have hsi:(zW m 0 r)[i]=kM m r i:=by simp[kM,hsl]
  rw[hix]at hI;simp only[hn0,zbe]at hI;cases cap with
  |true =>
   have ec:zcV r b.lane true=true:=by simp[zcV,hix]
   have et:zcj m r bar b.lane hi true=min hi (min m.jd[n].len (bar-kM m r i)):=by simp[zcj,hix,el]
   unfold zbA stays zhO;rw[ec,et,el,zUa zam rfl];by_cases d1:lo<=m.jd[n].len
   ·by_cases d2:max 0 lo<=min hi (min m.jd[n].len (bar-kM m r i))
    ·by_cases d3:hi<m.jd[n].len
     ·simp[za,zm,zh,zi,ze,zo,hn0,hnl,hI,hil,hsl,hsi,wS,d1,d2,d3,hrm,en,hY,lbC,zg,zr]
     ·simp[za,zm,zh,zi,ze,zo,hn0,hnl,hI,hil,hsl,hsi,wS,d1,d2,d3,hrm,en,hY,lbC,zg,zr]
    ·by_cases d3:hi<m.jd[n].len
     ·simp[za,zm,zh,zi,ze,zo,hn0,hnl,hI,hil,hsl,hsi,wS,d1,d2,d3,hrm,en,hY,lbC,zg,zr]
     ·simp[za,zm,zh,zi,ze,zo,hn0,hnl,hI,hil,hsl,hsi,wS,d1,d2,d3,hrm,en,hY,lbC,zg,zr]
   ·by_cases d3:hi<m.jd[n].len
    ·simp[za,zm,zh,zi,ze,zo,hn0,hnl,hI,hil,hsl,hsi,wS,d1,d3,hrm,en,hY,lbC,zg,zr]
    ·simp[za,zm,zh,zi,ze,zo,hn0,hnl,hI,hil,hsl,hsi,wS,d1,d3,hrm,en,hY,lbC,zg,zr]
  |false =>
   have ec:zcV r b.lane false=false:=by simp[zcV,hix]
   have et:zcj m r bar b.lane hi false=min hi m.jd[n].len:=by simp[zcj,hix,el]
   unfold zbA stays zhO;rw[ec,et,el,zUa zam rfl];by_cases d1:lo<=m.jd[n].len
   ·by_cases d2:max 0 lo<=min hi m.jd[n].len
    ·by_cases d3:hi<m.jd[n].len
     ·simp[za,zm,zh,zi,ze,zo,hn0,hnl,hI,hil,hsl,hsi,wS,d1,d2,d3,hrm,en,hY,lbC,zg,zr]
     ·simp[za,zm,zh,zi,ze,zo,hn0,hnl,hI,hil,hsl,hsi,wS,d1,d2,d3,hrm,en,hY,lbC,zg,zr]
    ·by_cases d3:hi<m.jd[n].len
     ·simp[za,zm,zh,zi,ze,zo,hn0,hnl,hI,hil,hsl,hsi,wS,d1,d2,d3,hrm,en,hY,lbC,zg,zr]
     ·simp[za,zm,zh,zi,ze,zo,hn0,hnl,hI,hil,hsl,hsi,wS,d1,d2,d3,hrm,en,hY,lbC,zg,zr]
   ·by_cases d3:hi<m.jd[n].len
    ·simp[za,zm,zh,zi,ze,zo,hn0,hnl,hI,hil,hsl,hsi,wS,d1,d3,hrm,en,hY,lbC,zg,zr]
    ·simp[za,zm,zh,zi,ze,zo,hn0,hnl,hI,hil,hsl,hsi,wS,d1,d3,hrm,en,hY,lbC,zg,zr]
def zbi(r:List Int)(lane x:Int):Bool:=match zgo r lane,zgo r x with
 |some i,some j=>decide (j=i+1)
 |_,_=>false
def zb2(m:zD)(r:List Int)(slo lane x:Int):Bool:=match zgo r x with
 |some j=>!zbi r lane x&&decide (kM m r j<=slo)
 |none=>false
def zhq(m:zD)(r:List Int)(slo lane x:Int)(cap:Bool):Bool:=(zbi r lane x&&zcV r lane cap)||zb2 m r slo lane x
def za6(b:zk)(x:Int):zk:=⟨x,b.lo,b.hi,b.vlo,b.vhi,0⟩
abbrev lyE(m:zD)(r:List Int)(b:zk)(lo hi:Int)(cap:Bool)(i:Nat):Env:=[(89,.w (W i)),(88,.w (W (zS m b.lane).length)),(87,.w (.c (.jb (zu (zS m b.lane))))),(7,.w (Pt 3)),(12,.w (W (zbe (zgo r b.lane)))),(4,.w (Pt 0)),(6,.w (Pt 2)),(1,.w (W lo)),(2,.w (W hi)),(11,.w (W (z8 m b.lane))),(3,.w (Bo (zcV r b.lane cap)))]
def zxc(l:List Int)(x:Int)(hl:l.length<=100000)(M:Mem):zx (R L Cs) ⟨true⟩ (.c (.fn zf1 [] [])) [.c (.jb (zu l)),W x] M=some (.w (W (zbe (zgo l x))),M,.no):=by
 simp_all [zoq]
def zqW{m:zD}{r:List Int}{bar:Int}(h:ziO m r bar)(len:Int)(e:Ego)(b:zk)(hb:0<=b.lane/\b.lane<m.jd.length)(lo hi:Int)(hlo:-100000000<=lo/\lo<=100000000)(hhi:-100000000<=hi/\hi<=100000000)(cap:Bool)(n0:Nat)(i:Nat)(hi1:i<(zS m b.lane).length)(hi2:i<1000)(O:Option Blk)(T M2:Mem)(fp:FP)
  (qE:zx (R L Cs) ⟨true⟩ (.c (.fn zcg [] [.ptr 0 0 0 0,.ptr 1 0 0 0,.ptr 2 0 0 0])) [.a (ze (za6 b (zS m b.lane)[i])),W (lo-z8 m b.lane),W (hi-z8 m b.lane),Bo (zhq m r e.slo b.lane (zS m b.lane)[i] cap)] (bx 16 (zm m r len bar e)::O::zbt 2::bx 6 (ze b)::(T++[bxv 3 6 (ze (za6 b (zS m b.lane)[i]))]))=some (.t [],M2,fp)) :
  Y L Cs zU (some [89,88,87,7,12,4,6,1,2,11,3]) n0 (lyE m r b lo hi cap i) (bx 16 (zm m r len bar e)::O::zbt 2::bx 6 (ze b)::T) =
    Y L Cs zU (some [89,88,87,7,12,4,6,1,2,11,3]) n0 (lyE m r b lo hi cap (i+1)) (km n0 (lyE m r b lo hi cap (i+1)) M2):=by
 have hlen:=zcX h.qO hb;have hw:=zB (i:=i) wA;have hI:=zxc r (zS m b.lane)[i] (by have:=h.len;omega);have w1:=qB (lo-z8 m b.lane);have w2:=qB (hi-z8 m b.lane);rw[ZfM zU.eq_1];generalize hx:(zS m b.lane)[i]=x at *;simp only[zm,zh,zi,ze,za6,jh,je]at qE ⊢;cases hL:zgo r b.lane with
 |none =>
  have hcT:zcV r b.lane cap=false:=by simp[zcV,hL]
  cases hX:zgo r x with
  |none =>
   rw[hX]at hI;simp only[zbe]at hI;have hc:zhq m r e.slo b.lane x cap=false:=by simp[zhq,zb2,zbi,zcV,hL,hX]
   rw[hc]at qE;simp[lyE,hi1,hx,hw,w1,w2,hI,zbe,zg,qE,hL,hcT,-zx,-km]
  |some j =>
   obtain⟨hjl,_⟩:=zfT hX;have hsl:j<(zW m 0 r).length:=by rw[zcO];exact hjl
   have hsi:(zW m 0 r)[j]=kM m r j:=by simp[kM,hsl]
   rw[hX]at hI;simp only[zbe]at hI;by_cases d:kM m r j<=e.slo
   ·have hc:zhq m r e.slo b.lane x cap=true:=by simp[zhq,zb2,zbi,zcV,hL,hX,d]
    rw[hc]at qE;simp[lyE,hi1,hx,hw,w1,w2,hI,zbe,zg,qE,hL,hcT,hjl,hsl,hsi,d,-zx,-km]
   ·have hc:zhq m r e.slo b.lane x cap=false:=by simp[zhq,zb2,zbi,zcV,hL,hX,d]
    rw[hc]at qE;simp[lyE,hi1,hx,hw,w1,w2,hI,zbe,zg,qE,hL,hcT,hjl,hsl,hsi,d,-zx,-km]
 |some q =>
  obtain⟨hql,_⟩:=zfT hL;have hq8:=h.len;have hwq:IntKind.i64.wrap ((q:Int)+1)=((q+1:Nat):Int):=zB wA;have hcT:zcV r b.lane cap=cap:=by simp[zcV,hL]
  cases hX:zgo r x with
  |none =>
   rw[hX]at hI;simp only[zbe]at hI;have hne:((-1:Int)==((q:Int)+1))=false:=by simp;omega
   have hc:zhq m r e.slo b.lane x cap=false:=by simp[zhq,zb2,zbi,zcV,hL,hX]
   rw[hc]at qE;simp[lyE,hi1,hx,hw,w1,w2,hI,zbe,zg,qE,hL,hcT,hwq,hne,-zx,-km]
  |some j =>
   obtain⟨hjl,_⟩:=zfT hX;have hsl:j<(zW m 0 r).length:=by rw[zcO];exact hjl
   have hsi:(zW m 0 r)[j]=kM m r j:=by simp[kM,hsl]
   rw[hX]at hI;simp only[zbe]at hI;by_cases f:j=q+1
   ·subst f;have hq0:(0:Int)<=(q:Int)+1:=wA
    cases cap with
    |true =>
     have hc:zhq m r e.slo b.lane x true=true:=by simp[zhq,zb2,zbi,zcV,hL,hX]
     rw[hc]at qE;simp[lyE,hi1,hx,hw,w1,w2,hI,zbe,zg,qE,hL,hcT,hwq,hq0,-zx,-km]
    |false =>
     have hc:zhq m r e.slo b.lane x false=false:=by simp[zhq,zb2,zbi,zcV,hL,hX]
     rw[hc]at qE;simp[lyE,hi1,hx,hw,w1,w2,hI,zbe,zg,qE,hL,hcT,hwq,hq0,-zx,-km]
   ·have hne:((j:Int)==((q:Int)+1))=false:=by simp;omega
    by_cases d:kM m r j<=e.slo
    ·have hc:zhq m r e.slo b.lane x cap=true:=by simp[zhq,zb2,zbi,zcV,hL,hX,f,d]
     rw[hc]at qE;simp[lyE,hi1,hx,hw,w1,w2,hI,zbe,zg,qE,hL,hcT,hwq,hne,f,hjl,hsl,hsi,d,-zx,-km]
    ·have hc:zhq m r e.slo b.lane x cap=false:=by simp[zhq,zb2,zbi,zcV,hL,hX,f,d]
     rw[hc]at qE;simp[lyE,hi1,hx,hw,w1,w2,hI,zbe,zg,qE,hL,hcT,hwq,hne,f,hjl,hsl,hsi,d,-zx,-km]
abbrev zbT(x:LB):Option Blk:=some { box:=false,esz:=7,rows:=[lbC x],gen:=1,fz:=false,ver:=1 }
def zyJ{m:zD}{r:List Int}{bar:Int}(h:ziO m r bar)(len:Int)(e:Ego)(b:zk)(hb:0<=b.lane/\b.lane<m.jd.length)(hn:zS m b.lane=[])(lo hi:Int)(hlo:-100000000<=lo/\lo<=100000000)(hhi:-100000000<=hi/\hi<=100000000)(cap:Bool)(v:Nat) :
  R L Cs zcg [.a (ze b),W lo,W hi,Bo cap,Pt 0,Pt 1,Pt 2] [bx 16 (zm m r len bar e),bxv v 1 [.jc],zbt 2] =
    some (.t [],if stays m r bar b lo hi cap=true then [bx 16 (zm m r len bar e),bxv (v+1) 1 [.slice 3 1 7 0 1 none],zbt 2,zbT (zhO m r bar b lo hi cap,zcV r b.lane cap)] else [bx 16 (zm m r len bar e),bxv v 1 [.jc],zbt 2]):=by
 obtain⟨n,hn0⟩:=jA hb.1;have hnl:n<m.jd.length:=wA
 have hI:=zoq r b.lane (by have:=h.len;omega);have hlen:=zcX h.qO hb;have el:z8 m b.lane=m.jd[n].len:=by rw[hn0];simp[z8,hnl]
 have en:m.jd[n].next=[]:=by rw[<-hn,hn0];simp[zS,hnl]
 have hY:∀(n0:Nat) (a c d e1 f g q s u1:AV) (M:Mem),Y L Cs zU (some [89,88,87,7,12,4,6,1,2,11,3]) n0 [(89,.w (W 0)),(88,.w (W 0)),(87,a),(7,c),(12,d),(4,e1),(6,f),(1,g),(2,q),(11,s),(3,u1)] M=some (.exit 0,[(90,.w (Bo false)),(89,.w (W 0)),(88,.w (W 0)),(87,a),(7,c),(12,d),(4,e1),(6,f),(1,g),(2,q),(11,s),(3,u1)],M):=by
  intro n0 a c d e1 f g q s u1 M;rw[ZfM zU.eq_1];simp
 rw[el]at hlen;cases hix:zgo r b.lane with
 |none =>
  rw[hix]at hI;simp only[hn0,zbe]at hI;cases cap with
  |true =>
   have ec:zcV r b.lane true=false:=by simp[zcV,hix]
   have et:zcj m r bar b.lane hi true=min hi m.jd[n].len:=by simp[zcj,hix,el]
   unfold stays zhO;rw[ec,et,el,zUa zam rfl];by_cases d1:lo<=m.jd[n].len
   ·by_cases d2:max 0 lo<=min hi m.jd[n].len
    ·by_cases d3:hi<m.jd[n].len
     ·simp[za,zm,zh,zi,ze,zo,hn0,hnl,hI,d1,d2,d3,en,hY,lbC,zg,zr,List.range,List.range.loop]
     ·simp[za,zm,zh,zi,ze,zo,hn0,hnl,hI,d1,d2,d3,en,hY,lbC,zg,zr,List.range,List.range.loop]
    ·by_cases d3:hi<m.jd[n].len
     ·simp[za,zm,zh,zi,ze,zo,hn0,hnl,hI,d1,d2,d3,en,hY,lbC,zg,zr,List.range,List.range.loop]
     ·simp[za,zm,zh,zi,ze,zo,hn0,hnl,hI,d1,d2,d3,en,hY,lbC,zg,zr,List.range,List.range.loop]
   ·by_cases d3:hi<m.jd[n].len
    ·simp[za,zm,zh,zi,ze,zo,hn0,hnl,hI,d1,d3,en,hY,lbC,zg,zr,List.range,List.range.loop]
    ·simp[za,zm,zh,zi,ze,zo,hn0,hnl,hI,d1,d3,en,hY,lbC,zg,zr,List.range,List.range.loop]
  |false =>
   have ec:zcV r b.lane false=false:=by simp[zcV,hix]
   have et:zcj m r bar b.lane hi false=min hi m.jd[n].len:=by simp[zcj,hix,el]
   unfold stays zhO;rw[ec,et,el,zUa zam rfl];by_cases d1:lo<=m.jd[n].len
   ·by_cases d2:max 0 lo<=min hi m.jd[n].len
    ·by_cases d3:hi<m.jd[n].len
     ·simp[za,zm,zh,zi,ze,zo,hn0,hnl,hI,d1,d2,d3,en,hY,lbC,zg,zr,List.range,List.range.loop]
     ·simp[za,zm,zh,zi,ze,zo,hn0,hnl,hI,d1,d2,d3,en,hY,lbC,zg,zr,List.range,List.range.loop]
    ·by_cases d3:hi<m.jd[n].len
     ·simp[za,zm,zh,zi,ze,zo,hn0,hnl,hI,d1,d2,d3,en,hY,lbC,zg,zr,List.range,List.range.loop]
     ·simp[za,zm,zh,zi,ze,zo,hn0,hnl,hI,d1,d2,d3,en,hY,lbC,zg,zr,List.range,List.range.loop]
   ·by_cases d3:hi<m.jd[n].len
    ·simp[za,zm,zh,zi,ze,zo,hn0,hnl,hI,d1,d3,en,hY,lbC,zg,zr,List.range,List.range.loop]
    ·simp[za,zm,zh,zi,ze,zo,hn0,hnl,hI,d1,d3,en,hY,lbC,zg,zr,List.range,List.range.loop]
 |some i =>
  obtain⟨hil,_⟩:=zfT hix;have hsb:=zmA h hil;have Dh:=h.bar;have wS:=qB (bar-kM m r i);have hsl:i<(zW m 0 r).length:=by rw[zcO];exact hil
  have hsi:(zW m 0 r)[i]=kM m r i:=by simp[kM,hsl]
  rw[hix]at hI;simp only[hn0,zbe]at hI;cases cap with
  |true =>
   have ec:zcV r b.lane true=true:=by simp[zcV,hix]
   have et:zcj m r bar b.lane hi true=min hi (min m.jd[n].len (bar-kM m r i)):=by simp[zcj,hix,el]
   unfold stays zhO;rw[ec,et,el,zUa zam rfl];by_cases d1:lo<=m.jd[n].len
   ·by_cases d2:max 0 lo<=min hi (min m.jd[n].len (bar-kM m r i))
    ·by_cases d3:hi<m.jd[n].len
     ·simp[za,zm,zh,zi,ze,zo,hn0,hnl,hI,hil,hsl,hsi,wS,d1,d2,d3,en,hY,lbC,zg,zr,List.range,List.range.loop]
     ·simp[za,zm,zh,zi,ze,zo,hn0,hnl,hI,hil,hsl,hsi,wS,d1,d2,d3,en,hY,lbC,zg,zr,List.range,List.range.loop]
    ·by_cases d3:hi<m.jd[n].len
     ·simp[za,zm,zh,zi,ze,zo,hn0,hnl,hI,hil,hsl,hsi,wS,d1,d2,d3,en,hY,lbC,zg,zr,List.range,List.range.loop]
     ·simp[za,zm,zh,zi,ze,zo,hn0,hnl,hI,hil,hsl,hsi,wS,d1,d2,d3,en,hY,lbC,zg,zr,List.range,List.range.loop]
   ·by_cases d3:hi<m.jd[n].len
    ·simp[za,zm,zh,zi,ze,zo,hn0,hnl,hI,hil,hsl,hsi,wS,d1,d3,en,hY,lbC,zg,zr,List.range,List.range.loop]
    ·simp[za,zm,zh,zi,ze,zo,hn0,hnl,hI,hil,hsl,hsi,wS,d1,d3,en,hY,lbC,zg,zr,List.range,List.range.loop]
  |false =>
   have ec:zcV r b.lane false=false:=by simp[zcV,hix]
   have et:zcj m r bar b.lane hi false=min hi m.jd[n].len:=by simp[zcj,hix,el]
   unfold stays zhO;rw[ec,et,el,zUa zam rfl];by_cases d1:lo<=m.jd[n].len
   ·by_cases d2:max 0 lo<=min hi m.jd[n].len
    ·by_cases d3:hi<m.jd[n].len
     ·simp[za,zm,zh,zi,ze,zo,hn0,hnl,hI,hil,hsl,hsi,wS,d1,d2,d3,en,hY,lbC,zg,zr,List.range,List.range.loop]
     ·simp[za,zm,zh,zi,ze,zo,hn0,hnl,hI,hil,hsl,hsi,wS,d1,d2,d3,en,hY,lbC,zg,zr,List.range,List.range.loop]
    ·by_cases d3:hi<m.jd[n].len
     ·simp[za,zm,zh,zi,ze,zo,hn0,hnl,hI,hil,hsl,hsi,wS,d1,d2,d3,en,hY,lbC,zg,zr,List.range,List.range.loop]
     ·simp[za,zm,zh,zi,ze,zo,hn0,hnl,hI,hil,hsl,hsi,wS,d1,d2,d3,en,hY,lbC,zg,zr,List.range,List.range.loop]
   ·by_cases d3:hi<m.jd[n].len
    ·simp[za,zm,zh,zi,ze,zo,hn0,hnl,hI,hil,hsl,hsi,wS,d1,d3,en,hY,lbC,zg,zr,List.range,List.range.loop]
    ·simp[za,zm,zh,zi,ze,zo,hn0,hnl,hI,hil,hsl,hsi,wS,d1,d3,en,hY,lbC,zg,zr,List.range,List.range.loop]
abbrev zDh:WV:=.c (.fn zcg [] [.ptr 0 0 0 0,.ptr 1 0 0 0,.ptr 2 0 0 0])
abbrev zba(v id:Nat)(l:List LB):Option Blk:=bxv v 1 [.slice id l.length 7 0 l.length none]
abbrev rwB(l:List LB):Option Blk:=some { box:=false,esz:=7,rows:=zdz l,gen:=l.length,fz:=false,ver:=l.length }
def zu8{m:zD}{r:List Int}{bar:Int}(h:ziO m r bar)(len:Int)(e:Ego)(x:zk)(hx:0<=x.lane/\x.lane<m.jd.length)(hn:zS m x.lane=[])(lo hi:Int)(hlo:-100000000<=lo/\lo<=100000000)(hhi:-100000000<=hi/\hi<=100000000)(cap:Bool)(l:List LB)(hl:l.length<=1000)(v:Nat)(B:Option Blk)(T:Mem)(k:Nat)(hk:k<T.length)(hT:T[k]?=some (rwB l)) :
  ∃v' fp,v<=v'/\zx (R L Cs) ⟨true⟩ zDh [.a (ze x),W lo,W hi,Bo cap] (bx 16 (zm m r len bar e)::zba v (k+4) l::zbt 2::B::T)=some (.t [],bx 16 (zm m r len bar e)::zba v' (k+4) (l++zbA m r bar x lo hi cap)::zbt 2::B::T.set k (rwB (l++zbA m r bar x lo hi cap)),fp):=by
 have hf:=zz6 h len e x hx hn lo hi hlo hhi cap l hl v;have hl16:(zm m r len bar e).length=16:=by simp[zm,zh,zi]
 simp only[zm,zh,zi,ze,jh,je,own,zx8]at hf ⊢;by_cases c:stays m r bar x lo hi cap=true
 ·have ep:zbA m r bar x lo hi cap=[(zhO m r bar x lo hi cap,zcV r x.lane cap)]:=by rw[zbA,if_pos c]
  rw[if_pos c,ep]at hf;rw[ep];refine⟨v+1,.wr [(1,0,whole),(k+4,0,whole)],wA,?_⟩;simp only[jF,jl,jp,zx9,zfd,zgf]at hf ⊢;simp[hf,hT,zr,rwB]
 ·have ep:zbA m r bar x lo hi cap=[]:=by rw[zbA,if_neg c]
  rw[if_neg c,ep,ku]at hf;rw[ep,ku];have AP:T.set k (rwB l)=T:=by
   apply qw;intro j;by_cases hj:k=j
   ·subst hj;rw[jS hk,hT]
   ·rw[jz hj]
  rw[AP];refine⟨v,.no,jm _,?_⟩;simp[hf,hT,zr]
def zyK{m:zD}{r:List Int}{bar:Int}(h:ziO m r bar)(len:Int)(e:Ego)(x:zk)(hx:0<=x.lane/\x.lane<m.jd.length)(hn:zS m x.lane=[])(lo hi:Int)(hlo:-100000000<=lo/\lo<=100000000)(hhi:-100000000<=hi/\hi<=100000000)(cap:Bool)(v:Nat)(B P C:Option Blk) :
  ∃fp,zx (R L Cs) ⟨true⟩ zDh [.a (ze x),W lo,W hi,Bo cap] [bx 16 (zm m r len bar e),bxv v 1 [.jc],zbt 2,B,P,C]=some (.t [],if stays m r bar x lo hi cap=true then [bx 16 (zm m r len bar e),zba (v+1) 6 (zbA m r bar x lo hi cap),zbt 2,B,P,C,rwB (zbA m r bar x lo hi cap)] else [bx 16 (zm m r len bar e),bxv v 1 [.jc],zbt 2,B,P,C],fp):=by
 have hf:=zyJ h len e x hx hn lo hi hlo hhi cap v;simp only[zm,zh,zi,ze,jh,je]at hf ⊢;by_cases c:stays m r bar x lo hi cap=true
 ·have ep:zbA m r bar x lo hi cap=[(zhO m r bar x lo hi cap,zcV r x.lane cap)]:=by rw[zbA,if_pos c]
  rw[if_pos c]at hf ⊢;rw[ep];refine⟨.wr [(1,0,whole)],?_⟩;simp[hf,zr,lbC]
 ·rw[if_neg c]at hf ⊢;refine⟨.no,?_⟩;simp[hf,zr]
end Go.TrRun
