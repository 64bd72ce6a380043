/- This text proves what functions of this seat's program answer, run by the evaluator; no condition. -/
import Derived.Test.YtammkplkmigccaaGreatUTb1
set_option maxHeartbeats 8000000
set_option linter.unusedVariables false
set_option linter.unusedSimpArgs false
set_option linter.unusedSectionVars false
set_option maxRecDepth 10000
namespace Go.TrRun
open Go Go.Eng
theorem zL{α:Type}{l r:List α}{i:Nat}{x:α}(h:l.drop i=x::r):∃hi:i<l.length,l[i]=x/\l.drop (i+1)=r:=by
 have hi:i<l.length:=by
  have:=congrArg List.length h;simp at this;omega
 rw[ki hi]at h;exact⟨hi,(vl h).1,(vl h).2⟩
theorem zUb{α:Type}{l:List α}{i:Nat}(h:l.drop i=[])(hi:i<=l.length):i=l.length:=by
 have:=congrArg List.length h;simp at this;omega
theorem zB{i:Nat}(h:i<4000000000000000000):IntKind.i64.wrap ((i:Int)+1)=((i+1:Nat):Int):=by
 rw[zTd _ (by omega) (by omega)];simp
def zu(l:List Int):List (List Cl):=l.map fun x=>[I x]
@[simp] theorem zfq(l:List Int):(zu l).length=l.length:=by simp[zu]
@[simp] theorem zBj(l m:List Int):zu (l++m)=zu l++zu m:=by simp[zu]
@[simp] theorem zay:zu []=[]:=rfl
@[simp] theorem zaP(x:Int)(l:List Int):zu (x::l)=[I x]::zu l:=rfl
@[simp] theorem zCt(l:List Int):(zu l).take l.length=zu l:=jF (by simp)
@[simp] theorem zBd{l:List Int}{i:Nat}(h:i<(zu l).length):(zu l)[i]=[I (l[i]'(by simpa using h))]:=by simp[zu]
@[simp] theorem zCu(t:List Int):(∀x,x∈zu t->x.length=1)<->True:=by simp[zu]
structure zk where
 lane:Int
 lo:Int
 hi:Int
 vlo:Int
 vhi:Int
 hold:Int
 deriving DecidableEq
structure Ego where
 slo:Int
 shi:Int
 vlo:Int
 vhi:Int
 deriving DecidableEq
structure zci where
 tick:Int
 jy:List zk
 ego:Ego
def ze(b:zk):List Cl:=[I b.lane,I b.lo,I b.hi,I b.vlo,I b.vhi,I b.hold]
def zI(l:List zk):List (List Cl):=l.map ze
def zG(k:zci):List Cl:=[I k.tick,.jd (zI k.jy),I k.ego.slo,I k.ego.shi,I k.ego.vlo,I k.ego.vhi]
@[simp] theorem zgg(l:List zk):(zI l).length=l.length:=by simp[zI]
@[simp] theorem znQ(l m:List zk):zI (l++m)=zI l++zI m:=by simp[zI]
@[simp] theorem zic:zI []=[]:=rfl
@[simp] theorem zCy(x:zk)(l:List zk):zI (x::l)=ze x::zI l:=rfl
@[simp] theorem zCw(l:List zk):(zI l).take l.length=zI l:=jF (by simp)
@[simp] theorem zBe{l:List zk}{i:Nat}(h:i<(zI l).length):(zI l)[i]=ze (l[i]'(by simpa using h)):=by simp[zI]
@[simp] theorem zDd(b:zk):(ze b).length=6:=rfl
@[simp] theorem zCF(b:zk):(ze b).take 6=ze b:=rfl
@[simp] theorem zDb(t:List zk):(∀x,x∈zI t->x.length=6)<->True:=by simp[zI]
theorem zvv(l:List zk)(hl:l.length<=100000000000):R L Cs zmP [.c (.jd (zI l))] []=some (.w (.c (sl 0 6 (zI l))),[some (own 6 (zI l))]):=by
 have hr:l.length*48<=140737488355328:=by omega
 have hL:Cs.lookup zmP=some (6,48,false):=by kernel_rfl
 rw[zrP rfl];simp[uG,hL,zuh,hr]
theorem z1I(k:zci)(hl:k.jy.length<=100000000000):R L Cs zZq [.a (zG k)] []=some (.w (.a (zG k)),[]):=by
 have hc:=zvv k.jy hl;rw[zUa zZz rfl];simp[zul,zG,hc]
def zgQ(a b:Int):Int:=if a<b then -1 else if b<a then 1 else 0
theorem zpH(a:Int):R L Cs zlc [W a] []=some (.w (Bo false),[]):=by
 rw[zUa zle rfl];simp[zfU]
theorem zjw(a:Int):R L Cs zi5 [W a] []=some (.w (Bo false),[]):=by
 rw[zUa zi9 rfl];simp[ze6]
theorem zsr(a b:Int):R L Cs zi6 [W a,W b] []=some (.w (W (zgQ a b)),[]):=by
 rw[zUa zja rfl];have h1:=zpH a;have h2:=zpH b;by_cases h:a<b
 ·simp[zb3,h1,h2,h,zgQ]
 ·by_cases h':b<a
  ·simp[zb3,h1,h2,h,h',zgQ]
  ·simp[zb3,h1,h2,h,h',zgQ]
theorem zp1(a b:Int):R L Cs zhQ [W a,W b] []=some (.w (W (zgQ a b)),[]):=by
 rw[zUa zhS rfl];have h1:=zjw a;have h2:=zjw b;by_cases h:a<b
 ·simp[zbq,h1,h2,h,zgQ]
 ·by_cases h':b<a
  ·simp[zbq,h1,h2,h,h',zgQ]
  ·simp[zbq,h1,h2,h,h',zgQ]
theorem zBq(l:List Int)(hl:l.length<=1000):Y L Cs zab (some [7,6,3,8]) 0 [(7,.w (W l.length)),(6,.w (.c (.jd (zu l)))),(3,.w (W 0)),(8,.w (W (0:Nat)))] [] =
  some (match l.findIdx? (fun x=>x !=0)with |some i=>(.ret,[(2,.w (W ((l[i]?).getD 0)))],[]) |none=>(.exit 0,[(9,.w (Bo false)),(3,.w (W 0)),(6,.w (.c (.jd (zu l)))),(7,.w (W l.length)),(8,.w (W l.length))],[])):=by
 refine zxf l (fun i=>[(7,.w (W l.length)),(6,.w (.c (.jd (zu l)))),(3,.w (W 0)),(8,.w (W i))]) _ _ _ _ ?_ ?_ ?_
 ·intro i h hp;have hw:=zB (i:=i) (by omega);simp at hp;rw[zj zab.eq_1];simp[h,hw,hp]
 ·intro i h hp;rw[zj zab.eq_1];simp[h,hp]
 ·rw[zj zab.eq_1];simp
theorem zA0(x y:Int):R L Cs zob [.c (.jd (zu [x,y]))] []=some (.w (W (if x≠0 then x else y)),[]):=by
 have h:=zBq [x,y] (by simp);simp only[jt,zaP,zay,jG,jA]at h;rw[zUa zow rfl];by_cases hx:x=0
 ·by_cases hy:y=0
  ·simp[hx,hy,qY]at h;simp[zfw,h,hx,hy]
  ·have hb:(y !=0)=true:=by simp[hy]
   simp[hx,hy,hb,qY]at h;simp[zfw,h,hx,hy]
 ·have hb:(x !=0)=true:=by simp[hx]
  simp[hx,hb,qY]at h;simp[zfw,h,hx]
def ziK(a b:zk):Int:=if zgQ a.lane b.lane≠0 then zgQ a.lane b.lane else zgQ a.lo b.lo
theorem zrR(b:zk):R L Cs zct [.a (ze b)] []=some (.w (Bo (decide (b.hi<b.lo))),[]):=by
 rw[zUa zp6 rfl];simp[zhH,ze]
theorem zop(a b:zk):R L Cs zdc [.a (ze a),.a (ze b)] []=some (.w (W (ziK a b)),[]):=by
 have h:=zA0 (zgQ a.lane b.lane) (zgQ a.lo b.lo);have h1:=zsr a.lane b.lane;have h2:=zp1 a.lo b.lo;simp only[zaP,zay]at h;rw[zUa zp5 rfl];simp[zhG,ze,h1,h2,h,ziK,zX]
structure zfn where
 kind:Int
 pts:List (Int×Int)
 half:Int
 yj:Int
 next:List Int
 len:Int
structure zCP where
 lane:Int
 lo:Int
 hi:Int
 begins:Int
 ends:Int
 yj:Int
structure zD where
 version:Int
 je:List zfn
 uy:List (List Cl)
 signals:List (List Cl)
 qQ:List zCP
def zo(l:zfn):List Cl:=[I l.kind,.jd (l.pts.map fun p=>[I p.1,I p.2]),I l.half,I l.yj,.jd (zu l.next)]
def zaL(w:zCP):List Cl:=[I w.lane,I w.lo,I w.hi,I w.begins,I w.ends,I w.yj]
def zf(m:zD):List Cl:=[I m.version,.jd (m.je.map zo),.jd m.uy,.jd m.signals,.jd (m.qQ.map zaL)]
def zes(x:Int):Nat->List zfn->List Int
 |_,[]=>[]
 |k,l::ls=>if x∈l.next then(k:Int)::zes x (k+1) ls else zes x (k+1) ls
theorem zAo(l:List Int)(x:Int)(hl:l.length<=100000):∀(r:List Int) (i:Nat),l.drop i=r->i<=l.length ->
  (x∉r->Y L Cs zaT (some [0,1,5]) 0 [(0,.w (.c (.jd (zu l)))),(1,.w (W x)),(5,.w (W i))] []=some (.exit 0,[(9,.w (Bo false)),(1,.w (W x)),(0,.w (.c (.jd (zu l)))),(5,.w (W l.length))],[])) /\
  (x∈r->Y L Cs zaT (some [0,1,5]) 0 [(0,.w (.c (.jd (zu l)))),(1,.w (W x)),(5,.w (W i))] []=some (.ret,[(4,.w (Bo true))],[])):=by
 intro r;induction r with
 |nil =>
  intro i hd hi;obtain rfl:=zUb hd hi;refine⟨fun _=>zhJ ?_ (by simp),fun h=>by simp at h⟩;simp[zaT]
 |cons y r ih =>
  intro i hd hi;obtain⟨hil,hy,hd'⟩:=zL hd;obtain⟨ih1,ih2⟩:=ih (i+1) hd' hil;have hw:=zB (i:=i) (by omega);by_cases hxy:y=x
  ·refine⟨fun h=>by simp[hxy]at h,fun _=>zhJ ?_ (by simp)⟩;have hb:(y==x)=true:=by simp[hxy]
   simp[zaT,hil,hy,hb]
  ·have hb:(y==x)=false:=by simp[hxy]
   have yW:Y L Cs zaT (some [0,1,5]) 0 [(0,.w (.c (.jd (zu l)))),(1,.w (W x)),(5,.w (W i))] []=Y L Cs zaT (some [0,1,5]) 0 [(0,.w (.c (.jd (zu l)))),(1,.w (W x)),(5,.w (W (i+1:Nat)))] []:=by
    rw[zrL];simp[zaT,hil,hy,hb,hw]
   rw[yW];refine⟨fun h=>ih1 (fun h'=>h (jl _ h')),fun h=>ih2 ?_⟩;rcases jr.1 h with h|h
   ·exact absurd h.symm hxy
   ·exact h
theorem zAX(l:List Int)(x:Int)(hl:l.length<=100000):R L Cs zmb [.c (.jd (zu l)),W x] []=some (.w (Bo (decide (x∈l))),[]):=by
 obtain⟨h1,h2⟩:=zAo l x hl l 0 rfl (jz _);simp only[jt]at h1 h2;rw[zUa zmu rfl];by_cases h:x∈l
 ·simp[zdY,h2 h,h]
 ·simp[zdY,h1 h,h]
theorem zqI(m:zD)(x:Int)(hn:m.je.length<=100)(hx:∀l∈m.je,l.next.length<=1000):∀(r:List zfn) (i:Nat) (out:List Int),m.je.drop i=r->i<=m.je.length->out.length<=i ->
  Y L Cs zbI (some [5,6,2,1]) 3 [(5,.w (.c (sl 2 1 (zu out)))),(6,.w (W i)),(2,.w (Pt 0)),(1,.w (W x))] [some { box:=true,esz:=5,rows:=[zf m],gen:=0,fz:=false,ver:=0 },some { box:=false,esz:=1,rows:=[],gen:=0,fz:=false,ver:=0 },some (own 1 (zu out))] =
    some (.exit 0,[(11,.w (Bo false)),(5,.w (.c (sl 2 1 (zu (out++zes x i r))))),(6,.w (W m.je.length)),(2,.w (Pt 0)),(1,.w (W x))],[some { box:=true,esz:=5,rows:=[zf m],gen:=0,fz:=false,ver:=0 },some { box:=false,esz:=1,rows:=[],gen:=0,fz:=false,ver:=0 },some (own 1 (zu (out++zes x i r)))]):=by
 intro r;induction r with
 |nil =>
  intro i out hd hi ho;obtain rfl:=zUb hd hi;refine zhJ ?_ (by simp);simp[zbI,zes,zf]
 |cons l r ih =>
  intro i out hd hi ho;obtain⟨hil,hl,hd'⟩:=zL hd;have hw:=zB (i:=i) (by omega);have hc:=zAX l.next x (by have:=hx l (by rw[<-hl];exact jh hil);omega);have jO:(out.length+1)*8<=140737488355328:=by omega
  by_cases hb:x∈l.next
  ·have A9:=ih (i+1) (out++[(i:Int)]) hd' hil (by simp;omega);rw[zes,if_pos hb,show out++(i:Int)::zes x (i+1) r=(out++[(i:Int)])++zes x (i+1) r by simp,<-A9,zrL];simp[hb]at hc;simp[zbI,hil,hl,zo,zf,hc,hw,jO]
  ·have A9:=ih (i+1) out hd' hil (by omega);rw[zes,if_neg hb,<-A9,zrL];simp[hb]at hc;simp[zbI,hil,hl,zo,zf,hc,hw]
theorem zpG(m:zD)(x:Int)(hn:m.je.length<=100)(hx:∀l∈m.je,l.next.length<=1000):R L Cs zjP [.a (zf m),W x] []=some (.w (.c (.jd (zu (zes x 0 m.je)))),[]):=by
 have h:=zqI m x hn hx m.je 0 [] rfl (jz _) (jz _);simp only[jt,jK,zf,zay,sl,own,jA,zfq]at h;rw[zUa zkb rfl];simp[zeo,zf,h]
def goF(m:zD):Int->List Int->Bool
 |_,[]=>true
 |a,x::xs=>decide (x∈((m.je[a.toNat]?).map zfn.next).getD [])&&goF m x xs
structure zvM(m:zD):Prop where
 je:m.je.length<=14
 next:∀l∈m.je,l.next.length<=10
 valid:∀l∈m.je,∀x∈l.next,0<=x/\x<m.je.length
def zdA(m:zD):List Int->Int
 |[]=>13
 |x::t=>if 8<t.length+1 then 13 else if x<0 then 13 else if(m.je.length:Int)<=x then 13 else if zes x 0 m.je≠[] then 13 else if goF m x t then 0 else 13
theorem zr4(m:zD)(h:zvM m)(l:List Int)(hl:l.length<=1000):∀(r:List Int) (i:Nat) (a:Int),l.drop i=a::r->0<=a->a<m.je.length ->
  (goF m a r=true->Y L Cs zag (some [2,1,6]) 1 [(2,.w (Pt 0)),(1,.w (.c (.jd (zu l)))),(6,.w (W (i+1:Nat)))] [some { box:=true,esz:=5,rows:=[zf m],gen:=0,fz:=false,ver:=0 }]=some (.exit 0,[(47,.w (Bo false)),(1,.w (.c (.jd (zu l)))),(2,.w (Pt 0)),(6,.w (W l.length))],[some { box:=true,esz:=5,rows:=[zf m],gen:=0,fz:=false,ver:=0 }])) /\
  (goF m a r=false->Y L Cs zag (some [2,1,6]) 1 [(2,.w (Pt 0)),(1,.w (.c (.jd (zu l)))),(6,.w (W (i+1:Nat)))] [some { box:=true,esz:=5,rows:=[zf m],gen:=0,fz:=false,ver:=0 }]=some (.ret,[(4,.w (W 13))],[some { box:=true,esz:=5,rows:=[zf m],gen:=0,fz:=false,ver:=0 }])):=by
 intro r;induction r with
 |nil =>
  intro i a hd h1 h2;obtain⟨hil,hx,hd'⟩:=zL hd;have hlen:=zUb hd' hil;rw[hlen];refine⟨fun _=>zhJ ?_ (by simp),fun h=>by simp[goF]at h⟩;simp[zag]
 |cons x r ih =>
  intro i a hd h1 h2;obtain⟨hil,ha,hd'⟩:=zL hd;obtain⟨hil2,hx,_⟩:=zL hd';have hal:a.toNat<m.je.length:=by omega
  have qI:((m.je[a.toNat]?).map zfn.next).getD []=(m.je[a.toNat]).next:=by rw[ji hal];rfl
  have yD:m.je[a.toNat]∈m.je:=jh hal;have hc:=zAX (m.je[a.toNat]).next x (by have:=h.next _ yD;omega);have hlt:((i:Int)+1<l.length):=by omega
  have hwi2:IntKind.i64.wrap (i:Int)=(i:Int):=zTd _ (by omega) (by omega);have h0:(0:Int)<=(i:Int)+1:=by omega
  have ht:((i:Int)+1).toNat=i+1:=by omega
  have hw2:=kH ((i:Int)+1+1);by_cases hb:x∈(m.je[a.toNat]).next
  ·obtain⟨v1,v2⟩:=h.valid _ yD x hb;obtain⟨ih1,ih2⟩:=ih (i+1) x hd' v1 v2;have yW:Y L Cs zag (some [2,1,6]) 1 [(2,.w (Pt 0)),(1,.w (.c (.jd (zu l)))),(6,.w (W (i+1:Nat)))] [some { box:=true,esz:=5,rows:=[zf m],gen:=0,fz:=false,ver:=0 }]=Y L Cs zag (some [2,1,6]) 1 [(2,.w (Pt 0)),(1,.w (.c (.jd (zu l)))),(6,.w (W (i+1+1:Nat)))] [some { box:=true,esz:=5,rows:=[zf m],gen:=0,fz:=false,ver:=0 }]:=by
    rw[zrL];simp[hb]at hc;simp[zag,hil,hil2,ha,hx,zf,zo,hc,hwi2,hw2,hlt,h0,ht,h1,h2,hal]
   rw[yW];simp only[goF,qI,hb,decide_true,Bool.true_and];exact⟨ih1,ih2⟩
  ·refine⟨fun hg=>by simp[goF,qI,hb]at hg,fun _=>zhJ ?_ (by simp)⟩;simp[hb]at hc;simp[zag,hil,hil2,ha,hx,zf,zo,hc,hwi2,hw2,hlt,h0,ht,h1,h2,hal]
theorem zp0(m:zD)(h:zvM m)(hck:R L Cs zeE [.a (zf m)] []=some (.w (W 0),[]))(l:List Int)(hl:l.length<=1000):R L Cs zh0 [.a (zf m),.c (.jd (zu l))] []=some (.w (W (zdA m l)),[]):=by
 have hloop:=zr4 m h;simp only[zf]at hck hloop;rw[zUa zia rfl];cases l with
 |nil=>simp[zai,zf,hck,zdA]
 |cons x t =>
 have hne:((t.length:Int)+1==0)=false:=by simp;omega
 have Am:=zpG m x (by have:=h.je;omega) (fun l hl=>by have:=h.next l hl;omega);simp only[zf]at Am;simp only[zdA];by_cases h8:8<t.length+1
 ·have h8':(8:Int)<(t.length:Int)+1:=by omega
  simp[zai,zf,hck,hne,h8,h8']
 have h8':¬(8:Int)<(t.length:Int)+1:=by omega
 rw[if_neg h8];by_cases h0:x<0
 ·simp[zai,zf,hck,hne,h8',h0]
 by_cases hn:(m.je.length:Int)<=x
 ·simp[zai,zf,hck,hne,h8',h0,hn]
 by_cases hb:zes x 0 m.je=[]
 ·rw[hb]at Am;simp only[zay]at Am;obtain⟨l1,l2⟩:=hloop (x::t) hl t 0 x rfl (by omega) (by omega);simp at l1 l2;have q1:(1:Int)<=(t.length:Int)+1:=by omega
  have q2:(0:Int)<=(t.length:Int)+1:=by omega
  have q3:1+t.length<=t.length+1:=by omega
  cases hg:goF m x t with
  |true =>
   have l1:=l1 hg;simp[zai,zf,hck,hne,h8',h0,hn,hb,Am,l1,q1,q2,q3]
  |false =>
   have l2:=l2 hg;simp[zai,zf,hck,hne,h8',h0,hn,hb,Am,l2,q1,q2,q3]
 ·have qn:0<(zes x 0 m.je).length:=kM.2 hb;have AD:(0:Int)<((zes x 0 m.je).length:Int):=by omega
  simp[zai,zf,hck,hne,h8',h0,hn,hb,Am,qn,AD]
def zeT(l:zfn):Cl:=.jd (l.pts.map fun p=>[I p.1,I p.2])
structure zcp(m:zD):Prop where
 small:zvM m
 chk:R L Cs zjl [.a (zf m)] []=some (.w (W 0),[])
 Ao:R L Cs zeE [.a (zf m)] []=some (.w (W 0),[])
 len:∀l∈m.je,R L Cs zaw [.a [zeT l]] []=some (.w (W l.len),[])
 rlen:∀l∈m.je,R L Cs zN [.a [zeT l]] []=some (.w (W l.len),[])
 AM:∀l∈m.je,1000<=l.len/\l.len<=1000000
 kind:∀l∈m.je,l.kind=1\/l.kind=2\/l.kind=3
 yj:∀l∈m.je,1<=l.yj/\l.yj<=2000
def z8(m:zD)(i:Int):Int:=if 0<=i then((m.je[i.toNat]?).map zfn.len).getD 0 else 0
theorem zAV{m:zD}(h:zcp m){i:Nat}(hi:i<m.je.length):R L Cs zkE [.a (zf m),W i] []=some (.w (W m.je[i].len),[]):=by
 have hc:=h.len _ (jh hi);simp only[zeT]at hc;rw[zUa zou rfl];simp[zh5,zf,hi,zo,hc]
theorem ztk{m:zD}(h:zcp m){i:Nat}(hi:i<m.je.length):R L Cs zgl [.a (zf m),W i] []=some (.w (W m.je[i].len),[]):=by
 have hc:=h.rlen _ (jh hi);simp only[zeT]at hc;rw[zUa zka rfl];simp[zen,zf,hi,zo,hc]
theorem zA3{m:zD}(h:zcp m){i:Nat}(hi:i<m.je.length):R L Cs zgX [.a (zf m),W i] []=some (.w (W m.je[i].len),[]):=by
 have hc:=ztk h hi;simp only[zf]at hc;rw[zUa zlG rfl];simp[ze1,zf,hc]
theorem zrQ{m:zD}(h:zcp m){i:Nat}(hi:i<m.je.length):R L Cs zri [.a (zf m),W i] []=some (.w (W m.je[i].len),[]):=by
 have hl:=zAV h hi;have hk:=h.chk;simp only[zf]at hl hk;have his:R L Cs zwZ [.a (zf m),W i] []=some (.w (Bo true),[]):=by
  rw[zUa zxi rfl];simp[znA,zf,hi,hk]
 simp only[zf]at his;rw[zUa zrY rfl];simp[ziu,zf,his,hl]
theorem zEQ{m:zD}(h:zcp m){i:Nat}(hi:i<m.je.length):R L Cs zDZ [.a (zf m),W i] []=some (.w (W m.je[i].len),[]):=by
 have hl:=ztk h hi;have hk:=h.Ao;simp only[zf]at hl hk;have his:R L Cs zD9 [.a (zf m),W i] []=some (.w (Bo true),[]):=by
  rw[zUa zEa rfl];simp[zDW,zf,hi,hk]
 simp only[zf]at his;rw[zUa zD7 rfl];simp[zDR,zf,his,hl]
def zeR(k:Int):Int:=if k=1 then 2000 else if k=2 then 1000 else 300
def zif(k:Int):Int:=if k=1 then 30 else if k=2 then 20 else 100
def zd4(k:Int):Int:=if k=1 then 90 else if k=2 then 60 else 300
theorem znI:zaH L Cs 400 zgz [W 1] []=some (.t [W 2000,W 30,W 90],[])/\zaH L Cs 400 zgz [W 2] []=some (.t [W 1000,W 20,W 60],[])/\zaH L Cs 400 zgz [W 3] []=some (.t [W 300,W 100,W 300],[]):=⟨by kernel_rfl,by kernel_rfl,by kernel_rfl⟩
theorem zjg:zaH L Cs 400 zc1 [W 1] []=some (.t [W 2000,W 30,W 90],[])/\zaH L Cs 400 zc1 [W 2] []=some (.t [W 1000,W 20,W 60],[])/\zaH L Cs 400 zc1 [W 3] []=some (.t [W 300,W 100,W 300],[]):=⟨by kernel_rfl,by kernel_rfl,by kernel_rfl⟩
theorem zmo{k:Int}(h:k=1\/k=2\/k=3):R L Cs zgz [W k] []=some (.t [W (zeR k),W (zif k),W (zd4 k)],[]):=by
 rcases h with rfl|rfl|rfl
 ·exact zah.2 ⟨400,znI.1⟩
 ·exact zah.2 ⟨400,znI.2.1⟩
 ·exact zah.2 ⟨400,znI.2.2⟩
theorem zhv{k:Int}(h:k=1\/k=2\/k=3):R L Cs zc1 [W k] []=some (.t [W (zeR k),W (zif k),W (zd4 k)],[]):=by
 rcases h with rfl|rfl|rfl
 ·exact zah.2 ⟨400,zjg.1⟩
 ·exact zah.2 ⟨400,zjg.2.1⟩
 ·exact zah.2 ⟨400,zjg.2.2⟩
theorem zid{M:Mem}{r r':AV}(h:zoS M r=some r')(hb:r'.below 0=true):leave true 0 r M=some (r',[]):=by
 unfold leave;simp only[if_true,h];unfold finish;split
 ·rename_i h0;have:zbg M r.sls=[]:=kE.1 h0;rw[this]
 ·rw[if_pos (by rw[hb];simp[zH])];rfl
abbrev zch(e:Ego):List Cl:=[I e.slo,I e.shi,I e.vlo,I e.vhi]
abbrev zFA:List Cl:=[I 0,.jc,I 0,I 0,I 0,I 0]
def zQ(kind lim:Int)(next:List Int)(a b c d len:Int):zfn:={ kind:=kind,pts:=[(a,b),(c,d)],half:=if kind=3 then 500 else 1500,yj:=lim,next:=next,len:=len }
def zaY(o a b:Int):List Cl:=[I o,.jd [[I 12,.jd [[I a]]],[I 5,.jd []],[I 9,.jd [[I b]]],[I 4,.jd []]]]
theorem zaZ(kind lim:Int)(next:List Int)(a b c d len:Int):R L Cs zmT [W kind,W lim,.c (.jd (zu next)),.c (.jd (zu [a,b,c,d]))] []=some (.w (.a (zo (zQ kind lim next a b c d len))),[]):=by
 rw[zUa zm4 rfl];have hw1:IntKind.i64.wrap 1=1:=rfl;have hw2:IntKind.i64.wrap 2=2:=rfl;have hw3:IntKind.i64.wrap 3=3:=rfl;have hw4:IntKind.i64.wrap 4=4:=rfl;have hw5:IntKind.i64.wrap 5=5:=rfl;have hy:∃M' S v,Y L Cs zco (some [10,8,0,3,9]) 2 [(10,.w (W 0)),(8,.w (Pt 0)),(0,.w (W kind)),(3,.w (.c (.jd (zu [a,b,c,d])))),(9,.w (Pt 1))] [bx 5 [I 0,.jc,I 0,I 0,.jc],bxv 1 5 [I kind,.jc,I 1500,I lim,.jd (zu next)]] =
   some (.exit 0,[(19,.w (Bo false)),(10,.w (W 4)),(8,.w (Pt 0)),(0,.w (W kind)),(3,.w (.c (.jd (zu [a,b,c,d])))),(9,.w (Pt 1))],bx 5 [I 0,.jc,I 0,I 0,.jc]::bxv v 5 [I kind,S,I 1500,I lim,.jd (zu next)]::M') /\
   (∀x y:Option Blk,zdR (x::y::M') S=some (.jd [[I a,I b],[I c,I d]])):=by
  refine⟨[some (own 2 [[I a,I b]]),some (own 2 [[I a,I b],[I c,I d]]),some (own 2 [[I c,I d]])],.slice 3 2 2 0 2 none,3,?_,?_⟩
  ·rw[zj zco.eq_1];simp[hw1,hw2,hw3,hw4,hw5,zg,zH];rw[zj zco.eq_1];simp[hw1,hw2,hw3,hw4,hw5,zg,zH];rw[zj zco.eq_1];simp[hw1,hw2,hw3,hw4,hw5,zg,zH]
  ·intro x y;simp[zdR,look]
 obtain⟨M',S,v,h1,h2⟩:=hy;simp only[zaP,zay]at h1;have hf:∀(M:Mem) (x y:Option Blk) (k2 h2 l2:Int),M=x::y::M'->zoS M (.w (.a [I k2,S,I h2,I l2,.jd (zu next)]))=some (.w (.a [I k2,.jd [[I a,I b],[I c,I d]],I h2,I l2,.jd (zu next)])):=by
  intro M x y k2 h2' l2 hM;subst hM;simp only[zoS,zn7,vA,h2 x y];rfl
 by_cases hk:kind=3
 ·subst hk;simp[zee,h1,-leave];exact zid (hf _ _ _ _ _ _ rfl) rfl
 ·have hb:(kind==3)=false:=by simp[hk]
  simp[zee,h1,hk,hb,-leave];have e:zo (zQ kind lim next a b c d len)=[I kind,.jd [[I a,I b],[I c,I d]],I 1500,I lim,.jd (zu next)]:=by simp[zo,zQ,hk]
  rw[e];exact zid (hf _ _ _ _ _ _ rfl) rfl
theorem zj1(o a b:Int):R L Cs zlr [W o,W a,W b] []=some (.w (.a (zaY o a b)),[]):=by
 rw[zUa zlH rfl];simp[ze2,zaY,zg,zX]
theorem zhR(n:Int):R L Cs zny [W n,W 16777216] []=some (.w (W (n % 16777216)),[]):=by
 rw[zUa znH rfl];have h1:0<=n->n.tmod 16777216=n % 16777216:=jH;have h2:n<0->n.tmod 16777216=-((-n) % 16777216):=fun hn=>by
  have e1:(-n).tmod 16777216=(-n) % 16777216:=jH (by omega);have e2:=Int.neg_tmod (-n) 16777216;rw[Int.neg_neg,e1]at e2;exact e2
 by_cases h:n.tmod 16777216<0
 ·have e:IntKind.i64.wrap (n.tmod 16777216+16777216)=n % 16777216:=by
   rw[zTd _ (by omega) (by omega)];omega
  simp[zeK,h,e]
 ·have e:n.tmod 16777216=n % 16777216:=by omega
  have h3:¬n % 16777216<0:=by omega
  simp[zeK,h3,e]
theorem zn{N d:Int}(hN:0<=N/\N<16777216)(hd:0<d):IntKind.i64.wrap (N.tdiv d)=N.tdiv d:=by
 rw[jS hN.1];have h1:0<=N / d:=Int.ediv_nonneg hN.1 (by omega);have h2:N / d<=N:=Int.ediv_le_self _ hN.1;exact zTd _ (by omega) (by omega)
theorem zE(N d e:Int)(hN:0<=N/\N<16777216)(hd:0<d)(he:0<e):0<=(N.tdiv d).tmod e/\(N.tdiv d).tmod e<e:=by
 rw[jS hN.1];have h1:0<=N / d:=Int.ediv_nonneg hN.1 (by omega);rw[jH h1];exact⟨qf _ (by omega),kV _ he⟩
def zdK(l a b r:Int):List Cl:=[I l,I a,I b,I r]
def zfa(ps:List (List Cl))(s:Int):List Cl:=[.jd ps,I s]
def zy(k:Nat)(lim:Int):List zfn:=match k with
 |0=>[zQ 1 lim [] 0 0 60000 0 60000]
 |1 |2=>[zQ 1 lim [] 0 0 50000 0 50000,zQ 1 1500 [] 30000 (-20000) 30000 20000 40000]
 |3=>[zQ 1 lim [1,2] 0 0 30000 0 30000,zQ 1 1500 [] 30000 0 60000 0 30000,zQ 1 800 [] 30000 0 54000 10000 26000]
 |4=>[zQ 1 lim [2] 0 0 30000 0 30000,zQ 1 1500 [2] 6000 (-10000) 30000 0 26000,zQ 1 1500 [] 30000 0 60000 0 30000]
 |5=>[zQ 1 lim [1] 0 0 20000 0 20000,zQ 1 lim [] 20000 0 50000 0 30000,zQ 3 200 [] 35000 (-8000) 35000 8000 16000]
 |_=>[zQ 1 lim [1,2] 0 0 20000 0 20000,zQ 1 1500 [] 20000 0 50000 0 30000,zQ 1 1000 [] 20000 0 44000 10000 26000,zQ 2 700 [] 36000 (-12000) 36000 18000 30000]
def zO(k:Nat)(r:Int):List (List Cl):=match k with
 |0=>[]
 |1=>[zfa [zdK 0 28000 32000 r,zdK 1 18000 22000 (2-2*r)] 0]
 |2=>[zfa [zdK 0 28000 32000 r,zdK 1 18000 22000 (2-2*r)] 1]
 |3=>[]
 |4=>[zfa [zdK 0 25000 30000 1,zdK 1 20000 26000 0,zdK 2 0 5000 0] 0]
 |5=>[zfa [zdK 1 14000 16000 0,zdK 2 6000 10000 3] 0]
 |_=>[zfa [zdK 1 14000 18000 1,zdK 3 10000 14000 0] (if r=1 then 1 else 0),zfa [zdK 2 14000 21000 1,zdK 3 14500 23000 0] (if r=1 then 2 else 0)]
def zt(k:Nat)(r o1 o2 o3:Int):List (List Cl):=match k with
 |2=>[zaY o1 0 1]
 |6=>if r=1 then [zaY o2 1 3,zaY o3 2 3] else []
 |_=>[]
def zak(w b t:Int):List zCP:=if w=1 then [⟨0,10000,15000,b,b+20,t*200⟩] else []
def zq(k:Nat)(lim r o1 o2 o3 v w b t:Int):zD:={ version:=v,je:=zy k lim,uy:=zO k r,signals:=zt k r o1 o2 o3,qQ:=zak w b t }
def zeC(j:Nat):Int:=match j with |0=>1500 |1=>600 |2=>1000 |_=>300
theorem zea(j:Nat)(hj:j<4):([[I 1500],[I 600],[I 1000],[I 300]]:List (List Cl))[j]?=some [I (zeC j)]:=by
 match j,hj with
 |0,_=>rfl
 |1,_=>rfl
 |2,_=>rfl
 |3,_=>rfl
theorem zdd(j:Nat)(h:j<([[I 1500],[I 600],[I 1000],[I 300]]:List (List Cl)).length):([[I 1500],[I 600],[I 1000],[I 300]]:List (List Cl))[j]=[I (zeC j)]:=by
 match j,h with
 |0,_=>rfl
 |1,_=>rfl
 |2,_=>rfl
 |3,_=>rfl
theorem zTw(k:Nat)(n:Int)(h7:(n % 16777216).tmod 7=k)(hk:k<7) :
  R L Cs zY [W n] []=some (.w (.a (zf (zq k (zeC (((n % 16777216).tdiv 7).tmod 4).toNat) (((n % 16777216).tdiv 28).tmod 2) (((n % 16777216).tdiv 28).tmod 31) (((n % 16777216).tdiv 56).tmod 31) (((n % 16777216).tdiv 56).tmod 17) (((n % 16777216).tdiv 28).tmod 5) (((n % 16777216).tdiv 1736).tmod 3) (((n % 16777216).tdiv 5208).tmod 40) (((n % 16777216).tdiv 208320).tmod 3)))),[]):=by
 have hM:=zhR n;have hN:0<=n % 16777216/\n % 16777216<16777216:=by omega
 generalize n % 16777216=N at *;have wd:=fun(d:Int) (h:0<d)=>zn (N:=N) (d:=d) hN h
 have w7:=wd 7 (by decide);have w28:=wd 28 (by decide);have w56:=wd 56 (by decide);have w1736:=wd 1736 (by decide);have w5208:=wd 5208 (by decide);have Bi:=wd 208320 (by decide);have hj:=zE N 7 4 hN (by decide) (by decide);obtain⟨j,hje⟩:=jB hj.1;have hj4:j<4:=by omega
 have hj4':(j:Int)<4:=by omega
 have r2:=zE N 28 2 hN (by decide) (by decide);have b40:=zE N 5208 40 hN (by decide) (by decide);have t3:=zE N 208320 3 hN (by decide) (by decide);have hlg:=zea j hj4;have q0:=fun k lim a b c d=>zaZ k lim [] a b c d 0
 have q1:=fun k lim a b c d=>zaZ k lim [1] a b c d 0
 have q2:=fun k lim a b c d=>zaZ k lim [2] a b c d 0
 have q3:=fun k lim a b c d=>zaZ k lim [1,2] a b c d 0
 have s1:=fun o a b=>zj1 o a b
 simp only[zaP,zay,zo,zQ,kj,uO,zaY]at q0 q1 q2 q3 s1;have wr1:=kH (2*(N.tdiv 28).tmod 2);have wr2:=kH (2-2*(N.tdiv 28).tmod 2);have wb:=kH ((N.tdiv 5208).tmod 40+20);have wt:=kH ((N.tdiv 208320).tmod 3*200);have hw:(((N.tdiv 1736).tmod 3==1)=true/\(N.tdiv 1736).tmod 3=1)\/(((N.tdiv 1736).tmod 3==1)=false/\¬(N.tdiv 1736).tmod 3=1):=by by_cases e:(N.tdiv 1736).tmod 3=1<;>simp[e]
 have hc:(k=0/\k<7)\/(k=1/\k<7)\/(k=2/\k<7)\/(k=3/\k<7)\/(k=4/\k<7)\/(k=5/\k<7)\/(k=6/\(N.tdiv 28).tmod 2=0)\/(k=6/\(N.tdiv 28).tmod 2=1):=by omega
 rw[zUa zUq rfl];rcases hc with⟨rfl,hr⟩ |⟨rfl,hr⟩ |⟨rfl,hr⟩ |⟨rfl,hr⟩ |⟨rfl,hr⟩ |⟨rfl,hr⟩ |⟨rfl,hr⟩ |⟨rfl,hr⟩<;>rcases hw with⟨hwb,hw⟩ |⟨hwb,hw⟩ <;>
  simp (config:={ maxSteps:=1000000 }) [zZ,hM,h7,hje,hlg,zdd,hj4,hj4',w7,w28,w56,w1736,w5208,Bi,wr1,wr2,wb,wt,hr,hwb,hw,q0,q1,q2,q3,s1,zg,zX,zH,zcl,zf,zq,zy,zO,zt,zak,zo,zQ,zaL,zfa,zdK,zaY]
theorem ziD(n lo hi:Int):R L Cs zre [W n,W lo,W hi] []=some (.w (Bo (decide (lo<=n)&&decide (n<=hi))),[]):=by
 rw[zUa zrU rfl];by_cases h:lo<=n
 ·simp[zgL,h]
 ·simp[zgL,h]
theorem zmm(n lo hi:Int):R L Cs zjO [W n,W lo,W hi] []=some (.w (Bo (decide (lo<=n)&&decide (n<=hi))),[]):=by
 rw[zUa zj9 rfl];by_cases h:lo<=n
 ·simp[zc9,h]
 ·simp[zc9,h]
structure zon(m:zD):Prop where
 v1:0<=m.version
 v2:m.version<=1099511627776
 l1:0<m.je.length
 l2:m.je.length<=12
 z:m.uy.length<=12
 s:m.signals.length<=4
 w:m.qQ.length<=8
theorem zhb{m:zD}(h:zon m):R L Cs zdG [.a (zf m)] []=some (.w (W 0),[]):=by
 have hW:=ziD m.version 0 1099511627776;have a1:=h.v1;have a2:=h.v2;have l0:((m.je.length:Int)==0)=false:=by have:=h.l1;exact beq_false_of_ne (by omega)
 have l1:¬(12:Int)<(m.je.length:Int):=by have:=h.l2;omega
 have l2:¬(12:Int)<(m.uy.length:Int):=by have:=h.z;omega
 have l3:¬(4:Int)<(m.signals.length:Int):=by have:=h.s;omega
 have l4:¬(8:Int)<(m.qQ.length:Int):=by have:=h.w;omega
 have l5:¬12<m.je.length:=by have:=h.l2;omega
 have l6:¬12<m.uy.length:=by have:=h.z;omega
 have l7:¬4<m.signals.length:=by have:=h.s;omega
 have l8:¬8<m.qQ.length:=by have:=h.w;omega
 have l9:¬m.je=[]:=by have:=h.l1;intro e;rw[e]at this;simp at this
 rw[zUa zlw rfl];simp[zeY,zf,hW,a1,a2,l0,l1,l2,l3,l4,l5,l6,l7,l8,l9]
theorem zgb{m:zD}(h1:R L Cs zdG [.a (zf m)] []=some (.w (W 0),[]))(h2:R L Cs zaU [.a (zf m)] []=some (.w (W 0),[]))
  (h3:R L Cs zaM [.a (zf m)] []=some (.w (W 0),[])) (h4:R L Cs zao [.a (zf m)] []=some (.w (W 0),[]))
  (h5:R L Cs zR [.a (zf m)] []=some (.w (W 0),[])) (h6:R L Cs zec [.a (zf m)] []=some (.w (W 0),[])):R L Cs zjl [.a (zf m)] []=some (.w (W 0),[]):=by
 simp only[zf]at h1 h2 h3 h4 h5 h6;have e1:IntKind.i64.wrap 1=1:=rfl;have e2:IntKind.i64.wrap 2=2:=rfl;have e3:IntKind.i64.wrap 3=3:=rfl;have e4:IntKind.i64.wrap 4=4:=rfl;have e5:IntKind.i64.wrap 5=5:=rfl;have e6:IntKind.i64.wrap 6=6:=rfl;have hl:Y L Cs zbP (some [7,6,1,8]) 2 [(7,.w (W 6)),(6,.w (.c (.slice 1 6 1 0 6 none))),(1,.w (Pt 0)),(8,.w (W 0))] [bx 5 (zf m),some { box:=true,esz:=1,rows:=[[.fn zdG [] []],[.fn zaU [] []],[.fn zaM [] []],[.fn zao [] []],[.fn zR [] []],[.fn zec [] []]],gen:=6,fz:=false,ver:=6 }] =
   some (.exit 0,[(9,.w (Bo false)),(1,.w (Pt 0)),(6,.w (.c (.slice 1 6 1 0 6 none))),(7,.w (W 6)),(8,.w (W 6))],[bx 5 (zf m),some { box:=true,esz:=1,rows:=[[.fn zdG [] []],[.fn zaU [] []],[.fn zaM [] []],[.fn zao [] []],[.fn zR [] []],[.fn zec [] []]],gen:=6,fz:=false,ver:=6 }]):=by
  rw[zj zbP.eq_1];simp[zf,h1,e1];rw[zj zbP.eq_1];simp[h2,e2];rw[zj zbP.eq_1];simp[h3,e3];rw[zj zbP.eq_1];simp[h4,e4];rw[zj zbP.eq_1];simp[h5,e5];rw[zj zbP.eq_1];simp[h6,e6];rw[zj zbP.eq_1];simp
 simp only[zf]at hl;rw[zUa zsu rfl];simp[zjp,zf,hl,zg,zcl,zi2,zr,okW]
theorem zd1{m:zD}(h:zon m)(h2:∀i:Nat,i<m.je.length->R L Cs zav [.a (zf m),W i] []=some (.w (W 0),[]))(h3:R L Cs zau [.a (zf m)] []=some (.w (W 0),[]))
  (hsp:∀s∈m.signals,∃o ps,s=[I o,.jd ps]) (hzp:∀s∈m.uy,∃ps o,s=[.jd ps,I o])
  (h4:∀s∈m.signals,R L Cs zV [.a (zf m),.a s] []=some (.w (W 0),[]))
  (h5:∀z∈m.uy,R L Cs zJ [.a (zf m),.a z] []=some (.w (W 0),[]))
  (h6:∀w∈m.qQ,R L Cs zfh [.a (zf m),.a (zaL w)] []=some (.w (W 0),[])):R L Cs zeE [.a (zf m)] []=some (.w (W 0),[]):=by
 have hW:=zmm m.version 0 1099511627776;have a1:=h.v1;have a2:=h.v2;have b1:=h.l1;have b2:=h.l2;have b3:=h.z;have b4:=h.s;have b5:=h.w;have l0:((m.je.length:Int)==0)=false:=beq_false_of_ne (by omega);have l1:¬(12:Int)<(m.je.length:Int):=by omega
 have l2:¬(12:Int)<(m.uy.length:Int):=by omega
 have l3:¬(4:Int)<(m.signals.length:Int):=by omega
 have l4:¬(8:Int)<(m.qQ.length:Int):=by omega
 have l9:¬m.je=[]:=by intro e;rw[e]at b1;simp at b1
 have k1:Y L Cs zbZ (some [1,3]) 1 [(1,.w (Pt 0)),(3,.w (W (0:Nat)))] [bx 5 (zf m)]=some (.exit 0,[(43,.w (Bo false)),(1,.w (Pt 0)),(3,.w (W m.je.length))],[bx 5 (zf m)]):=by
  have q:=zpE (L:=L) (Cs:=Cs) (b:=zbZ) (live:=some [1,3]) (n0:=1) m.je (fun i=>[(1,.w (Pt 0)),(3,.w (W i))]) [bx 5 (zf m)] (fun _=>false) (.ret,[],[]) (.exit 0,[(43,.w (Bo false)),(1,.w (Pt 0)),(3,.w (W m.je.length))],[bx 5 (zf m)]) ?_ ?_ ?_
  ·simpa using q
  ·intro i hi _;have hw:=zB (i:=i) (by omega);have hc:=h2 i hi;simp only[zf]at hc;rw[zj zbZ.eq_1];simp[zf,hi,hw,hc]
  ·intro i hi hp;cases hp
  ·rw[zj zbZ.eq_1];simp[zf]
 have k2:Y L Cs zbY (some [5,6,1]) 1 [(5,.w (W 0)),(6,.w (W (0:Nat))),(1,.w (Pt 0))] [bx 5 (zf m)]=some (.exit 2,[(62,.w (Bo false)),(5,.w (W 0)),(6,.w (W m.signals.length)),(1,.w (Pt 0))],[bx 5 (zf m)]):=by
  have q:=zpE (L:=L) (Cs:=Cs) (b:=zbY) (live:=some [5,6,1]) (n0:=1) m.signals (fun i=>[(5,.w (W 0)),(6,.w (W i)),(1,.w (Pt 0))]) [bx 5 (zf m)] (fun _=>false) (.ret,[],[]) (.exit 2,[(62,.w (Bo false)),(5,.w (W 0)),(6,.w (W m.signals.length)),(1,.w (Pt 0))],[bx 5 (zf m)]) ?_ ?_ ?_
  ·simpa using q
  ·intro i hi _;have hw:=zB (i:=i) (by omega);have hc:=h4 m.signals[i] (jh hi);obtain⟨a,b,hxy⟩:=hsp _ (jh hi);rw[hxy]at hc;simp only[zf]at hc;rw[zj zbY.eq_1];simp[zf,hi,hw,hc,hxy]
  ·intro i hi hp;cases hp
  ·rw[zj zbY.eq_1];simp[zf]
 have k3:Y L Cs zbX (some [5,7,1]) 1 [(5,.w (W 0)),(7,.w (W (0:Nat))),(1,.w (Pt 0))] [bx 5 (zf m)]=some (.exit 4,[(80,.w (Bo false)),(5,.w (W 0)),(7,.w (W m.uy.length)),(1,.w (Pt 0))],[bx 5 (zf m)]):=by
  have q:=zpE (L:=L) (Cs:=Cs) (b:=zbX) (live:=some [5,7,1]) (n0:=1) m.uy (fun i=>[(5,.w (W 0)),(7,.w (W i)),(1,.w (Pt 0))]) [bx 5 (zf m)] (fun _=>false) (.ret,[],[]) (.exit 4,[(80,.w (Bo false)),(5,.w (W 0)),(7,.w (W m.uy.length)),(1,.w (Pt 0))],[bx 5 (zf m)]) ?_ ?_ ?_
  ·simpa using q
  ·intro i hi _;have hw:=zB (i:=i) (by omega);have hc:=h5 m.uy[i] (jh hi);obtain⟨a,b,hxy⟩:=hzp _ (jh hi);rw[hxy]at hc;simp only[zf]at hc;rw[zj zbX.eq_1];simp[zf,hi,hw,hc,hxy]
  ·intro i hi hp;cases hp
  ·rw[zj zbX.eq_1];simp[zf]
 have k4:Y L Cs zbW (some [5,8,1]) 1 [(5,.w (W 0)),(8,.w (W (0:Nat))),(1,.w (Pt 0))] [bx 5 (zf m)]=some (.exit 6,[(98,.w (Bo false)),(5,.w (W 0)),(8,.w (W m.qQ.length)),(1,.w (Pt 0))],[bx 5 (zf m)]):=by
  have q:=zpE (L:=L) (Cs:=Cs) (b:=zbW) (live:=some [5,8,1]) (n0:=1) m.qQ (fun i=>[(5,.w (W 0)),(8,.w (W i)),(1,.w (Pt 0))]) [bx 5 (zf m)] (fun _=>false) (.ret,[],[]) (.exit 6,[(98,.w (Bo false)),(5,.w (W 0)),(8,.w (W m.qQ.length)),(1,.w (Pt 0))],[bx 5 (zf m)]) ?_ ?_ ?_
  ·simpa using q
  ·intro i hi _;have hw:=zB (i:=i) (by omega);have hc:=h6 m.qQ[i] (jh hi);simp only[zf,zaL]at hc;rw[zj zbW.eq_1];simp[zf,hi,hw,hc,zaL]
  ·intro i hi hp;cases hp
  ·rw[zj zbW.eq_1];simp[zf]
 simp only[zf,jt]at k1 k2 k3 k4 h3;rw[zUa zk7 rfl];simp[zeJ,zf,hW,a1,a2,l0,l1,l2,l3,l4,l9,k1,k2,k3,k4,h3]
def okI(r:Option (AV×Mem))(n:Int):Bool:=match r with
 |some (.w (.c (.int .i64 x)),[])=>x==n
 |_=>false
theorem zaq{f:FuncId}{a:List WV}{n:Int}(h:okI (zaH L Cs 400 f a []) n=true):R L Cs f a []=some (.w (W n),[]):=by
 refine zah.2 ⟨400,?_⟩;unfold okI at h;split at h
 ·rename_i x e;have:x=n:=by simpa using h
  rw[e,this]
 ·cases h
def Ap:List Int:=[1500,600,1000,300]
def zdD(v:Int)(k:Nat)(lim:Int)(Z S Wk:List (List Cl)):WV:=.a [I v,.jd ((zy k lim).map zo),.jd Z,.jd S,.jd Wk]
theorem rs2(v lim:Int)(Z S Wk:List (List Cl)):((List.range 31).all fun o=>okI (zaH L Cs 400 zV [zdD v 2 lim Z S Wk,.a (zaY o 0 1)] []) 0)=true:=by kernel_rfl
theorem kz2(v lim:Int)(s:List Cl)(Wk:List (List Cl)):((List.range 2).all fun r=>okI (zaH L Cs 400 zR [zdD v 2 lim (zO 2 r) [s] Wk] []) 0&&(zO 2 r).all fun z=>okI (zaH L Cs 400 zJ [zdD v 2 lim (zO 2 r) [s] Wk,.a z] []) 0)=true:=by kernel_rfl
theorem rs6(v lim:Int)(Z S Wk:List (List Cl)):((List.range 31).all fun o=>okI (zaH L Cs 400 zV [zdD v 6 lim Z S Wk,.a (zaY o 1 3)] []) 0&&okI (zaH L Cs 400 zV [zdD v 6 lim Z S Wk,.a (zaY o 2 3)] []) 0)=true:=by kernel_rfl
theorem kz6(v lim:Int)(Wk:List (List Cl)):(okI (zaH L Cs 400 zR [zdD v 6 lim (zO 6 0) [] Wk] []) 0&&(zO 6 0).all fun z=>okI (zaH L Cs 400 zJ [zdD v 6 lim (zO 6 0) [] Wk,.a z] []) 0)=true:=by kernel_rfl
theorem kz6b(v lim:Int)(s s':List Cl)(Wk:List (List Cl)):(okI (zaH L Cs 400 zR [zdD v 6 lim (zO 6 1) [s,s'] Wk] []) 0&&(zO 6 1).all fun z=>okI (zaH L Cs 400 zJ [zdD v 6 lim (zO 6 1) [s,s'] Wk,.a z] []) 0)=true:=by kernel_rfl
theorem klP(k:Nat)(hk:k<7)(v:Int)(Z S Wk:List (List Cl)):(Ap.all fun lim=>okI (zaH L Cs 400 zaU [zdD v k lim Z S Wk] []) 0)=true:=match k,hk with
 |0,_=>by kernel_rfl
 |1,_=>by kernel_rfl
 |2,_=>by kernel_rfl
 |3,_=>by kernel_rfl
 |4,_=>by kernel_rfl
 |5,_=>by kernel_rfl
 |6,_=>by kernel_rfl
theorem kjP(k:Nat)(hk:k<7)(v lim:Int)(Z S Wk:List (List Cl)):okI (zaH L Cs 400 zaM [zdD v k lim Z S Wk] []) 0=true:=match k,hk with
 |0,_=>by kernel_rfl
 |1,_=>by kernel_rfl
 |2,_=>by kernel_rfl
 |3,_=>by kernel_rfl
 |4,_=>by kernel_rfl
 |5,_=>by kernel_rfl
 |6,_=>by kernel_rfl
theorem kcP(k:Nat)(hk:k<7)(lim:Int):((zy k lim).all fun l=>okI (zaH L Cs 400 zaw [.a [zeT l]] []) l.len&&okI (zaH L Cs 400 zN [.a [zeT l]] []) l.len)=true:=match k,hk with
 |0,_=>by kernel_rfl
 |1,_=>by kernel_rfl
 |2,_=>by kernel_rfl
 |3,_=>by kernel_rfl
 |4,_=>by kernel_rfl
 |5,_=>by kernel_rfl
 |6,_=>by kernel_rfl
theorem rlP(k:Nat)(hk:k<7)(v:Int)(Z S Wk:List (List Cl)):(Ap.all fun lim=>(List.range (zy k lim).length).all fun i=>okI (zaH L Cs 400 zav [zdD v k lim Z S Wk,W i] []) 0)=true:=match k,hk with
 |0,_=>by kernel_rfl
 |1,_=>by kernel_rfl
 |2,_=>by kernel_rfl
 |3,_=>by kernel_rfl
 |4,_=>by kernel_rfl
 |5,_=>by kernel_rfl
 |6,_=>by kernel_rfl
theorem rjP(k:Nat)(hk:k<7)(v lim:Int)(Z S Wk:List (List Cl)):okI (zaH L Cs 400 zau [zdD v k lim Z S Wk] []) 0=true:=match k,hk with
 |0,_=>by kernel_rfl
 |1,_=>by kernel_rfl
 |2,_=>by kernel_rfl
 |3,_=>by kernel_rfl
 |4,_=>by kernel_rfl
 |5,_=>by kernel_rfl
 |6,_=>by kernel_rfl
theorem kzP(k:Nat)(hk:k<6)(h2:k≠2)(v lim:Int)(Wk:List (List Cl)):((List.range 2).all fun r=>okI (zaH L Cs 400 zR [zdD v k lim (zO k r) [] Wk] []) 0&&(zO k r).all fun z=>okI (zaH L Cs 400 zJ [zdD v k lim (zO k r) [] Wk,.a z] []) 0)=true:=match k,hk with
 |0,_=>by kernel_rfl
 |1,_=>by kernel_rfl
 |2,_=>absurd rfl h2
 |3,_=>by kernel_rfl
 |4,_=>by kernel_rfl
 |5,_=>by kernel_rfl
def zhU(a b:Int):List (List Cl):=[[I 12,.jd [[I a]]],[I 5,.jd []],[I 9,.jd [[I b]]],[I 4,.jd []]]
abbrev zsZ(v:Int)(k:Nat)(lim:Int)(Z S Wk:List (List Cl)):List Cl:=[I v,.jd ((zy k lim).map zo),.jd Z,.jd S,.jd Wk]
theorem cf1:zaH L Cs 400 zap [.c (.jd (zhU 0 1)),.c (.fn zc0 [] [])] []=some (.w (Bo false),[])/\zaH L Cs 400 zap [.c (.jd (zhU 1 3)),.c (.fn zc0 [] [])] []=some (.w (Bo false),[])/\zaH L Cs 400 zap [.c (.jd (zhU 2 3)),.c (.fn zc0 [] [])] []=some (.w (Bo false),[]):=⟨by kernel_rfl,by kernel_rfl,by kernel_rfl⟩
theorem cf2a(v lim:Int)(Z S Wk:List (List Cl)):zaH L Cs 400 zap [.c (.jd (zhU 0 1)),.c (.fn zcZ [] [.ptr 0 0 0 0])] [bx 5 (zsZ v 2 lim Z S Wk)]=some (.w (Bo false),[bx 5 (zsZ v 2 lim Z S Wk)]):=by kernel_rfl
theorem cf2b(v lim:Int)(Z S Wk:List (List Cl)):zaH L Cs 400 zap [.c (.jd (zhU 1 3)),.c (.fn zcZ [] [.ptr 0 0 0 0])] [bx 5 (zsZ v 6 lim Z S Wk)]=some (.w (Bo false),[bx 5 (zsZ v 6 lim Z S Wk)]):=by kernel_rfl
theorem cf2c(v lim:Int)(Z S Wk:List (List Cl)):zaH L Cs 400 zap [.c (.jd (zhU 2 3)),.c (.fn zcZ [] [.ptr 0 0 0 0])] [bx 5 (zsZ v 6 lim Z S Wk)]=some (.w (Bo false),[bx 5 (zsZ v 6 lim Z S Wk)]):=by kernel_rfl
theorem zha{m:zD}(hn:m.signals.length<=10)(h:∀s∈m.signals,∃o a b,s=zaY o a b/\0<=o/\o<=1099511627776 /\
   R L Cs zap [.c (.jd (zhU a b)),.c (.fn zc0 [] [])] []=some (.w (Bo false),[]) /\
   R L Cs zap [.c (.jd (zhU a b)),.c (.fn zcZ [] [.ptr 0 0 0 0])] [bx 5 (zf m)]=some (.w (Bo false),[bx 5 (zf m)])) :
  R L Cs zao [.a (zf m)] []=some (.w (W 0),[]):=by
 have q:=zpE (L:=L) (Cs:=Cs) (b:=zcM) (live:=some [9,8,1,10]) (n0:=1) m.signals (fun i=>[(9,.w (W m.signals.length)),(8,.w (.c (.jd m.signals))),(1,.w (Pt 0)),(10,.w (W i))]) [bx 5 (zf m)] (fun _=>false) (.ret,[],[]) (.exit 0,[(11,.w (Bo false)),(1,.w (Pt 0)),(8,.w (.c (.jd m.signals))),(9,.w (W m.signals.length)),(10,.w (W m.signals.length))],[bx 5 (zf m)]) ?_ ?_ ?_
 ·simp only[zf,jt]at q;simp at q;rw[zUa zlv rfl];simp[zeX,zf,q]
 ·intro i hi _;have hw:=zB (i:=i) (by omega);obtain⟨o,a,b,hs,o1,o2,c1,c2⟩:=h _ (jh hi);have hW:=ziD o 0 1099511627776;simp only[zf,zhU]at c1 c2;rw[zj zcM.eq_1];simp[zf,hi,hw,hs,zaY,hW,o1,o2,c1,c2]
 ·intro i hi hp;cases hp
 ·rw[zj zcM.eq_1];simp[zf]
theorem zBY{m:zD}{n:Nat}(hn:n<m.je.length)(hlen:R L Cs zaw [.a [zeT m.je[n]]] []=some (.w (W m.je[n].len),[])):R L Cs zkE [.a (zf m),W n] []=some (.w (W m.je[n].len),[]):=by
 simp only[zeT]at hlen;rw[zUa zou rfl];simp[zh5,zf,hn,zo,hlen]
theorem zkY{m:zD}(h0:0<m.je.length)(hlen:R L Cs zaw [.a [zeT m.je[0]]] []=some (.w (W m.je[0].len),[]))(hk:m.je[0].kind=1)(hl:15000<=m.je[0].len)(hl2:m.je[0].len<=1000000)(b t:Int)(hb:0<=b/\b<40)(ht:0<=t/\t<3)
  (hw:m.qQ=[]\/m.qQ=[⟨0,10000,15000,b,b+20,t*200⟩]):R L Cs zec [.a (zf m)] []=some (.w (W 0),[]):=by
 have q:=zpE (L:=L) (Cs:=Cs) (b:=zdm) (live:=some [12,11,10,1]) (n0:=1) m.qQ (fun i=>[(12,.w (W i)),(11,.w (W m.qQ.length)),(10,.w (.c (.jd (m.qQ.map zaL)))),(1,.w (Pt 0))]) [bx 5 (zf m)] (fun _=>false) (.ret,[],[]) (.exit 0,[(13,.w (Bo false)),(12,.w (W m.qQ.length)),(11,.w (W m.qQ.length)),(10,.w (.c (.jd (m.qQ.map zaL)))),(1,.w (Pt 0))],[bx 5 (zf m)]) ?_ ?_ ?_
 ·simp only[zf,jt]at q;simp at q;rw[zUa zmZ rfl];simp[zfE,zf,q]
 ·intro i hi _;have hwi:m.qQ[i]=⟨0,10000,15000,b,b+20,t*200⟩:=by
   rcases hw with e|e
   ·rw[e]at hi;simp at hi
   ·have hi0:i=0:=by rw[e]at hi;simp at hi;exact hi
    subst hi0;simp[e]
  have hwl:m.qQ.length<=1:=by rcases hw with e |e<;>simp[e]
  have hww:=zB (i:=i) (by omega);have hB:=zmo (k:=m.je[0].kind) (.inl hk);have hL:=zBY h0 hlen;have hW:=ziD (t*200) 0 2000;rw[hk]at hB;simp only[zf,jt,zeR,zif,zd4]at hL hB;generalize hln:m.je[0]=ln at *;have x1:¬b<0:=by omega
  have x2:¬b+20<=b:=by omega
  have x3:¬(1099511627776:Int)<b+20:=by omega
  have x4:¬ln.len<15000:=by omega
  have x5:(0:Int)<=t*200:=by omega
  have x6:t*200<=2000:=by omega
  have x7:¬(m.je.length:Int)<=0:=by omega
  have x8:¬m.je=[]:=by intro e;rw[e]at h0;simp at h0
  have x9:(0:Int)<(m.je.length:Int):=by omega
  rw[zj zdm.eq_1];simp[zf,hi,hww,hwi,zaL,h0,hln,zo,hk,hB,hL,hW,x1,x2,x3,x4,x5,x6,x7,x8,x9]
 ·intro i hi hp;cases hp
 ·rw[zj zdm.eq_1];simp[zf]
theorem zga{m:zD}(h0:0<m.je.length)(hlen:R L Cs zN [.a [zeT m.je[0]]] []=some (.w (W m.je[0].len),[]))(hk:m.je[0].kind=1)(hl:15000<=m.je[0].len)(b t:Int)(hb:0<=b/\b<40)(ht:0<=t/\t<3) :
  R L Cs zfh [.a (zf m),.a (zaL ⟨0,10000,15000,b,b+20,t*200⟩)] []=some (.w (W 0),[]):=by
 have hB:=zhv (k:=m.je[0].kind) (.inl hk);have hW:=zmm (t*200) 0 2000;rw[hk]at hB;simp only[zeT,zeR,zif,zd4]at hlen hB;generalize hln:m.je[0]=ln at *;have x1:¬b<0:=by omega
 have x2:¬b+20<=b:=by omega
 have x3:¬(1099511627776:Int)<b+20:=by omega
 have x4:¬ln.len<15000:=by omega
 have x5:(0:Int)<=t*200:=by omega
 have x6:t*200<=2000:=by omega
 have x7:¬(m.je.length:Int)<=0:=by omega
 have x8:¬m.je=[]:=by intro e;rw[e]at h0;simp at h0
 have x9:(0:Int)<(m.je.length:Int):=by omega
 rw[zUa ziH rfl];simp[zdF,zf,zaL,h0,hln,zo,hk,hB,hlen,hW,x1,x2,x3,x4,x5,x6,x7,x8,x9]
structure zp2(lim r o1 o2 o3 v w b t:Int):Prop where
 lim:lim∈Ap
 r:r=0\/r=1
 o1:0<=o1/\o1<31
 o2:0<=o2/\o2<31
 o3:0<=o3/\o3<17
 v:0<=v/\v<5
 b:0<=b/\b<40
 t:0<=t/\t<3
theorem zky{lim:Int}(h:lim∈Ap):1<=lim/\lim<=2000:=by simp[Ap]at h;omega
theorem zbp(w b t:Int):zak w b t=[]\/zak w b t=[⟨0,10000,15000,b,b+20,t*200⟩]:=by
 unfold zak;split
 ·exact .inr rfl
 ·exact .inl rfl
theorem zTr(k:Nat)(hk:k<7){lim r o1 o2 o3 v w b t:Int}(h:zp2 lim r o1 o2 o3 v w b t)(hz:R L Cs zR [.a (zf (zq k lim r o1 o2 o3 v w b t))] []=some (.w (W 0),[])/\∀z∈(zq k lim r o1 o2 o3 v w b t).uy,R L Cs zJ [.a (zf (zq k lim r o1 o2 o3 v w b t)),.a z] []=some (.w (W 0),[]))(hs:R L Cs zao [.a (zf (zq k lim r o1 o2 o3 v w b t))] []=some (.w (W 0),[]))(hrs:∀s∈(zq k lim r o1 o2 o3 v w b t).signals,R L Cs zV [.a (zf (zq k lim r o1 o2 o3 v w b t)),.a s] []=some (.w (W 0),[]))(hsp:∀s∈(zq k lim r o1 o2 o3 v w b t).signals,∃o ps,s=[I o,.jd ps]):zcp (zq k lim r o1 o2 o3 v w b t):=by
 have hlim:=zky h.lim;have hv:=h.v;have hsz:zon (zq k lim r o1 o2 o3 v w b t):={
  v1:=hv.1
  v2:=by show v<=_;omega
  l1:=by match k,hk with |0,_ |1,_ |2,_ |3,_ |4,_ |5,_ |6,_=>simp[zq,zy]
  l2:=by match k,hk with |0,_ |1,_ |2,_ |3,_ |4,_ |5,_ |6,_=>simp[zq,zy]
  z:=by match k,hk with |0,_ |1,_ |2,_ |3,_ |4,_ |5,_ |6,_=>simp[zq,zO]
  s:=by match k,hk with |0,_ |1,_ |2,_ |3,_ |4,_ |5,_ |6,_=>(simp only[zq,zt];first |(split<;>simp) |simp)
  w:=by rcases zbp w b t with e |e<;>simp[zq,e] }
 have hlen:∀l∈(zq k lim r o1 o2 o3 v w b t).je,R L Cs zaw [.a [zeT l]] []=some (.w (W l.len),[]):=fun l hl=>by
  have:=jq.1 (kcP k hk lim) l hl;rw[jf]at this;exact zaq this.1
 have hrlen:∀l∈(zq k lim r o1 o2 o3 v w b t).je,R L Cs zN [.a [zeT l]] []=some (.w (W l.len),[]):=fun l hl=>by
  have:=jq.1 (kcP k hk lim) l hl;rw[jf]at this;exact zaq this.2
 have hL:∀h0:0<(zq k lim r o1 o2 o3 v w b t).je.length,(zq k lim r o1 o2 o3 v w b t).je[0].kind=1/\15000<=(zq k lim r o1 o2 o3 v w b t).je[0].len/\(zq k lim r o1 o2 o3 v w b t).je[0].len<=1000000:=by match k,hk with |0,_ |1,_ |2,_ |3,_ |4,_ |5,_ |6,_=>simp[zq,zy,zQ]
 have h0:0<(zq k lim r o1 o2 o3 v w b t).je.length:=hsz.l1;have hzp:∀s∈(zq k lim r o1 o2 o3 v w b t).uy,∃ps o,s=[.jd ps,I o]:=by
  match k,hk with
  |0,_ |1,_ |2,_ |3,_ |4,_ |5,_ |6,_ =>
   intro s hs;simp[zq,zO]at hs
   try(first |(rcases hs with hs |hs<;>(subst hs;exact⟨_,_,rfl⟩)) |(subst hs;exact⟨_,_,rfl⟩))
 exact {
  small:=⟨by match k,hk with |0,_ |1,_ |2,_ |3,_ |4,_ |5,_ |6,_=>simp[zq,zy],by match k,hk with |0,_ |1,_ |2,_ |3,_ |4,_ |5,_ |6,_=>simp[zq,zy,zQ],by match k,hk with |0,_ |1,_ |2,_ |3,_ |4,_ |5,_ |6,_=>simp[zq,zy,zQ]⟩
  chk:=zgb (zhb hsz) (zaq (jq.1 (klP k hk v (zO k r) (zt k r o1 o2 o3) ((zak w b t).map zaL)) lim h.lim)) (zaq (kjP k hk v lim (zO k r) (zt k r o1 o2 o3) ((zak w b t).map zaL))) hs hz.1
   (zkY h0 (hlen _ (jh h0)) (hL h0).1 (hL h0).2.1 (hL h0).2.2 b t h.b h.t (zbp w b t))
  Ao:=zd1 hsz (fun i hi=>zaq (jq.1 (jq.1 (rlP k hk v (zO k r) (zt k r o1 o2 o3) ((zak w b t).map zaL)) lim h.lim) i (uZ.2 hi))) (zaq (rjP k hk v lim (zO k r) (zt k r o1 o2 o3) ((zak w b t).map zaL))) hsp hzp hrs hz.2
   (fun x hx=>by
    rcases zbp w b t with e|e
    ·simp[zq,e]at hx
    ·simp[zq,e]at hx;subst hx;exact zga h0 (hrlen _ (jh h0)) (hL h0).1 (hL h0).2.1 b t h.b h.t)
  len:=hlen
  rlen:=hrlen
  AM:=by match k,hk with |0,_ |1,_ |2,_ |3,_ |4,_ |5,_ |6,_=>simp[zq,zy,zQ]
  kind:=by match k,hk with |0,_ |1,_ |2,_ |3,_ |4,_ |5,_ |6,_=>simp[zq,zy,zQ]
  yj:=by match k,hk with |0,_ |1,_ |2,_ |3,_ |4,_ |5,_ |6,_=>(simp[zq,zy,zQ];try omega) }
theorem zTo(k:Nat)(hk:k<7){lim r o1 o2 o3 v w b t:Int}(h:zp2 lim r o1 o2 o3 v w b t)(hn:zt k r o1 o2 o3=[])(kz:∀Wk:List (List Cl),((List.range 2).all fun r=>okI (zaH L Cs 400 zR [zdD v k lim (zO k r) [] Wk] []) 0&&(zO k r).all fun z=>okI (zaH L Cs 400 zJ [zdD v k lim (zO k r) [] Wk,.a z] []) 0)=true):zcp (zq k lim r o1 o2 o3 v w b t):=by
 have e:(zq k lim r o1 o2 o3 v w b t).signals=[]:=hn;refine zTr k hk h ?_ (zha (by rw[e];simp) (fun s hs=>by rw[e]at hs;cases hs)) (fun s hs=>by rw[e]at hs;cases hs) (fun s hs=>by rw[e]at hs;cases hs);have em:zf (zq k lim r o1 o2 o3 v w b t)=[I v,.jd ((zy k lim).map zo),.jd (zO k r),.jd [],.jd ((zak w b t).map zaL)]:=by rw[<-hn];rfl
 rw[em];have q0:=jq.1 (kz ((zak w b t).map zaL));rcases h.r with hr|hr
 ·subst hr;have q:=q0 0 (by simp);rw[jf]at q;exact⟨zaq q.1,fun z hz=>zaq (jq.1 q.2 z hz)⟩
 ·subst hr;have q:=q0 1 (by simp);rw[jf]at q;exact⟨zaq q.1,fun z hz=>zaq (jq.1 q.2 z hz)⟩
theorem good2{lim r o1 o2 o3 v w b t:Int}(h:zp2 lim r o1 o2 o3 v w b t):zcp (zq 2 lim r o1 o2 o3 v w b t):=by
 have hz:R L Cs zR [.a (zf (zq 2 lim r o1 o2 o3 v w b t))] []=some (.w (W 0),[])/\∀z∈(zq 2 lim r o1 o2 o3 v w b t).uy,R L Cs zJ [.a (zf (zq 2 lim r o1 o2 o3 v w b t)),.a z] []=some (.w (W 0),[]):=by
  have q0:=jq.1 (kz2 v lim (zaY o1 0 1) ((zak w b t).map zaL));rcases h.r with hr|hr
  ·subst hr;have q:=q0 0 (by simp);rw[jf]at q;exact⟨zaq q.1,fun z hz=>zaq (jq.1 q.2 z hz)⟩
  ·subst hr;have q:=q0 1 (by simp);rw[jf]at q;exact⟨zaq q.1,fun z hz=>zaq (jq.1 q.2 z hz)⟩
 have hs:R L Cs zao [.a (zf (zq 2 lim r o1 o2 o3 v w b t))] []=some (.w (W 0),[]):=zha (by simp[zq,zt]) (fun s hs=>by
  simp[zq,zt]at hs;subst hs;exact⟨o1,0,1,rfl,h.o1.1,by have:=h.o1.2;omega,zah.2 ⟨400,cf1.1⟩,zah.2 ⟨400,cf2a v lim _ _ _⟩⟩)
 have hrs:∀s∈(zq 2 lim r o1 o2 o3 v w b t).signals,R L Cs zV [.a (zf (zq 2 lim r o1 o2 o3 v w b t)),.a s] []=some (.w (W 0),[]):=fun s hs=>by
  simp[zq,zt]at hs;subst hs;obtain⟨n,hn⟩:=jB h.o1.1;subst hn;exact zaq (jq.1 (rs2 v lim _ _ _) n (uZ.2 (by have:=h.o1.2;omega)))
 have hsp:∀s∈(zq 2 lim r o1 o2 o3 v w b t).signals,∃o ps,s=[I o,.jd ps]:=fun s hs=>by
  simp[zq,zt]at hs;subst hs;exact⟨_,_,rfl⟩
 exact zTr 2 (by decide) h hz hs hrs hsp
theorem good6{lim r o1 o2 o3 v w b t:Int}(h:zp2 lim r o1 o2 o3 v w b t):zcp (zq 6 lim r o1 o2 o3 v w b t):=by
 have hv:=h.v;have hsz:zon (zq 6 lim r o1 o2 o3 v w b t):={
  v1:=hv.1
  v2:=by show v<=_;omega
  l1:=by simp[zq,zy]
  l2:=by simp[zq,zy]
  z:=by simp[zq,zO]
  s:=by simp only[zq,zt];first |(split<;>simp) |simp
  w:=by rcases zbp w b t with e |e<;>simp[zq,e] }
 have hz:R L Cs zR [.a (zf (zq 6 lim r o1 o2 o3 v w b t))] []=some (.w (W 0),[])/\∀z∈(zq 6 lim r o1 o2 o3 v w b t).uy,R L Cs zJ [.a (zf (zq 6 lim r o1 o2 o3 v w b t)),.a z] []=some (.w (W 0),[]):=by
  rcases h.r with hr|hr
  ·subst hr;have q:=kz6 v lim ((zak w b t).map zaL);rw[jf]at q;exact⟨zaq q.1,fun z hz=>zaq (jq.1 q.2 z hz)⟩
  ·subst hr;have q:=kz6b v lim (zaY o2 1 3) (zaY o3 2 3) ((zak w b t).map zaL);rw[jf]at q;exact⟨zaq q.1,fun z hz=>zaq (jq.1 q.2 z hz)⟩
 have hs:R L Cs zao [.a (zf (zq 6 lim r o1 o2 o3 v w b t))] []=some (.w (W 0),[]):=zha (by have:=hsz.s;omega) (fun s hs=>by
  rcases h.r with hr|hr
  ·subst hr;simp[zq,zt]at hs
  ·subst hr;simp[zq,zt]at hs;rcases hs with hs|hs
   ·subst hs;exact⟨o2,1,3,rfl,h.o2.1,by have:=h.o2.2;omega,zah.2 ⟨400,cf1.2.1⟩,zah.2 ⟨400,cf2b v lim _ _ _⟩⟩
   ·subst hs;exact⟨o3,2,3,rfl,h.o3.1,by have:=h.o3.2;omega,zah.2 ⟨400,cf1.2.2⟩,zah.2 ⟨400,cf2c v lim _ _ _⟩⟩)
 have hrs:∀s∈(zq 6 lim r o1 o2 o3 v w b t).signals,R L Cs zV [.a (zf (zq 6 lim r o1 o2 o3 v w b t)),.a s] []=some (.w (W 0),[]):=fun s hs=>by
  rcases h.r with hr|hr
  ·subst hr;simp[zq,zt]at hs
  ·subst hr;simp[zq,zt]at hs;rcases hs with hs|hs
   ·subst hs;obtain⟨n,hn⟩:=jB h.o2.1;subst hn;have q:=jq.1 (rs6 v lim (zO 6 1) (zt 6 1 o1 n o3) ((zak w b t).map zaL)) n (uZ.2 (by have:=h.o2.2;omega));rw[jf]at q;exact zaq q.1
   ·subst hs;obtain⟨n,hn⟩:=jB h.o3.1;subst hn;have q:=jq.1 (rs6 v lim (zO 6 1) (zt 6 1 o1 o2 n) ((zak w b t).map zaL)) n (uZ.2 (by have:=h.o3.2;omega));rw[jf]at q;exact zaq q.2
 have hsp:∀s∈(zq 6 lim r o1 o2 o3 v w b t).signals,∃o ps,s=[I o,.jd ps]:=fun s hs=>by
  rcases h.r with hr|hr
  ·subst hr;simp[zq,zt]at hs
  ·subst hr;simp[zq,zt]at hs;rcases hs with hs|hs
   ·subst hs;exact⟨_,_,rfl⟩
   ·subst hs;exact⟨_,_,rfl⟩
 exact zTr 6 (by decide) h hz hs hrs hsp
theorem zTy(k:Nat)(hk:k<7){lim r o1 o2 o3 v w b t:Int}(h:zp2 lim r o1 o2 o3 v w b t):zcp (zq k lim r o1 o2 o3 v w b t):=match k,hk with
 |0,_=>zTo 0 (by decide) h rfl (kzP 0 (by decide) (by decide) v lim)
 |1,_=>zTo 1 (by decide) h rfl (kzP 1 (by decide) (by decide) v lim)
 |2,_=>good2 h
 |3,_=>zTo 3 (by decide) h rfl (kzP 3 (by decide) (by decide) v lim)
 |4,_=>zTo 4 (by decide) h rfl (kzP 4 (by decide) (by decide) v lim)
 |5,_=>zTo 5 (by decide) h rfl (kzP 5 (by decide) (by decide) v lim)
 |6,_=>good6 h
theorem zz4(j:Nat):zeC j∈Ap:=by
 unfold zeC Ap;split<;>simp
theorem zBA(n:Int):zp2 (zeC (((n % 16777216).tdiv 7).tmod 4).toNat) (((n % 16777216).tdiv 28).tmod 2) (((n % 16777216).tdiv 28).tmod 31) (((n % 16777216).tdiv 56).tmod 31) (((n % 16777216).tdiv 56).tmod 17) (((n % 16777216).tdiv 28).tmod 5) (((n % 16777216).tdiv 1736).tmod 3) (((n % 16777216).tdiv 5208).tmod 40) (((n % 16777216).tdiv 208320).tmod 3):=by
 have hN:0<=n % 16777216/\n % 16777216<16777216:=by omega
 have hr:=zE _ 28 2 hN (by decide) (by decide);exact⟨zz4 _,by omega,zE _ 28 31 hN (by decide) (by decide),zE _ 56 31 hN (by decide) (by decide),zE _ 56 17 hN (by decide) (by decide),zE _ 28 5 hN (by decide) (by decide),zE _ 5208 40 hN (by decide) (by decide),zE _ 208320 3 hN (by decide) (by decide)⟩
structure Prt where
 lane:Int
 lo:Int
 hi:Int
 yN:Int
structure Zon where
 parts:List Prt
 yx:Int
structure Phs where
 yw:Int
 green:List Int
structure Sgn where
 offset:Int
 v8:List Phs
def zeB(p:Prt):List Cl:=[I p.lane,I p.lo,I p.hi,I p.yN]
def zkl(l:List Prt):List (List Cl):=l.map zeB
def zdP(z:Zon):List Cl:=[.jd (zkl z.parts),I z.yx]
def zk8(l:List Zon):List (List Cl):=l.map zdP
def zr6(p:Phs):List Cl:=[I p.yw,.jd (zu p.green)]
def zje(l:List Phs):List (List Cl):=l.map zr6
def zeq(s:Sgn):List Cl:=[I s.offset,.jd (zje s.v8)]
def zjd(l:List Sgn):List (List Cl):=l.map zeq
@[simp] theorem zCq(l:List Prt):(zkl l).length=l.length:=by simp[zkl]
@[simp] theorem zzy{l:List Prt}{i:Nat}(h:i<(zkl l).length):(zkl l)[i]=zeB (l[i]'(by simpa using h)):=by simp[zkl]
@[simp] theorem zC7(l:List Zon):(zk8 l).length=l.length:=by simp[zk8]
@[simp] theorem zA9{l:List Zon}{i:Nat}(h:i<(zk8 l).length):(zk8 l)[i]=zdP (l[i]'(by simpa using h)):=by simp[zk8]
@[simp] theorem zCr(l:List Phs):(zje l).length=l.length:=by simp[zje]
@[simp] theorem zzz{l:List Phs}{i:Nat}(h:i<(zje l).length):(zje l)[i]=zr6 (l[i]'(by simpa using h)):=by simp[zje]
@[simp] theorem zCp(l:List Sgn):(zjd l).length=l.length:=by simp[zjd]
@[simp] theorem zzx{l:List Sgn}{i:Nat}(h:i<(zjd l).length):(zjd l)[i]=zeq (l[i]'(by simpa using h)):=by simp[zjd]
structure zvY(l:List Phs):Prop where
 ne:0<l.length
 few:l.length<=6
 yw:∀p∈l,1<=p.yw/\p.yw<=10000
 green:∀p∈l,p.green.length<=100
def zdg(l:List Phs):Int:=(l.map Phs.yw).foldl (· + ·) 0
def zpQ(lane:Int):Int->List Phs->Bool
 |_,[]=>false
 |at',p::r=>if p.yw<=at' then zpQ lane (at'-p.yw) r else decide (lane∈p.green)
def zfA(s:Sgn)(lane tick:Int):Bool:=zpQ lane ((s.offset.tmod (zdg s.v8)+tick.tmod (zdg s.v8)).tmod (zdg s.v8)) s.v8
structure Zd(m:zD)(zs:List Zon)(ss:List Sgn):Prop where
 z:m.uy=zk8 zs
 s:m.signals=zjd ss
 few:zs.length<=12
 sfew:ss.length<=4
 sig:∀z∈zs,0<=z.yx/\z.yx<=ss.length
 pfew:∀z∈zs,z.parts.length<=6
 ph:∀s∈ss,zvY s.v8
abbrev ztn:Sgn:=⟨0,[]⟩
abbrev Asc(l:List Int):Prop:=l.Pairwise (· < ·)
def zjF(z:Zon)(lane:Int):Option Prt:=z.parts.find? fun p=>decide (p.lane=lane)
def zff(ss:List Sgn)(lane tick:Int)(z:Zon):List Int:=if z.yx=0 then [] else match zjF z lane with
 |none=>[]
 |some p=>if zfA (ss.getD (z.yx-1).toNat ztn) lane tick=true then [] else [p.lo]
theorem wr{x:Int}(h1:-9000000000000000000<=x)(h2:x<=9000000000000000000):IntKind.i64.wrap x=x:=zTd _ (by omega) (by omega)
theorem ztS{a b A B:Int}(h1:-A<=a)(h2:a<=A)(h3:-B<=b)(h4:b<=B):-(A*B)<=a*b/\a*b<=A*B:=by
 have e1:0<=(A-a)*(B+b):=u3 (by omega) (by omega);have e2:0<=(A+a)*(B-b):=u3 (by omega) (by omega);have e3:0<=(A-a)*(B-b):=u3 (by omega) (by omega);have e4:0<=(A+a)*(B+b):=u3 (by omega) (by omega);simp only[Int.sub_mul,Int.add_mul,Int.mul_sub,Int.mul_add]at e1 e2 e3 e4;omega
structure Vw(vx vy wx wy:Int):Prop where
 a1:-1000000<=vx/\vx<=1000000
 a2:-1000000<=vy/\vy<=1000000
 a3:-20000000<=wx/\wx<=20000000
 a4:-20000000<=wy/\wy<=20000000
theorem z01(x0 y0 x y:Int)(h:(-16777216<=x0/\x0<=16777216)/\(-16777216<=y0/\y0<=16777216)/\(-16777216<=x/\x<=16777216)/\(-16777216<=y/\y<=16777216)) :
  R L Cs zXu [.a [I x0,I y0],.a [I x,I y]] []=some (.w (.a [I (x-x0),I (y-y0)]),[]):=by
 have h1:=wr (x:=x-x0) (by omega) (by omega);have h2:=wr (x:=y-y0) (by omega) (by omega);rw[zUa zZA rfl];simp[zun,zg,h1,h2]
theorem zZw(x0 y0 x y:Int)(h:(-16777216<=x0/\x0<=16777216)/\(-16777216<=y0/\y0<=16777216)/\(-16777216<=x/\x<=16777216)/\(-16777216<=y/\y<=16777216)) :
  R L Cs zXV [.a [I x,I y],.a [I x0,I y0]] []=some (.w (.a [I (x-x0),I (y-y0)]),[]):=by
 have h1:=wr (x:=x-x0) (by omega) (by omega);have h2:=wr (x:=y-y0) (by omega) (by omega);rw[zUa zX2 rfl];simp[zkT,zg,h1,h2]
theorem Vw.m{vx vy wx wy:Int}(h:Vw vx vy wx wy):(-20000000000000<=vx*wx/\vx*wx<=20000000000000)/\(-20000000000000<=vy*wy/\vy*wy<=20000000000000)/\(-20000000000000<=vx*wy/\vx*wy<=20000000000000)/\(-20000000000000<=vy*wx/\vy*wx<=20000000000000):=by
 obtain⟨⟨a1,a2⟩,⟨b1,b2⟩,⟨c1,c2⟩,⟨d1,d2⟩⟩:=h;have h1:=ztS (by omega:-1000000<=vx) a2 (by omega:-20000000<=wx) c2;have h2:=ztS (by omega:-1000000<=vy) b2 (by omega:-20000000<=wy) d2;have h3:=ztS (by omega:-1000000<=vx) a2 (by omega:-20000000<=wy) d2;have h4:=ztS (by omega:-1000000<=vy) b2 (by omega:-20000000<=wx) c2;omega
theorem z03{vx vy wx wy:Int}(h:Vw vx vy wx wy):R L Cs zWU [.a [I vx,I vy],.a [I wx,I wy]] []=some (.w (W (vx*wx+vy*wy)),[]):=by
 have hm:=h.m;have h1:=wr (x:=vx*wx) (by omega) (by omega);have h2:=wr (x:=vy*wy) (by omega) (by omega);have h3:=wr (x:=vx*wx+vy*wy) (by omega) (by omega);rw[zUa zYt rfl];simp[znB,zg,h1,h2,h3]
theorem z1s{vx vy wx wy:Int}(h:Vw vx vy wx wy):R L Cs zXp [.a [I vx,I vy],.a [I wx,I wy]] []=some (.w (W (vx*wy-vy*wx)),[]):=by
 have hm:=h.m;have h1:=wr (x:=vx*wy) (by omega) (by omega);have h2:=wr (x:=vy*wx) (by omega) (by omega);have h3:=wr (x:=vx*wy-vy*wx) (by omega) (by omega);rw[zUa zYe rfl];simp[zW1,zg,h1,h2,h3]
theorem z1z{vx vy wx wy:Int}(h:Vw vx vy wx wy):R L Cs zXo [.a [I wx,I wy],.a [I vx,I vy]] []=some (.w (W (vx*wx+vy*wy)),[]):=by
 have hm:=h.m;have h1:=wr (x:=vx*wx) (by omega) (by omega);have h2:=wr (x:=vy*wy) (by omega) (by omega);have h3:=wr (x:=vx*wx+vy*wy) (by omega) (by omega);rw[zUa zYd rfl];simp[zmg,zg,Int.mul_comm wx,Int.mul_comm wy,h1,h2,h3]
theorem z1y{vx vy wx wy:Int}(h:Vw vx vy wx wy):R L Cs z1S [.a [I vx,I vy],.a [I wx,I wy]] []=some (.w (W (vx*wy-vy*wx)),[]):=by
 have hm:=h.m;have h1:=wr (x:=vx*wy) (by omega) (by omega);have h2:=wr (x:=vy*wx) (by omega) (by omega);have h3:=wr (x:=vx*wy-vy*wx) (by omega) (by omega);rw[zUa z15 rfl];simp[z1R,zg,h1,h2,h3]
def zZ7(n:Int):Int:=if -n>n then -n else n
theorem z1N{n:Int}(h1:-9000000000000000000<=n)(h2:n<=9000000000000000000):R L Cs zYH [W n] []=some (.w (W (zZ7 n)),[]):=by
 have e:=wr (x:=-n) (by omega) (by omega);rw[zUa zZU rfl];simp[zYa,e,zZ7,zoU,zyw]
def zXz(a b:Int):Int:=if a.tmod b<0 then a.tdiv b-1 else a.tdiv b
theorem z0g{a b:Int}(hb:0<b)(h1:-9000000000000000<=a)(h2:a<=9000000000000000):-9000000000000000<=a.tdiv b/\a.tdiv b<=9000000000000000:=by
 have h:=Int.natAbs_tdiv_le_natAbs a b;omega
theorem z1q{a b:Int}(hb:0<b)(h1:-9000000000000000<=a)(h2:a<=9000000000000000):R L Cs zYl [W a,W b] []=some (.w (W (zXz a b)),[]):=by
 have hd:=z0g hb h1 h2;have e1:=wr (x:=a.tdiv b) (by omega) (by omega);have e2:=wr (x:=a.tdiv b-1) (by omega) (by omega);have hb0:b≠0:=by omega
 rw[zUa zY9 rfl];by_cases c:a.tmod b<0<;>simp[zXI,e1,e2,hb0,c,zXz]
theorem z0Y{a b:Int}(hb:0<b)(h1:-9000000000000000<=a)(h2:a<=9000000000000000):R L Cs z12 [W a,W b] []=some (.w (W (zXz a b)),[]):=by
 have hd:=z0g hb h1 h2;have e1:=wr (x:=a.tdiv b) (by omega) (by omega);have e2:=wr (x:=a.tdiv b-1) (by omega) (by omega);have hb0:b≠0:=by omega
 rw[zUa z14 rfl];by_cases c:a.tmod b<0<;>simp[z1Q,e1,e2,hb0,c,zXz]
def zXn(x y:Int):Bool:=decide (-16777216<=x)&&decide (x<=16777216)&&decide (-16777216<=y)&&decide (y<=16777216)
theorem z0T(x y:Int):Y L Cs zpY (some [6,5,7]) 0 [(6,.w (W 1)),(5,.w (.c (.jd [[I x,I y]]))),(7,.w (W 1))] []=some (.exit 0,[(8,.w (Bo false)),(5,.w (.c (.jd [[I x,I y]]))),(6,.w (W 1)),(7,.w (W 1))],[]):=by
 rw[zj zpY.eq_1];simp
theorem z02(x y:Int):R L Cs zZr [.c (.jd [[I x,I y]])] []=some (.w (Bo (zXn x y)),[]):=by
 have e:IntKind.i64.wrap 1=1:=rfl;have h2:=z0T x y;have hy:∃E',Y L Cs zpY (some [6,5,7]) 0 [(6,.w (W 1)),(5,.w (.c (.jd [[I x,I y]]))),(7,.w (W 0))] []=some (if zXn x y then(.exit 0,[(8,.w (Bo false)),(5,.w (.c (.jd [[I x,I y]]))),(6,.w (W 1)),(7,.w (W 1))],[]) else(.ret,[(2,.w (Bo false))],E')):=by
  refine⟨[some { box:=true,esz:=2,rows:=[[I x,I y]],gen:=0,fz:=false,ver:=1 }],?_⟩;rw[zj zpY.eq_1];unfold zXn;rcases Int.lt_trichotomy x y with c|c|c
  ·by_cases c1:x < -16777216
   ·have c2:¬(-16777216<=x):=by omega
    have c3:¬y<x:=by omega
    simp[zg,zoU,zyw,c,c3,c1,c2]
   ·have c2:-16777216<=x:=by omega
    have c3:¬y<x:=by omega
    by_cases c4:16777216<y
    ·have c5:¬(y<=16777216):=by omega
     simp[zg,zoU,zyw,c,c3,c1,c2,c4,c5]
    ·have c5:y<=16777216:=by omega
     have c6:-16777216<=y:=by omega
     have c7:x<=16777216:=by omega
     simp[zg,zoU,zyw,c,c3,c1,c2,c4,c5,c6,c7,e,h2]
  ·subst c;by_cases c1:x < -16777216
   ·have c2:¬(-16777216<=x):=by omega
    simp[zg,zoU,zyw,c1,c2]
   ·have c2:-16777216<=x:=by omega
    by_cases c4:16777216<x
    ·have c5:¬(x<=16777216):=by omega
     simp[zg,zoU,zyw,c1,c2,c4,c5]
    ·have c5:x<=16777216:=by omega
     simp[zg,zoU,zyw,c1,c2,c4,c5,e,h2]
  ·have c':¬x<y:=by omega
   by_cases c1:y < -16777216
   ·have c2:¬(-16777216<=y):=by omega
    simp[zg,zoU,zyw,c,c',c1,c2]
   ·have c2:-16777216<=y:=by omega
    by_cases c4:16777216<x
    ·have c5:¬(x<=16777216):=by omega
     simp[zg,zoU,zyw,c,c',c1,c2,c4,c5]
    ·have c5:x<=16777216:=by omega
     have c6:-16777216<=x:=by omega
     have c7:y<=16777216:=by omega
     simp[zg,zoU,zyw,c,c',c1,c2,c4,c5,c6,c7,e,h2]
 obtain⟨E',hy⟩:=hy;rw[zUa zZB rfl];by_cases c:zXn x y=true
 ·rw[if_pos c]at hy;simp[zuo,hy,c]
 ·rw[if_neg c]at hy;simp[zuo,hy,c]
theorem z1t(x y:Int):R L Cs zXU [.a [I x,I y]] []=some (.w (Bo (zXn x y)),[]):=by
 rw[zUa zX1 rfl];unfold zXn;by_cases c1:-16777216<=x
 ·by_cases c2:x<=16777216
  ·by_cases c3:-16777216<=y
   ·simp[zkS,zg,c1,c2,c3]
   ·simp[zkS,zg,c1,c2,c3]
  ·simp[zkS,zg,c1,c2]
 ·simp[zkS,zg,c1]
abbrev nsh:List (Nat×Bool×Nat):=[(4,false,1),(5,false,1),(7,false,1)]
abbrev ghN(s:Int)(v:Nat):Option Blk:=some { box:=true,esz:=4,rows:=[[I s,Cl.ptr 1 0 0 0,Cl.ptr 2 0 0 0,Cl.ptr 3 0 0 0]],gen:=0,fz:=false,ver:=v }
abbrev pcb(x0 y0 vx vy len:Int):Option Blk:=some { box:=true,esz:=6,rows:=[[I x0,I y0,I vx,I vy,I len,I 0]],gen:=0,fz:=false,ver:=1 }
theorem zZI(x0 y0 vx vy len px py:Int):X L Cs (rG 1 [o1 0 9 (.box 0 6 (.k (.a [(I 0),(I 0),(I 0),(I 0),(I 0),(I 0)]))),o0 1 (.store 6 (.s 9) (.s 32))] [4,5,7,9]) (zv3 [31,32] [W 0,.a [I x0,I y0,I vx,I vy,I len,I 0]]++[(4,.w (Pt 1)),(5,.w (Pt 2)),(7,.w (Pt 3))]) [ghN 0 0,bx 2 [I px,I py],bx 1 [I 100],bx 1 [.jc]] =
  some (.normal,[(4,.w (Pt 1)),(5,.w (Pt 2)),(7,.w (Pt 3)),(9,.w (Pt 4))],[ghN 0 0,bx 2 [I px,I py],bx 1 [I 100],bx 1 [.jc],pcb x0 y0 vx vy len]):=by
 simp[zv3,zg,zH]
structure Rnd(x0 y0 vx vy len px py wx wy c d q:Int):Prop where
 hl:IntKind.i64.wrap (100*len)=100*len
 hl2:IntKind.i64.wrap (-100*len)=-100*len
 hl3:IntKind.i64.wrap (len+100)=len+100
 hl4:IntKind.i64.wrap ((len+100)*len)=(len+100)*len
 vt:R L Cs zXu [.a [I x0,I y0],.a [I px,I py]] []=some (.w (.a [I wx,I wy]),[])
 vN:R L Cs zXp [.a [I vx,I vy],.a [I wx,I wy]] []=some (.w (W c),[])
 yR:R L Cs zWU [.a [I vx,I vy],.a [I wx,I wy]] []=some (.w (W d),[])
 AA:R L Cs zYH [W c] []=some (.w (W (zZ7 c)),[])
 hfl:R L Cs zYl [W d,W len] []=some (.w (W q),[])
def zXi(len c d:Int):Bool:=decide (100*len<zZ7 c)||decide (d < -100*len)||decide ((len+100)*len<d)
theorem z0t{x0 y0 vx vy len px py wx wy c d q:Int}(h:Rnd x0 y0 vx vy len px py wx wy c d q)(hm:zXi len c d=true) :
  ∃E M,X L Cs zWF.code [(4,.w (Pt 1)),(5,.w (Pt 2)),(7,.w (Pt 3)),(9,.w (Pt 4))] [ghN 1 1,bx 2 [I px,I py],bx 1 [I 100],bx 1 [.jc],pcb x0 y0 vx vy len]=some (.normal,E,[ghN 1 1,bx 2 [I px,I py],bx 1 [I 100],bx 1 [.jc],M,some { box:=true,esz:=2,rows:=[[I wx,I wy]],gen:=0,fz:=false,ver:=1 }]):=by
 obtain⟨hl,hl2,hl3,hl4,vt,vN,yR,AA,hfl⟩:=h;have e1:IntKind.i64.wrap (-100)=-100:=rfl;refine⟨[(70,.w (Bo true)),(7,.w (Pt 3)),(9,.w (Pt 4)),(11,.w (W d))],pcb x0 y0 vx vy len,?_⟩;unfold zXi at hm;by_cases h1:100*len<zZ7 c
 ·simp[zWF,zg,zH,vt,vN,yR,AA,hl,h1]
 ·by_cases h2:d < -100*len
  ·simp[zWF,zg,zH,vt,vN,yR,AA,hl,hl2,e1,h1,h2]
  ·have h3:(len+100)*len<d:=by simpa [h1,h2]using hm
   simp[zWF,zg,zH,vt,vN,yR,AA,hl,hl2,hl3,hl4,e1,h1,h2,h3]
abbrev zYh(q len:Int):Int:=if 0<if len<q then len else q then if len<q then len else q else 0
abbrev zZH(v:Int):Option Blk:=some { box:=false,esz:=1,rows:=[[I v]],gen:=1,fz:=false,ver:=1 }
abbrev z0s(id:Nat):Option Blk:=some { box:=true,esz:=1,rows:=[[Cl.slice id 1 1 0 1 none]],gen:=0,fz:=false,ver:=1 }
theorem z0N{x0 y0 vx vy len px py wx wy c d q:Int}(h:Rnd x0 y0 vx vy len px py wx wy c d q)(hm:zXi len c d=false)(hw:IntKind.i64.wrap (zYh q len)=zYh q len) :
  X L Cs zWF.code [(4,.w (Pt 1)),(5,.w (Pt 2)),(7,.w (Pt 3)),(9,.w (Pt 4))] [ghN 1 1,bx 2 [I px,I py],bx 1 [I 100],bx 1 [.jc],pcb x0 y0 vx vy len] =
    some (.normal,[],[ghN 1 1,bx 2 [I px,I py],bx 1 [I 100],z0s 7,pcb x0 y0 vx vy len,some { box:=true,esz:=2,rows:=[[I wx,I wy]],gen:=0,fz:=false,ver:=1 },zZH (zYh q len),zZH (zYh q len)]):=by
 obtain⟨hl,hl2,hl3,hl4,vt,vN,yR,AA,hfl⟩:=h;have e1:IntKind.i64.wrap (-100)=-100:=rfl;simp only[zXi,uC,decide_eq_false_iff_not]at hm;obtain⟨⟨h1,h2⟩,h3⟩:=hm;simp[zWF,zg,zH,vt,vN,yR,AA,hl,hl2,hl3,hl4,e1,h1,h2,h3,hfl,zoU,zyw,hw]
theorem zZ0{x0 y0 vx vy len px py wx wy c d q:Int}(h:Rnd x0 y0 vx vy len px py wx wy c d q)(hm:zXi len c d=true) :
  R L Cs zWv [.c (.yld 0 zWv nsh),W 0,.a [I x0,I y0,I vx,I vy,I len,I 0]] [ghN 0 0,bx 2 [I px,I py],bx 1 [I 100],bx 1 [.jc]] =
    some (.w (Bo true),[ghN 0 2,bx 2 [I px,I py],bx 1 [I 100],bx 1 [.jc]]):=by
 obtain⟨E,M,hc⟩:=z0t h hm;exact zOg (cells:=[.ptr 1 0 0 0,.ptr 2 0 0 0,.ptr 3 0 0 0]) (M2:=[ghN 1 1,bx 2 [I px,I py],bx 1 [I 100],bx 1 [.jc],pcb x0 y0 vx vy len]) (M4:=[ghN 0 2,bx 2 [I px,I py],bx 1 [I 100],bx 1 [.jc],M,some { box:=true,esz:=2,rows:=[[I wx,I wy]],gen:=0,fz:=false,ver:=1 }]) zX3 rfl rfl (by simp[zb4]) (by simp[zxb]) (by rfl) (zZI x0 y0 vx vy len px py) (by simp[zsR]) hc (by simp[zsR,zxZ]) (by simp[finish,zH])
theorem z0q{x0 y0 vx vy len px py wx wy c d q:Int}(h:Rnd x0 y0 vx vy len px py wx wy c d q)(hm:zXi len c d=false)(hw:IntKind.i64.wrap (zYh q len)=zYh q len) :
  R L Cs zWv [.c (.yld 0 zWv nsh),W 0,.a [I x0,I y0,I vx,I vy,I len,I 0]] [ghN 0 0,bx 2 [I px,I py],bx 1 [I 100],bx 1 [.jc]] =
    some (.w (Bo true),[ghN 0 2,bx 2 [I px,I py],bx 1 [I 100],z0s 4,zZH (zYh q len)]):=by
 have hc:=z0N h hm hw;exact zOg (cells:=[.ptr 1 0 0 0,.ptr 2 0 0 0,.ptr 3 0 0 0]) (M2:=[ghN 1 1,bx 2 [I px,I py],bx 1 [I 100],bx 1 [.jc],pcb x0 y0 vx vy len]) (M4:=[ghN 0 2,bx 2 [I px,I py],bx 1 [I 100],z0s 7,pcb x0 y0 vx vy len,some { box:=true,esz:=2,rows:=[[I wx,I wy]],gen:=0,fz:=false,ver:=1 },zZH (zYh q len),zZH (zYh q len)]) zX3 rfl rfl (by simp[zb4]) (by simp[zxb]) (by rfl) (zZI x0 y0 vx vy len px py) (by simp[zsR]) hc (by simp[zsR,zxZ]) (by simp[zH,List.range,List.range.loop])
abbrev crv(x0 y0 x1 y1:Int):Cl:=.jd [[I x0,I y0],[I x1,I y1]]
theorem zZ1{x0 y0 x1 y1 vx vy len px py a v:Int}(hw:IntKind.i64.wrap len=len)
  (vt:R L Cs zXu [.a [I x0,I y0],.a [I x1,I y1]] []=some (.w (.a [I vx,I vy]),[]))
  (yR:R L Cs zWU [.a [I vx,I vy],.a [I vx,I vy]] []=some (.w (W a),[]))
  (A4:R L Cs zud [W a] []=some (.t [W len,Bo true],[]))
  (vE:R L Cs zWv [.c (.yld 0 zWv nsh),W 0,.a [I x0,I y0,I vx,I vy,I len,I 0]] [ghN 0 0,bx 2 [I px,I py],bx 1 [I 100],bx 1 [.jc]] =
    some (.w (Bo true),[ghN 0 2,bx 2 [I px,I py],bx 1 [I 100],z0s 4,zZH v])) :
  R L Cs zWM [.c (.yld 0 zWv nsh),.c (.ptr 4 0 0 0)] [ghN 0 0,bx 2 [I px,I py],bx 1 [I 100],bx 1 [.jc],bx 1 [crv x0 y0 x1 y1]]=some (.t [],[ghN 0 2,bx 2 [I px,I py],bx 1 [I 100],z0s 5,bx 1 [crv x0 y0 x1 y1],zZH v]):=by
 have e:IntKind.i64.wrap 1=1:=rfl;rw[zUa zXP rfl];simp[zo2,zg,zH,e];rw[zj zmW.eq_1];simp[zg,zH,vt,yR,A4,vE,e,hw];rw[zj zmW.eq_1];simp[zg,zH,List.range,List.range.loop]
theorem zZG{x0 y0 x1 y1 vx vy len px py a:Int}(hw:IntKind.i64.wrap len=len)
  (vt:R L Cs zXu [.a [I x0,I y0],.a [I x1,I y1]] []=some (.w (.a [I vx,I vy]),[]))
  (yR:R L Cs zWU [.a [I vx,I vy],.a [I vx,I vy]] []=some (.w (W a),[]))
  (A4:R L Cs zud [W a] []=some (.t [W len,Bo true],[]))
  (vE:R L Cs zWv [.c (.yld 0 zWv nsh),W 0,.a [I x0,I y0,I vx,I vy,I len,I 0]] [ghN 0 0,bx 2 [I px,I py],bx 1 [I 100],bx 1 [.jc]] =
    some (.w (Bo true),[ghN 0 2,bx 2 [I px,I py],bx 1 [I 100],bx 1 [.jc]])) :
  R L Cs zWM [.c (.yld 0 zWv nsh),.c (.ptr 4 0 0 0)] [ghN 0 0,bx 2 [I px,I py],bx 1 [I 100],bx 1 [.jc],bx 1 [crv x0 y0 x1 y1]]=some (.t [],[ghN 0 2,bx 2 [I px,I py],bx 1 [I 100],bx 1 [.jc],bx 1 [crv x0 y0 x1 y1]]):=by
 have e:IntKind.i64.wrap 1=1:=rfl;rw[zUa zXP rfl];simp[zo2,zg,zH,e];rw[zj zmW.eq_1];simp[zg,zH,vt,yR,A4,vE,e,hw];rw[zj zmW.eq_1];simp[zg,zH,List.range,List.range.loop]
theorem z0Z(c:Cl)(hc:∃rows,c=.jd rows):R L Cs zYX [.a [c]] []=some (.w (.c (.fn zWM [] [.ptr 0 0 0 0])),[bx 1 [c]]):=by
 obtain⟨rows,rfl⟩:=hc;rw[zUa zY1 rfl];simp[zrE,zg]
theorem z1h{x0 y0 x1 y1 px py:Int}{out:List Int}{M1:Mem}
  (hk:R L Cs zsk [.a [crv x0 y0 x1 y1]] []=some (.w (W 0),[]))
  (hf:zXn px py=true)
  (hp:(out=[]/\R L Cs zWM [.c (.yld 0 zWv nsh),.c (.ptr 4 0 0 0)] [ghN 0 0,bx 2 [I px,I py],bx 1 [I 100],bx 1 [.jc],bx 1 [crv x0 y0 x1 y1]]=some (.t [],[ghN 0 2,bx 2 [I px,I py],bx 1 [I 100],bx 1 [.jc],bx 1 [crv x0 y0 x1 y1]])) \/
   ∃v,out=[v]/\R L Cs zWM [.c (.yld 0 zWv nsh),.c (.ptr 4 0 0 0)] [ghN 0 0,bx 2 [I px,I py],bx 1 [I 100],bx 1 [.jc],bx 1 [crv x0 y0 x1 y1]]=some (.t [],[ghN 0 2,bx 2 [I px,I py],bx 1 [I 100],z0s 5,bx 1 [crv x0 y0 x1 y1],zZH v])) :
  R L Cs zXv [.a [crv x0 y0 x1 y1],.a [I px,I py],W 100] []=some (.w (.c (.jd (zu out))),[]):=by
 have hF:=z02 px py;rw[hf]at hF;have hq:=z0Z (crv x0 y0 x1 y1) ⟨_,rfl⟩;have hne:¬(zWv=zWM):=by decide
 rw[zUa zYA rfl];rcases hp with⟨rfl,hp⟩ |⟨v,rfl,hp⟩
 ·simp[zXh,zg,zH,hk,hF,hq,zNb,zeN,ghost,hp,zX,zb4,znr,zsR,hne]
 ·simp[zXh,zg,zH,hk,hF,hq,zNb,zeN,ghost,hp,zX,zb4,znr,zsR,hne]
theorem z0O{x0 y0 x1 y1 px py:Int}(hk:R L Cs zsk [.a [crv x0 y0 x1 y1]] []=some (.w (W 0),[]))
  (hf:zXn px py=false):R L Cs zXv [.a [crv x0 y0 x1 y1],.a [I px,I py],W 100] []=some (.w (.c (.jd [])),[]):=by
 have hF:=z02 px py;rw[hf]at hF;rw[zUa zYA rfl];simp[zXh,zg,zH,hk,hF,zX]
structure Pc(x0 y0 x1 y1 len:Int):Prop where
 b:(-400000<=x0/\x0<=400000)/\(-400000<=y0/\y0<=400000)/\(-400000<=x1/\x1<=400000)/\(-400000<=y1/\y1<=400000)
 l:1000<=len/\len<=1000000
 chk:R L Cs zsk [.a [crv x0 y0 x1 y1]] []=some (.w (W 0),[])
 Ao:R L Cs zkH [.a [crv x0 y0 x1 y1]] []=some (.w (W 0),[])
 root:R L Cs zud [W ((x1-x0)*(x1-x0)+(y1-y0)*(y1-y0))] []=some (.t [W len,Bo true],[])
 rroot:R L Cs zlq [W ((x1-x0)*(x1-x0)+(y1-y0)*(y1-y0))] []=some (.w (W len),[])
def zX9(x0 y0 x1 y1 px py:Int):Int:=(x1-x0)*(py-y0)-(y1-y0)*(px-x0)
def zYq(x0 y0 x1 y1 px py:Int):Int:=(x1-x0)*(px-x0)+(y1-y0)*(py-y0)
def zZc(x0 y0 x1 y1 len px py:Int):List Int :=
 if zXn px py then(if zXi len (zX9 x0 y0 x1 y1 px py) (zYq x0 y0 x1 y1 px py) then [] else [zYh (zXz (zYq x0 y0 x1 y1 px py) len) len]) else []
theorem zZn{x y:Int}(h:zXn x y=true):(-16777216<=x/\x<=16777216)/\(-16777216<=y/\y<=16777216):=by
 simp[zXn]at h;omega
theorem zZi{q len:Int}(h:0<=len):0<=zYh q len/\zYh q len<=len:=by
 unfold zYh;split<;>split<;>omega
theorem Pc.vw{x0 y0 x1 y1 len px py:Int}(h:Pc x0 y0 x1 y1 len)(hf:zXn px py=true):Vw (x1-x0) (y1-y0) (px-x0) (py-y0):=by
 have:=h.b;have:=zZn hf;exact⟨by omega,by omega,by omega,by omega⟩
theorem Pc.nums{x0 y0 x1 y1 len px py:Int}(h:Pc x0 y0 x1 y1 len)(hf:zXn px py=true) :
  (-40000000000000<=zX9 x0 y0 x1 y1 px py/\zX9 x0 y0 x1 y1 px py<=40000000000000)/\(-40000000000000<=zYq x0 y0 x1 y1 px py/\zYq x0 y0 x1 y1 px py<=40000000000000):=by
 have:=(h.vw hf).m;unfold zX9 zYq;omega
theorem Pc.rnd{x0 y0 x1 y1 len px py:Int}(h:Pc x0 y0 x1 y1 len)(hf:zXn px py=true) :
  Rnd x0 y0 (x1-x0) (y1-y0) len px py (px-x0) (py-y0) (zX9 x0 y0 x1 y1 px py) (zYq x0 y0 x1 y1 px py) (zXz (zYq x0 y0 x1 y1 px py) len):=by
 have hb:=h.b;have hl:=h.l;have hp:=zZn hf;have hn:=h.nums hf;have hm:=ztS (a:=len+100) (b:=len) (A:=2000000) (B:=1000000) (by omega) (by omega) (by omega) (by omega);exact⟨wr (by omega) (by omega),wr (by omega) (by omega),wr (by omega) (by omega),wr (by omega) (by omega),z01 _ _ _ _ (by omega),z1s (h.vw hf),z03 (h.vw hf),z1N (by omega) (by omega),z1q (by omega) (by omega) (by omega)⟩
theorem z1G{x0 y0 x1 y1 len:Int}(h:Pc x0 y0 x1 y1 len)(px py:Int):R L Cs zXv [.a [crv x0 y0 x1 y1],.a [I px,I py],W 100] []=some (.w (.c (.jd (zu (zZc x0 y0 x1 y1 len px py)))),[]):=by
 unfold zZc;by_cases hf:zXn px py=true
 ·rw[if_pos hf];have hb:=h.b;have hl:=h.l;have hv:Vw (x1-x0) (y1-y0) (x1-x0) (y1-y0):=⟨by omega,by omega,by omega,by omega⟩;have vt:=z01 x0 y0 x1 y1 (by omega);have hval:=zZi (q:=zXz (zYq x0 y0 x1 y1 px py) len) (len:=len) (by omega);refine z1h (M1:=[]) h.chk hf ?_;by_cases hm:zXi len (zX9 x0 y0 x1 y1 px py) (zYq x0 y0 x1 y1 px py)=true
  ·rw[if_pos hm];exact .inl ⟨rfl,zZG (wr (by omega) (by omega)) vt (z03 hv) h.root (zZ0 (h.rnd hf) hm)⟩
  ·rw[if_neg hm];exact .inr ⟨_,rfl,zZ1 (wr (by omega) (by omega)) vt (z03 hv) h.root (z0q (h.rnd hf) (by simpa using hm) (wr (by omega) (by omega)))⟩
 ·rw[if_neg hf];exact z0O h.chk (by simpa using hf)
theorem z0y{x0 y0 x1 y1 len:Int}(h:Pc x0 y0 x1 y1 len):R L Cs zXM [.a [crv x0 y0 x1 y1]] []=some (.w (.c (.jd [[I len]])),[]):=by
 have e:IntKind.i64.wrap 1=1:=rfl;have e2:IntKind.i64.wrap 2=2:=rfl;have hb:=h.b;have hv:Vw (x1-x0) (y1-y0) (x1-x0) (y1-y0):=⟨by omega,by omega,by omega,by omega⟩;have h1:=zZw x0 y0 x1 y1 (by omega);have h2:=z1z hv;have h3:=h.rroot;have h4:=h.Ao;rw[zUa zXO rfl];simp[zjZ,zg,zH,h4];rw[zj ziz.eq_1];simp[zg,zH,e,h1,h2,h3];rw[zj ziz.eq_1];simp[zg,zH,e,e2,zX]
theorem z0r{x0 y0 x1 y1 len px py st:Int}{o:Cl}{M:Mem}:Y L Cs z1O (some [7,9,10,3,4,2,8]) 4 [(7,.w (.c o)),(9,.w (W st)),(10,.w (W 1)),(3,.w (Pt 0)),(4,.w (Pt 1)),(2,.w (W 100)),(8,.w (.c (.jd [[I len]])))] M =
  some (.exit 0,[(31,.w (Bo false)),(7,.w (.c o)),(9,.w (W st)),(10,.w (W 1)),(3,.w (Pt 0)),(4,.w (Pt 1)),(2,.w (W 100)),(8,.w (.c (.jd [[I len]])))],M):=by
 rw[zj z1O.eq_1];simp
theorem z1p{x0 y0 x1 y1 len:Int}(h:Pc x0 y0 x1 y1 len)(px py:Int):R L Cs z1T [.a [crv x0 y0 x1 y1],.a [I px,I py],W 100] []=some (.w (.c (.jd (zu (zZc x0 y0 x1 y1 len px py)))),[]):=by
 have hV:=z1t px py;unfold zZc;rw[zUa z17 rfl];by_cases hf:zXn px py=true
 ·rw[if_pos hf];rw[hf]at hV;have hb:=h.b;have hl:=h.l;have hp:=zZn hf;have hn:=h.nums hf;have hvw:=h.vw hf;have hP:=z0y h;have h1:=zZw x0 y0 x1 y1 (by omega);have h2:=zZw x0 y0 px py (by omega);have h3:=z1z hvw;have h4:=z1y hvw;have hm:=ztS (a:=len+100) (b:=len) (A:=2000000) (B:=1000000) (by omega) (by omega) (by omega) (by omega);have h5:=z0Y (a:=zYq x0 y0 x1 y1 px py) (b:=len) (by omega) (by omega) (by omega);have e1:IntKind.i64.wrap (100*len)=100*len:=wr (by omega) (by omega);have e2:IntKind.i64.wrap (-100*len)=-100*len:=wr (by omega) (by omega);have e3:IntKind.i64.wrap (len+100)=len+100:=wr (by omega) (by omega);have e4:IntKind.i64.wrap ((len+100)*len)=(len+100)*len:=wr (by omega) (by omega);have e5:IntKind.i64.wrap (-100)=-100:=rfl;have e6:IntKind.i64.wrap len=len:=wr (by omega) (by omega);have e7:IntKind.i64.wrap 1=1:=rfl;have hval:=zZi (q:=zXz (zYq x0 y0 x1 y1 px py) len) (len:=len) (by omega);have e8:IntKind.i64.wrap (zYh (zXz (zYq x0 y0 x1 y1 px py) len) len)=zYh (zXz (zYq x0 y0 x1 y1 px py) len) len:=wr (by omega) (by omega);simp[z1P,zg,zH,hV,hP];rw[zj z1O.eq_1];change R L Cs zXo _ _=some (.w (W (zYq x0 y0 x1 y1 px py)),[])at h3;change R L Cs z1S _ _=some (.w (W (zX9 x0 y0 x1 y1 px py)),[])at h4;generalize zX9 x0 y0 x1 y1 px py=c at *;generalize zYq x0 y0 x1 y1 px py=d at *;generalize zXz d len=q at *;have Ax:=fun(st:Int) (o:Cl) (M:Mem)=>@z0r x0 y0 x1 y1 len px py st o M
  have AA:(zZ7 c>100*len)<->¬(c<=100*len/\-100*len<=c):=by unfold zZ7;split<;>omega
  by_cases c1:c<=100*len
  ·by_cases c2:-100*len<=c
   ·by_cases c3:-100*len<=d
    ·by_cases c4:d<=(len+100)*len
     ·have hmi:zXi len c d=false:=by simp[zXi];omega
      rw[if_neg (by simp[hmi])];unfold zYh at e8;simp[zg,zH,h1,h2,h3,h4,e1,e2,e3,e4,e5,e6,e7,c1,c2,c3,c4,h5,zoU,zyw,e8,Ax,zX]
     ·have hmi:zXi len c d=true:=by simp[zXi];omega
      rw[if_pos hmi];simp[zg,zH,h1,h2,h3,h4,e1,e2,e3,e4,e5,e6,e7,c1,c2,c3,c4,h5,zoU,zyw,Ax,zX]
    ·have hmi:zXi len c d=true:=by simp[zXi];omega
     rw[if_pos hmi];simp[zg,zH,h1,h2,h3,h4,e1,e2,e5,e6,e7,c1,c2,c3,Ax,zX]
   ·have hmi:zXi len c d=true:=by simp[zXi];omega
    rw[if_pos hmi];simp[zg,zH,h1,h2,h3,h4,e1,e2,e5,e6,e7,c1,c2,Ax,zX]
  ·have hmi:zXi len c d=true:=by simp[zXi];omega
   rw[if_pos hmi];simp[zg,zH,h1,h2,h3,h4,e1,e2,e5,e6,e7,c1,Ax,zX]
 ·rw[if_neg hf];have hf':zXn px py=false:=by simpa using hf
  rw[hf']at hV;simp[z1P,zg,zH,hV,zX]
theorem pc0:Pc 0 0 60000 0 60000:=⟨by decide,by decide,zah.2 ⟨400,by kernel_rfl⟩,zah.2 ⟨400,by kernel_rfl⟩,zah.2 ⟨400,by kernel_rfl⟩,zah.2 ⟨400,by kernel_rfl⟩⟩
theorem pc1:Pc 0 0 50000 0 50000:=⟨by decide,by decide,zah.2 ⟨400,by kernel_rfl⟩,zah.2 ⟨400,by kernel_rfl⟩,zah.2 ⟨400,by kernel_rfl⟩,zah.2 ⟨400,by kernel_rfl⟩⟩
theorem pc2:Pc 30000 (-20000) 30000 20000 40000:=⟨by decide,by decide,zah.2 ⟨400,by kernel_rfl⟩,zah.2 ⟨400,by kernel_rfl⟩,zah.2 ⟨400,by kernel_rfl⟩,zah.2 ⟨400,by kernel_rfl⟩⟩
theorem pc3:Pc 0 0 30000 0 30000:=⟨by decide,by decide,zah.2 ⟨400,by kernel_rfl⟩,zah.2 ⟨400,by kernel_rfl⟩,zah.2 ⟨400,by kernel_rfl⟩,zah.2 ⟨400,by kernel_rfl⟩⟩
theorem pc4:Pc 30000 0 60000 0 30000:=⟨by decide,by decide,zah.2 ⟨400,by kernel_rfl⟩,zah.2 ⟨400,by kernel_rfl⟩,zah.2 ⟨400,by kernel_rfl⟩,zah.2 ⟨400,by kernel_rfl⟩⟩
theorem pc5:Pc 30000 0 54000 10000 26000:=⟨by decide,by decide,zah.2 ⟨400,by kernel_rfl⟩,zah.2 ⟨400,by kernel_rfl⟩,zah.2 ⟨400,by kernel_rfl⟩,zah.2 ⟨400,by kernel_rfl⟩⟩
theorem pc6:Pc 6000 (-10000) 30000 0 26000:=⟨by decide,by decide,zah.2 ⟨400,by kernel_rfl⟩,zah.2 ⟨400,by kernel_rfl⟩,zah.2 ⟨400,by kernel_rfl⟩,zah.2 ⟨400,by kernel_rfl⟩⟩
theorem pc7:Pc 0 0 20000 0 20000:=⟨by decide,by decide,zah.2 ⟨400,by kernel_rfl⟩,zah.2 ⟨400,by kernel_rfl⟩,zah.2 ⟨400,by kernel_rfl⟩,zah.2 ⟨400,by kernel_rfl⟩⟩
theorem pc8:Pc 20000 0 50000 0 30000:=⟨by decide,by decide,zah.2 ⟨400,by kernel_rfl⟩,zah.2 ⟨400,by kernel_rfl⟩,zah.2 ⟨400,by kernel_rfl⟩,zah.2 ⟨400,by kernel_rfl⟩⟩
theorem pc9:Pc 35000 (-8000) 35000 8000 16000:=⟨by decide,by decide,zah.2 ⟨400,by kernel_rfl⟩,zah.2 ⟨400,by kernel_rfl⟩,zah.2 ⟨400,by kernel_rfl⟩,zah.2 ⟨400,by kernel_rfl⟩⟩
theorem pc10:Pc 20000 0 44000 10000 26000:=⟨by decide,by decide,zah.2 ⟨400,by kernel_rfl⟩,zah.2 ⟨400,by kernel_rfl⟩,zah.2 ⟨400,by kernel_rfl⟩,zah.2 ⟨400,by kernel_rfl⟩⟩
theorem pc11:Pc 36000 (-12000) 36000 18000 30000:=⟨by decide,by decide,zah.2 ⟨400,by kernel_rfl⟩,zah.2 ⟨400,by kernel_rfl⟩,zah.2 ⟨400,by kernel_rfl⟩,zah.2 ⟨400,by kernel_rfl⟩⟩
structure zmp(m:zD):Prop where
 one:∀l∈m.je,∃x0 y0 x1 y1,l.pts=[(x0,y0),(x1,y1)]/\Pc x0 y0 x1 y1 l.len
 few:m.je.length<=4/\0<m.je.length
theorem zAd(lim r o1 o2 o3 v w b t:Int):zmp (zq 0 lim r o1 o2 o3 v w b t):=by
 refine⟨fun l hl=>?_,by constructor<;>simp[zq,zy]⟩;simp only[zq,zy,jr,kU,or_false]at hl;subst hl
 ·exact⟨_,_,_,_,rfl,pc0⟩
theorem zAc(lim r o1 o2 o3 v w b t:Int):zmp (zq 1 lim r o1 o2 o3 v w b t):=by
 refine⟨fun l hl=>?_,by constructor<;>simp[zq,zy]⟩;simp only[zq,zy,jr,kU,or_false]at hl;rcases hl with rfl|rfl
 ·exact⟨_,_,_,_,rfl,pc1⟩
 ·exact⟨_,_,_,_,rfl,pc2⟩
theorem zAb(lim r o1 o2 o3 v w b t:Int):zmp (zq 2 lim r o1 o2 o3 v w b t):=by
 refine⟨fun l hl=>?_,by constructor<;>simp[zq,zy]⟩;simp only[zq,zy,jr,kU,or_false]at hl;rcases hl with rfl|rfl
 ·exact⟨_,_,_,_,rfl,pc1⟩
 ·exact⟨_,_,_,_,rfl,pc2⟩
theorem zAa(lim r o1 o2 o3 v w b t:Int):zmp (zq 3 lim r o1 o2 o3 v w b t):=by
 refine⟨fun l hl=>?_,by constructor<;>simp[zq,zy]⟩;simp only[zq,zy,jr,kU,or_false]at hl;rcases hl with rfl|rfl|rfl
 ·exact⟨_,_,_,_,rfl,pc3⟩
 ·exact⟨_,_,_,_,rfl,pc4⟩
 ·exact⟨_,_,_,_,rfl,pc5⟩
theorem zz9(lim r o1 o2 o3 v w b t:Int):zmp (zq 4 lim r o1 o2 o3 v w b t):=by
 refine⟨fun l hl=>?_,by constructor<;>simp[zq,zy]⟩;simp only[zq,zy,jr,kU,or_false]at hl;rcases hl with rfl|rfl|rfl
 ·exact⟨_,_,_,_,rfl,pc3⟩
 ·exact⟨_,_,_,_,rfl,pc6⟩
 ·exact⟨_,_,_,_,rfl,pc4⟩
theorem zz8(lim r o1 o2 o3 v w b t:Int):zmp (zq 5 lim r o1 o2 o3 v w b t):=by
 refine⟨fun l hl=>?_,by constructor<;>simp[zq,zy]⟩;simp only[zq,zy,jr,kU,or_false]at hl;rcases hl with rfl|rfl|rfl
 ·exact⟨_,_,_,_,rfl,pc7⟩
 ·exact⟨_,_,_,_,rfl,pc8⟩
 ·exact⟨_,_,_,_,rfl,pc9⟩
theorem zz7(lim r o1 o2 o3 v w b t:Int):zmp (zq 6 lim r o1 o2 o3 v w b t):=by
 refine⟨fun l hl=>?_,by constructor<;>simp[zq,zy]⟩;simp only[zq,zy,jr,kU,or_false]at hl;rcases hl with rfl|rfl|rfl|rfl
 ·exact⟨_,_,_,_,rfl,pc7⟩
 ·exact⟨_,_,_,_,rfl,pc8⟩
 ·exact⟨_,_,_,_,rfl,pc10⟩
 ·exact⟨_,_,_,_,rfl,pc11⟩
theorem zCX(b:zk)(i v:Nat)(M:Mem)(h:M[i]?=some (bxv v 6 (ze b))):R L Cs znx [Pt i] M=some (.t [W b.lane,.c (.ptr i 0 0 1),.c (.ptr i 0 0 2)],M):=by
 rw[zUa znG rfl];simp only[ze]at h;simp[zf9,h,ze,p1F]
def zoX(x fr to:Int)(b:zk):List zk :=
 if b.lane≠x\/fr>to\/fr>b.hi\/to<b.lo then [b] else
 (if b.lo<fr then [{ b with hi:=fr-1 }] else [])++(if to<b.hi then [{ b with lo:=to+1 }] else [])
def zhn(x fr to:Int):List zk->List zk
 |[]=>[]
 |b::r=>zoX x fr to b++zhn x fr to r
theorem zrn(x fr to:Int)(b:zk):(zoX x fr to b).length<=2:=by
 unfold zoX;split
 ·simp
 ·split<;>split<;>simp
def Mid(n:Int):Prop:=-4000000000000000000<=n/\n<=4000000000000000000
theorem zAu(x fr to:Int)(hfr:Mid fr)(hto:Mid to)(l:List zk)(hl:l.length<=100000000000):∀(r:List zk) (i:Nat) (out:List zk),l.drop i=r->i<=l.length->out.length<=2*i ->
  Y L Cs zdV (some [5,21,20,19,3]) 3 [(5,.w (.c (sl 2 6 (zI out)))),(21,.w (W i)),(20,.w (W l.length)),(19,.w (.c (.jd (zI l)))),(3,.w (Pt 0))] [bx 3 [I x,I fr,I to],gb 6,some (own 6 (zI out))] =
    some (.exit 0,[(22,.w (Bo false)),(5,.w (.c (sl 2 6 (zI (out++zhn x fr to r))))),(21,.w (W l.length)),(20,.w (W l.length)),(19,.w (.c (.jd (zI l)))),(3,.w (Pt 0))],[bx 3 [I x,I fr,I to],gb 6,some (own 6 (zI (out++zhn x fr to r)))]):=by
 intro r;induction r with
 |nil =>
  intro i out hd hi ho;obtain rfl:=zUb hd hi;rw[zj zdV.eq_1];simp[zhn]
 |cons b r ih =>
  intro i out hd hi ho;obtain⟨hil,hb,hd'⟩:=zL hd;have hw:=zB (i:=i) (by omega);have hcl:(out++zoX x fr to b).length<=2*(i+1):=by
   have:=zrn x fr to b;rw[jU];omega
  obtain⟨f1,f2⟩:=hfr;obtain⟨t1,t2⟩:=hto;have hw1:=kH (fr-1);have hw2:=kH (to+1);have jO:(out.length+1)*48<=140737488355328:=by omega
  have Au:(out.length+2)*48<=140737488355328:=by clear hcl hd hb hd' ih;omega
  have he:=zCX b 0 1 [bxv 1 6 (ze b)] rfl;have e1:out++zhn x fr to (b::r)=(out++zoX x fr to b)++zhn x fr to r:=by simp[zhn]
  rw[e1,<-ih (i+1) (out++zoX x fr to b) hd' hil hcl,zj zdV.eq_1];clear ih e1 hcl;clear f1 f2 t1 t2;obtain⟨bl,lo,hi',vlo,vhi,hold⟩:=b;simp only[ze,zoX]at *;by_cases c1:bl=x
  ·subst c1;by_cases c2:to<fr
   ·simp[hil,hb,ze,hw,jO,zg,zH,he,c2]
   ·by_cases c3:hi'<fr
    ·simp[hil,hb,ze,hw,jO,zg,zH,he,c2,c3]
    ·by_cases c4:to<lo
     ·simp[hil,hb,ze,hw,jO,zg,zH,he,c2,c3,c4]
     ·by_cases c5:lo<fr
      ·by_cases c6:to<hi'
       ·have htk:∀y:List Cl,List.take (out.length+1) (zI out++[y])=zI out++[y]:=fun y=>jF (by simp)
        simp[hil,hb,ze,hw,hw1,hw2,jO,Au,zg,zH,he,c2,c3,c4,c5,c6,htk]
       ·simp[hil,hb,ze,hw,hw1,hw2,jO,zg,zH,he,c2,c3,c4,c5,c6]
      ·by_cases c6:to<hi'
       ·simp[hil,hb,ze,hw,hw1,hw2,jO,zg,zH,he,c2,c3,c4,c5,c6]
       ·simp[hil,hb,ze,hw,hw1,hw2,jO,zg,zH,he,c2,c3,c4,c5,c6]
  ·have b1:(bl==x)=false:=by simp[c1]
   have b2:(bl !=x)=true:=by simp[c1]
   simp[hil,hb,ze,hw,jO,zg,zH,he,c1,b1,b2]
theorem zDp(x fr to:Int)(hfr:Mid fr)(hto:Mid to)(l:List zk)(hl:l.length<=100000000000):R L Cs zoa [.c (.jd (zI l)),.a [I x,I fr,I to]] []=some (.w (.c (.jd (zI (zhn x fr to l)))),[]):=by
 have hc:=zAu x fr to hfr hto l hl l 0 [] rfl (jz _) (jz _);simp only[jt,jK,zic,sl,own,jA,zgg]at hc;rw[zUa zov rfl];simp[zgM,hc,zg]
def zj2(m:zD)(r:List Int):Prop:=∀x∈r,0<=x/\x<m.je.length
def zW(m:zD):Int->List Int->List Int
 |_,[]=>[]
 |a,x::r=>a::zW m (a+z8 m x) r
def zmd(m:zD):Int->List Int->Int
 |a,[]=>a
 |a,x::r=>zmd m (a+z8 m x) r
theorem zcX{m:zD}(h:zcp m){x:Int}(hx:0<=x/\x<m.je.length):1000<=z8 m x/\z8 m x<=1000000:=by
 obtain⟨n,rfl⟩:=jB hx.1;have hn:n<m.je.length:=by omega
 have:=h.AM _ (jh hn);simpa [z8,hn]using this
theorem zxg{m:zD}(h:zcp m){x:Int}(hx:0<=x/\x<m.je.length):R L Cs zgl [.a (zf m),W x] []=some (.w (W (z8 m x)),[]):=by
 obtain⟨n,rfl⟩:=jB hx.1;have hn:n<m.je.length:=by omega
 have e:z8 m n=m.je[n].len:=by simp[z8,hn]
 rw[e];exact ztk h hn
theorem zg1{m:zD}(h:zcp m){l:List Int}(hr:zdA m l=0):zj2 m l/\l≠[]/\l.length<=8:=by
 cases l with
 |nil=>simp[zdA]at hr
 |cons x t =>
  simp only[zdA]at hr;split at hr
  ·cases hr
  split at hr
  ·cases hr
  split at hr
  ·cases hr
  split at hr
  ·cases hr
  split at hr
  ·rename_i h1 h2 h3 h4 h5;refine⟨?_,by simp,by simp;omega⟩;have key:∀(t:List Int) (a:Int),0<=a->a<m.je.length->goF m a t=true->zj2 m t:=by
    intro t;induction t with
    |nil=>intro a _ _ _ y hy;cases hy
    |cons y t ih =>
     intro a ha1 ha2 hg;simp only[goF,jf,decide_eq_true_eq]at hg;have hal:a.toNat<m.je.length:=by omega
     have qI:((m.je[a.toNat]?).map zfn.next).getD []=(m.je[a.toNat]).next:=by rw[ji hal];rfl
     rw[qI]at hg;have hv:=h.small.valid _ (jh hal) y hg.1;intro z hz;rcases jr.1 hz with rfl|hz
     ·exact hv
     ·exact ih y hv.1 hv.2 hg.2 z hz
   intro z hz;rcases jr.1 hz with rfl|hz
   ·exact⟨by omega,by omega⟩
   ·exact key t x (by omega) (by omega) h5 z hz
  ·cases hr
theorem zvF{m:zD}(h:zcp m)(l:List Int)(hl:l.length<=1000)(hon:zj2 m l):∀(r:List Int) (i:Nat) (out:List Int) (a:Int),l.drop i=r->i<=l.length->out.length=i->0<=a->a<=i*1000000 ->
  Y L Cs zcn (some [6,7,8,1,2]) 3 [(6,.w (.c (sl 2 1 (zu out)))),(7,.w (W a)),(8,.w (W i)),(1,.w (.c (.jd (zu l)))),(2,.w (Pt 0))] [bx 5 (zf m),gb 1,some (own 1 (zu out))] =
    some (.exit 0,[(12,.w (Bo false)),(6,.w (.c (sl 2 1 (zu (out++zW m a r))))),(7,.w (W (zmd m a r))),(8,.w (W l.length)),(1,.w (.c (.jd (zu l)))),(2,.w (Pt 0))],[bx 5 (zf m),gb 1,some (own 1 (zu (out++zW m a r)))]):=by
 intro r;induction r with
 |nil =>
  intro i out a hd hi ho ha1 ha2;obtain rfl:=zUb hd hi;rw[zj zcn.eq_1];simp[zW,zmd]
 |cons x r ih =>
  intro i out a hd hi ho ha1 ha2;subst ho;obtain⟨hil,hx,hd'⟩:=zL hd;have hxm:=hon x (by rw[<-hx];exact jh _);have hw:=zB (i:=out.length) (by omega);have hL:=zxg h hxm;have hle:=zcX h hxm;have jO:(out.length+1)*8<=140737488355328:=by omega
  have hwa:=kH (a+z8 m x);have e1:out++zW m a (x::r)=(out++[a])++zW m (a+z8 m x) r:=by simp[zW]
  rw[e1,zmd,<-ih (out.length+1) (out++[a]) (a+z8 m x) hd' hil (by simp) (by omega) (by omega),zj zcn.eq_1];simp only[zf]at hL;simp[hil,hx,hL,zf,hw,jO,hwa,zg,zH]
theorem zvX{m:zD}(h:zcp m){l:List Int}(hl:l.length<=1000)(hon:zj2 m l):R L Cs zjQ [.a (zf m),.c (.jd (zu l))] []=some (.t [.c (.jd (zu (zW m 0 l))),W (zmd m 0 l)],[]):=by
 have hb:=zvF h l hl hon l 0 [] 0 rfl (jz _) rfl (by omega) (by omega);simp only[zf,jt,jK,zay,sl,own,jA,zfq]at hb;rw[zUa zkc rfl];simp[zep,zf,hb,zg]
theorem zEp{m:zD}(h:zcp m){l:List Int}(hr:zdA m l=0):R L Cs zDU [.a (zf m),.c (.jd (zu l))] []=some (.w (W (zmd m 0 l)),[]):=by
 obtain⟨hon,hne,hlen⟩:=zg1 h hr;have hb:=zvX h (by omega) hon;have hck:=zp0 m h.small h.Ao l (by omega);rw[hr]at hck;simp only[zf]at hb hck;rw[zUa zDV rfl];simp[zDG,zf,hb,hck]
def zbK(m:zD):Nat->List zfn->List Int
 |_,[]=>[]
 |i,_::r=>if zes i 0 m.je=[] then(i:Int)::zbK m (i+1) r else zbK m (i+1) r
theorem zp8(m:zD):∀(r:List zfn) (i:Nat),i+r.length<=m.je.length->zj2 m (zbK m i r)
 |[],_,_=>by intro x hx;cases hx
 |l::r,i,h=>by
  intro x hx;simp at h;unfold zbK at hx;split at hx
  ·rcases jr.1 hx with rfl|hx
   ·omega
   ·exact zp8 m r (i+1) (by omega) x hx
  ·exact zp8 m r (i+1) (by omega) x hx
theorem zlK(m:zD):∀(r:List zfn) (i:Nat),(zbK m i r).length<=r.length
 |[],_=>by simp[zbK]
 |l::r,i=>by
  have:=zlK m r (i+1);unfold zbK;split<;>simp<;>omega
def zaK(m:zD)(i:Int):Int:=((m.je[i.toNat]?).map zfn.kind).getD 0
abbrev zqY:zk:=⟨-1,0,0,0,0,0⟩
def um(m:zD)(b:zk):Prop:=b.lo<0\/b.hi<b.lo\/z8 m b.lane<b.hi\/b.vlo<0\/b.vhi<b.vlo\/zeR (zaK m b.lane)<b.vhi\/b.hold<0\/z8 m b.lane<b.hold
instance(m:zD)(b:zk):Decidable (um m b):=by unfold um;infer_instance
def zmM(p b:zk):Prop:=b.lane<p.lane\/(b.lane=p.lane/\b.lo<=p.hi+1)
instance(p b:zk):Decidable (zmM p b):=by unfold zmM;infer_instance
def zer(m:zD)(p b:zk):Int:=if b.lane<0\/(m.je.length:Int)<=b.lane then 7 else if um m b then 2 else if zmM p b then 11 else 0
def zls(m:zD):zk->List zk->Int
 |_,[]=>0
 |p,b::r=>if zer m p b≠0 then zer m p b else zls m b r
theorem ziC(n lo hi:Int):R L Cs zrd [W n,W lo,W hi] []=some (.w (Bo (decide (lo<=n)&&decide (n<=hi))),[]):=by
 rw[zUa zrT rfl];by_cases h:lo<=n
 ·simp[zgJ,h]
 ·simp[zgJ,h]
section
variable{m:zD}(h:zcp m)(k:zci)
abbrev ckM(m:zD)(k:zci)(v:Nat)(p:zk):Mem:=[bx 5 (zf m),bx 6 (zG k),bxv 1 4 (zch k.ego),bxv v 6 (ze p)]
abbrev ckE(k:zci)(i:Nat):Env:=[(62,.w (W k.jy.length)),(61,.w (.c (.jd (zI k.jy)))),(7,.w (Pt 3)),(2,.w (Pt 0)),(63,.w (W i))]
include h in
theorem zw8(hk:k.jy.length<=100000000000)(i:Nat)(hi:i<k.jy.length)(p:zk)(v:Nat)(hp:-1<=p.lane/\0<=p.hi/\p.hi<=1000000) :
  (zer m p k.jy[i]=0->Y L Cs zTe (some [62,61,7,2,63]) 4 (ckE k i) (ckM m k v p)=Y L Cs zTe (some [62,61,7,2,63]) 4 (ckE k (i+1)) (ckM m k (v+1) k.jy[i])) /\
  (zer m p k.jy[i]≠0->Y L Cs zTe (some [62,61,7,2,63]) 4 (ckE k i) (ckM m k v p)=some (.ret,[(4,.w (W (zer m p k.jy[i])))],ckM m k v p++[bxv 1 6 (ze k.jy[i])])):=by
 have hw:=zB (i:=i) (by omega);generalize hb:k.jy[i]=b;obtain⟨bl,lo,hi',vlo,vhi,hold⟩:=b;have hpw:=kH (p.hi+1);by_cases c1:bl<0
 ·have e:zer m p ⟨bl,lo,hi',vlo,vhi,hold⟩=7:=by simp[zer,c1]
  rw[e];refine⟨fun h=>(by cases h),fun _=>?_⟩;rw[zj zTe.eq_1];simp[hi,hb,ze,c1]
 by_cases c2:(m.je.length:Int)<=bl
 ·have e:zer m p ⟨bl,lo,hi',vlo,vhi,hold⟩=7:=by simp[zer,c2]
  rw[e];refine⟨fun h=>(by cases h),fun _=>?_⟩;rw[zj zTe.eq_1];simp[hi,hb,ze,c1,c2,zf]
 obtain⟨n,rfl⟩:=jB (show 0<=bl by omega);have hn:n<m.je.length:=by omega
 have hL:=zrQ h hn;have hB:=zmo (h.kind _ (jh hn));have eL:z8 m (n:Int)=m.je[n].len:=by simp[z8,hn]
 have eK:zaK m (n:Int)=m.je[n].kind:=by simp[zaK,hn]
 have hl1:=h.AM _ (jh hn);have hW:=ziC hold 0 m.je[n].len;generalize qi:m.je[n]=ln at *;simp only[zf]at hL;have c1':¬((n:Int)<0):=by omega
 have vP:um m ⟨(n:Int),lo,hi',vlo,vhi,hold⟩->zer m p ⟨(n:Int),lo,hi',vlo,vhi,hold⟩=2:=fun ho=>by
  unfold zer;rw[if_neg (by simp;omega),if_pos ho]
 by_cases d1:lo<0
 ·have e:=vP (by simp only[um,eL,eK];omega);rw[e];refine⟨fun h=>(by cases h),fun _=>?_⟩;rw[zj zTe.eq_1];simp[hi,hb,ze,c1',c2,hn,qi,zf,zo,zG,hL,hB,hW,d1]
 by_cases d2:hi'<lo
 ·have e:=vP (by simp only[um,eL,eK];omega);rw[e];refine⟨fun h=>(by cases h),fun _=>?_⟩;rw[zj zTe.eq_1];simp[hi,hb,ze,c1',c2,hn,qi,zf,zo,zG,hL,hB,hW,d1,d2]
 by_cases d3:ln.len<hi'
 ·have e:=vP (by simp only[um,eL,eK];omega);rw[e];refine⟨fun h=>(by cases h),fun _=>?_⟩;rw[zj zTe.eq_1];simp[hi,hb,ze,c1',c2,hn,qi,zf,zo,zG,hL,hB,hW,d1,d2,d3]
 by_cases d4:vlo<0
 ·have e:=vP (by simp only[um,eL,eK];omega);rw[e];refine⟨fun h=>(by cases h),fun _=>?_⟩;rw[zj zTe.eq_1];simp[hi,hb,ze,c1',c2,hn,qi,zf,zo,zG,hL,hB,hW,d1,d2,d3,d4]
 by_cases d5:vhi<vlo
 ·have e:=vP (by simp only[um,eL,eK];omega);rw[e];refine⟨fun h=>(by cases h),fun _=>?_⟩;rw[zj zTe.eq_1];simp[hi,hb,ze,c1',c2,hn,qi,zf,zo,zG,hL,hB,hW,d1,d2,d3,d4,d5]
 by_cases d6:zeR ln.kind<vhi
 ·have e:=vP (by simp only[um,eL,eK];omega);rw[e];refine⟨fun h=>(by cases h),fun _=>?_⟩;rw[zj zTe.eq_1];simp[hi,hb,ze,c1',c2,hn,qi,zf,zo,zG,hL,hB,hW,d1,d2,d3,d4,d5,d6]
 by_cases d7:hold<0
 ·have e:=vP (by simp only[um,eL,eK];omega);rw[e];refine⟨fun h=>(by cases h),fun _=>?_⟩;rw[zj zTe.eq_1];simp[hi,hb,ze,c1',c2,hn,qi,zf,zo,zG,hL,hB,hW,d1,d2,d3,d4,d5,d6,d7]
 by_cases d8:ln.len<hold
 ·have e:=vP (by simp only[um,eL,eK];omega);rw[e];refine⟨fun h=>(by cases h),fun _=>?_⟩;rw[zj zTe.eq_1];simp[hi,hb,ze,c1',c2,hn,qi,zf,zo,zG,hL,hB,hW,d1,d2,d3,d4,d5,d6,d7,d8]
 have e0:¬um m ⟨(n:Int),lo,hi',vlo,vhi,hold⟩:=by simp only[um,eL,eK];omega
 have g1:(0:Int)<=hold:=by omega
 have g2:hold<=ln.len:=by omega
 by_cases o1:(n:Int)<p.lane
 ·have e:zer m p ⟨(n:Int),lo,hi',vlo,vhi,hold⟩=11:=by
   unfold zer;rw[if_neg (by simp;omega),if_neg e0,if_pos (by unfold zmM;simp;omega)]
  rw[e];refine⟨fun h=>(by cases h),fun _=>?_⟩;rw[zj zTe.eq_1];simp[hi,hb,ze,c1',c2,hn,qi,zf,zo,zG,hL,hB,hW,d1,d2,d3,d4,d5,d6,d7,d8,g1,g2,o1]
 by_cases o2:(n:Int)=p.lane
 ·have o2':p.lane=(n:Int):=o2.symm;by_cases o3:lo<=p.hi+1
  ·have e:zer m p ⟨(n:Int),lo,hi',vlo,vhi,hold⟩=11:=by
    unfold zer;rw[if_neg (by simp;omega),if_neg e0,if_pos (by unfold zmM;simp;omega)]
   rw[e];refine⟨fun h=>(by cases h),fun _=>?_⟩;rw[zj zTe.eq_1];simp[hi,hb,ze,c1',c2,hn,qi,zf,zo,zG,hL,hB,hW,d1,d2,d3,d4,d5,d6,d7,d8,g1,g2,o2',o3,hpw]
  ·have e:zer m p ⟨(n:Int),lo,hi',vlo,vhi,hold⟩=0:=by
    unfold zer;rw[if_neg (by simp;omega),if_neg e0,if_neg (by unfold zmM;simp;omega)]
   rw[e];refine⟨fun _=>?_,fun h=>(absurd rfl h)⟩;rw[zj zTe.eq_1];simp[hi,hb,ze,c1',c2,hn,qi,zf,zo,zG,hL,hB,hW,d1,d2,d3,d4,d5,d6,d7,d8,g1,g2,o2',o3,hpw,hw,ckE,ckM]
 ·have e:zer m p ⟨(n:Int),lo,hi',vlo,vhi,hold⟩=0:=by
   unfold zer;rw[if_neg (by simp;omega),if_neg e0,if_neg (by unfold zmM;simp;omega)]
  rw[e];have b2:((n:Int)==p.lane)=false:=by simp[o2]
  refine⟨fun _=>?_,fun h=>(absurd rfl h)⟩;rw[zj zTe.eq_1];simp[hi,hb,ze,c1',c2,hn,qi,zf,zo,zG,hL,hB,hW,d1,d2,d3,d4,d5,d6,d7,d8,g1,g2,o1,o2,b2,hw,ckE,ckM]
end
abbrev zsa:Int:=1099511627776
def ziI(k:zci):Prop:=k.tick<0\/zsa<k.tick\/k.ego.slo<0\/k.ego.shi<k.ego.slo\/zsa<k.ego.shi\/k.ego.vlo<0\/k.ego.vhi<k.ego.vlo\/2000<k.ego.vhi
instance(k:zci):Decidable (ziI k):=by unfold ziI;infer_instance
def zdf(m:zD)(k:zci):Int:=if ziI k then 2 else zls m zqY k.jy
theorem zui{m:zD}(h:zcp m){p b:zk}(hc:zer m p b=0):0<=b.lane/\b.lane<m.je.length/\0<=b.lo/\b.lo<=b.hi/\b.hi<=z8 m b.lane/\0<=b.vlo/\b.vlo<=b.vhi/\b.vhi<=zeR (zaK m b.lane)/\0<=b.hold/\b.hold<=z8 m b.lane/\z8 m b.lane<=1000000/\¬zmM p b:=by
 unfold zer at hc;split at hc
 ·cases hc
 rename_i h1;split at hc
 ·cases hc
 rename_i h2;split at hc
 ·cases hc
 rename_i h3;unfold um at h2;obtain⟨n,hn⟩:=jB (show 0<=b.lane by omega);have hl:n<m.je.length:=by omega
 have hl1:=h.AM _ (jh hl);have e:z8 m b.lane=m.je[n].len:=by rw[hn];simp[z8,hl]
 refine⟨by omega,by omega,by omega,by omega,by omega,by omega,by omega,by omega,by omega,by omega,by omega,h3⟩
theorem zw9{m:zD}(h:zcp m)(k:zci)(hk:k.jy.length<=100000000000):∀(r:List zk) (i:Nat) (p:zk) (v:Nat),k.jy.drop i=r->i<=k.jy.length->(-1<=p.lane/\0<=p.hi/\p.hi<=1000000) ->
  ∃M' E',Y L Cs zTe (some [62,61,7,2,63]) 4 (ckE k i) (ckM m k v p)=some (if zls m p r=0 then(.exit 0,E',M') else(.ret,[(4,.w (W (zls m p r)))],M')):=by
 intro r;induction r with
 |nil =>
  intro i p v hd hi hp;obtain rfl:=zUb hd hi;refine⟨ckM m k v p,[(64,.w (Bo false)),(2,.w (Pt 0)),(7,.w (Pt 3)),(61,.w (.c (.jd (zI k.jy)))),(62,.w (W k.jy.length)),(63,.w (W k.jy.length))],?_⟩;rw[zj zTe.eq_1];simp[zls]
 |cons b r ih =>
  intro i p v hd hi hp;obtain⟨hil,hb,hd'⟩:=zL hd;obtain⟨s1,s2⟩:=zw8 h k hk i hil p v hp;rw[hb]at s1 s2;by_cases hc:zer m p b=0
  ·have ho:=zui h hc;obtain⟨M',E',h4⟩:=ih (i+1) b (v+1) hd' hil (by omega);refine⟨M',E',?_⟩;rw[s1 hc,h4];simp[zls,hc]
  ·refine⟨ckM m k v p++[bxv 1 6 (ze b)],[],?_⟩;rw[s2 hc];simp[zls,hc]
theorem zuu{m:zD}(h:zcp m)(k:zci)(hk:k.jy.length<=100000000000):R L Cs zsg [.a (zf m),.a (zG k)] []=some (.w (W (zdf m k)),[]):=by
 have hck:=h.chk;obtain⟨M',E',hl⟩:=zw9 h k hk k.jy 0 zqY 1 rfl (jz _) (by decide);have hW:=ziC k.tick 0 zsa;simp only[ckE,ckM,zf,zG,ze,jt,bx,bxv,zch]at hl hck;rw[zUa zss rfl];by_cases d1:k.tick<0
 ·have e:zdf m k=2:=by rw[zdf,if_pos (by unfold ziI;omega)]
  have d1':¬(0:Int)<=k.tick:=by omega
  simp[zbJ,zf,zG,hck,hW,e,d1,d1']
 by_cases d2:zsa<k.tick
 ·have e:zdf m k=2:=by rw[zdf,if_pos (by unfold ziI;omega)]
  have d2':¬k.tick<=zsa:=by omega
  simp[zbJ,zf,zG,hck,hW,e,d1,d2,d2']
 have g1:(0:Int)<=k.tick:=by omega
 have g2:k.tick<=zsa:=by omega
 by_cases d3:k.ego.slo<0
 ·have e:zdf m k=2:=by rw[zdf,if_pos (by unfold ziI;omega)]
  simp[zbJ,zf,zG,hck,hW,e,d1,d2,g1,g2,d3]
 by_cases d4:k.ego.shi<k.ego.slo
 ·have e:zdf m k=2:=by rw[zdf,if_pos (by unfold ziI;omega)]
  simp[zbJ,zf,zG,hck,hW,e,d1,d2,g1,g2,d3,d4]
 by_cases d5:zsa<k.ego.shi
 ·have e:zdf m k=2:=by rw[zdf,if_pos (by unfold ziI;omega)]
  simp[zbJ,zf,zG,hck,hW,e,d1,d2,g1,g2,d3,d4,d5]
 by_cases d6:k.ego.vlo<0
 ·have e:zdf m k=2:=by rw[zdf,if_pos (by unfold ziI;omega)]
  simp[zbJ,zf,zG,hck,hW,e,d1,d2,g1,g2,d3,d4,d5,d6]
 by_cases d7:k.ego.vhi<k.ego.vlo
 ·have e:zdf m k=2:=by rw[zdf,if_pos (by unfold ziI;omega)]
  simp[zbJ,zf,zG,hck,hW,e,d1,d2,g1,g2,d3,d4,d5,d6,d7]
 by_cases d8:2000<k.ego.vhi
 ·have e:zdf m k=2:=by rw[zdf,if_pos (by unfold ziI;omega)]
  simp[zbJ,zf,zG,hck,hW,e,d1,d2,g1,g2,d3,d4,d5,d6,d7,d8]
 have e:zdf m k=zls m zqY k.jy:=by rw[zdf,if_neg (by unfold ziI;omega)]
 rw[e];by_cases hz:zls m zqY k.jy=0
 ·rw[if_pos hz]at hl;rw[hz];simp[zbJ,zf,zG,hck,hW,hl,d1,d2,g1,g2,d3,d4,d5,d6,d7,d8,-leave];exact zid rfl rfl
 ·rw[if_neg hz]at hl;simp[zbJ,zf,zG,hck,hW,hl,d1,d2,g1,g2,d3,d4,d5,d6,d7,d8,-leave];exact zid rfl rfl
abbrev fn1(f:Nat):WV:=.c (.fn f [] [])
abbrev bad(b:zk):Bool:=decide (b.hi<b.lo)
abbrev blk(v:Nat)(l:List zk):Option Blk:=some { box:=false,esz:=6,rows:=zI l,gen:=l.length,fz:=false,ver:=v }
theorem zeg(l:List zk)(i:Nat)(b:zk):(zI l).set i (ze b)=zI (l.set i b):=by simp[zI,List.map_set]
theorem zwT(l:List zk)(hl:l.length<=900000000000):Y L Cs zbF (some [7,1,0,8]) 0 [(7,.w (W l.length)),(1,.w (fn1 zct)),(0,.w (.c (.jd (zI l)))),(8,.w (W (0:Nat)))] [] =
  some (match l.findIdx? bad with |some i=>(.ret,[(4,.w (W i))],[]) |none=>(.exit 0,[(9,.w (Bo false)),(0,.w (.c (.jd (zI l)))),(1,.w (fn1 zct)),(7,.w (W l.length)),(8,.w (W l.length))],[])):=by
 refine zxf l (fun i=>[(7,.w (W l.length)),(1,.w (fn1 zct)),(0,.w (.c (.jd (zI l)))),(8,.w (W i))]) _ _ _ _ ?_ ?_ ?_
 ·intro i h hp;have hw:=zB (i:=i) (by omega);have hc:=zrR l[i];simp only[bad]at hp;rw[hp]at hc;simp only[ze]at hc;rw[zj zbF.eq_1];simp[h,hw,hc,ze]
 ·intro i h hp;have hc:=zrR l[i];simp only[bad]at hp;rw[hp]at hc;simp only[ze]at hc;rw[zj zbF.eq_1];simp[h,hc,ze]
 ·rw[zj zbF.eq_1];simp
def zbe:Option Nat->Int
 |some i=>i
 |none=>-1
theorem zvV(l:List zk)(hl:l.length<=900000000000):R L Cs zjK [.c (.jd (zI l)),fn1 zct] []=some (.w (W (zbe (l.findIdx? bad))),[]):=by
 have h:=zwT l hl;simp only[jt]at h;rw[zUa zj5 rfl];cases hf:l.findIdx? bad with
 |none =>
  simp only[hf]at h;simp[zc2,h,zbe]
 |some i =>
  simp only[hf]at h;simp[zc2,h,zbe]
theorem zvq(n:Nat)(hn:n<=900000000000):∀(r:List zk) (l:List zk) (i j v:Nat),l.length=n->l.drop j=r->i<j->j<=n->∃l' i' v',v<=v'/\(v'=v->l'=l)/\l'.length=n/\i'<=n/\l'.take i'=l.take i++r.filter (fun b=>!bad b) /\
  Y L Cs zbw (some [5,6,1,0]) 2 [(5,.w (W i)),(6,.w (W j)),(1,.w (fn1 zct)),(0,.w (.c (.slice 0 n 6 0 n none)))] [blk v l,gb 6] =
    some (.exit 0,[(19,.w (Bo false)),(5,.w (W i')),(6,.w (W n)),(1,.w (fn1 zct)),(0,.w (.c (.slice 0 n 6 0 n none)))],[blk v' l',gb 6]):=by
 intro r;induction r with
 |nil =>
  intro l i j v hl hd hij hj;obtain rfl:=zUb hd (by omega);refine⟨l,i,v,jk _,fun _=>rfl,hl,by omega,by simp,?_⟩;rw[zj zbw.eq_1];simp[hl]
 |cons x r ih =>
  intro l i j v hl hd hij hj;obtain⟨hjl,hx,hd'⟩:=zL hd;have hw:=zB (i:=j) (by omega);have hw2:=zB (i:=i) (by omega);have hc:=zrR x;have hjn:j<n:=by omega
  have hin:i<n:=by omega
  by_cases hb:x.hi<x.lo
  ·obtain⟨l',i',v',g1,g2,h1,h2,h3,h4⟩:=ih l i (j+1) v hl hd' (by omega) (by omega);refine⟨l',i',v',g1,g2,h1,h2,by simp[h3,hb],?_⟩;rw[<-h4,zj zbw.eq_1];simp[hb,ze]at hc;simp[hl,hjl,hjn,hx,hc,hw,ze]
  ·obtain⟨l',i',v',g1,g2,h1,h2,h3,h4⟩:=ih (l.set i x) (i+1) (j+1) (v+1) (by simp[hl]) (by rw[List.drop_set_of_lt (by omega)];exact hd') (by omega) (by omega);have ht:(l.set i x).take (i+1)=l.take i++[x]:=by
    rw[List.take_succ_eq_append_getElem (by simp;omega),List.take_set_of_le (jk _)];simp
   refine⟨l',i',v',by omega,fun hv=>by omega,h1,h2,by rw[h3,ht];simp[hb],?_⟩;rw[<-h4,zj zbw.eq_1];simp[hb,ze]at hc;have hs:=zeg l i x;simp only[ze]at hs;simp[hl,hjl,hjn,hin,hx,hc,hw,hw2,hs,ze,blk]
abbrev z9:zk:=⟨0,0,0,0,0,0⟩
@[simp] theorem zCd(l:List zk)(k:Nat):(zI l).take k=zI (l.take k):=by simp[zI,List.map_take]
@[simp] theorem zCx(l:List zk)(k:Nat):(zI l).drop k=zI (l.drop k):=by simp[zI,List.map_drop]
@[simp] theorem zCv(k:Nat):List.replicate k [I 0,I 0,I 0,I 0,I 0,I 0]=zI (List.replicate k z9):=by simp[zI,ze]
theorem zuw(l:List zk)(v:Nat)(hn:l.length<=900000000000):∃l' v',v<=v'/\(v'=v->l'=l)/\l'.length=l.length/\(l.filter (fun b=>!bad b)).length<=l.length/\l'.take (l.filter (fun b=>!bad b)).length=l.filter (fun b=>!bad b) /\
  R L Cs zjk [.c (.slice 0 l.length 6 0 l.length none),fn1 zct] [blk v l]=some (.w (.c (.slice 0 l.length 6 0 (l.filter (fun b=>!bad b)).length none)),[blk v' l']):=by
 have hi:=zvV l hn;rw[zUa zjx rfl];cases hf:l.findIdx? bad with
 |none =>
  have u4:∀b∈l,bad b=false:=fun b hb=>qP.1 hf b hb
  have hfil:l.filter (fun b=>!bad b)=l:=uM.2 fun b hb=>by rw[u4 b hb];rfl
  refine⟨l,v,jk _,fun _=>rfl,rfl,by rw[hfil];exact jk _,by rw[hfil];simp,?_⟩;rw[hfil];simp only[hf,zbe]at hi;simp[zb6,hi,zX]
 |some k =>
  obtain⟨hk,hbk,Am⟩:=qd.1 hf;obtain⟨l',i',v',g1,g2,h1,h2,h3,h4⟩:=zvq l.length hn (l.drop (k+1)) l k (k+1) v rfl rfl (by omega) hk;have hpre:l.filter (fun b=>!bad b)=l.take k++(l.drop (k+1)).filter (fun b=>!bad b):=by
   conv=>lhs;rw[<-kf k l,List.filter_append,ki hk,qw]
   rw[if_neg (by simp[hbk])]
   congr 1
   refine uM.2 fun b hb=>?_
   obtain⟨j,hj,rfl⟩:=uL hb;simp at hj;have:=Am j (by omega);simpa using this
  rw[<-hpre]at h3;have hlen:(l.filter (fun b=>!bad b)).length=i':=by rw[<-h3];simp;omega
  have hw:=zB (i:=k) (by omega);simp only[hf,zbe]at hi;refine⟨if l.length-i'=0 then l' else l'.take i'++List.replicate (l.length-i') z9++l'.drop (i'+(l.length-i')),if l.length-i'=0 then v' else v'+1,by split<;>omega,fun hv=>?_,?_,by omega,?_,?_⟩
  ·split at hv
   ·rename_i h0;rw[if_pos h0];exact g2 hv
   ·omega
  ·split
   ·exact h1
   ·simp;omega
  ·rw[hlen,h3.symm];split
   ·rfl
   ·rw[ul,uB (by simp;omega)];rw[List.take_take,Nat.min_self]
  ·rw[hlen];have hne:((k:Int) == -1)=false:=by simp
   have hi0:(0:Int)<=i'/\(i':Int)<=(l.length:Int):=by omega
   have hil:i'+(l.length-i')<=l'.length:=by omega
   simp only[Int.natCast_add,uI,blk]at h4;by_cases h0:l.length-i'=0
   ·simp[zb6,hi,zX,hne,hw,h4,h0,h2,hi0,h1,blk,zgI,zcl]
   ·simp[zb6,hi,zX,hne,hw,h4,h0,h2,hi0,h1,hil,zgI,zcl,blk]
def bub(l:List zk):Nat->List zk
 |0=>l
 |j+1=>if ziK (l.getD (j+1) z9) (l.getD j z9)<0 then bub ((l.set (j+1) (l.getD j z9)).set j (l.getD (j+1) z9)) j else l
theorem zXE:∀(j:Nat) (l:List zk),(bub l j).length=l.length
 |0,l=>rfl
 |j+1,l=>by
  unfold bub;split
  ·rw[zXE j];simp
  ·rfl
theorem zZ3(k i:Nat)(hk:k<=1000)(N:Nat):∀(j:Nat) (l:List zk) (v:Nat),j<k->k<=l.length->l.length=N->∃v' j',v<=v'/\(v'=v->bub l j=l)/\Y L Cs zaD (some [9,3,1,2,8,0]) 1 [(9,.w (W j)),(3,.w (fn1 zdc)),(1,.w (W 0)),(2,.w (W k)),(8,.w (W i)),(0,.w (.c (.slice 0 N 6 0 k none)))] [blk v l] =
   some (.exit 2,[(34,.w (Bo false)),(9,.w (W j')),(3,.w (fn1 zdc)),(1,.w (W 0)),(2,.w (W k)),(8,.w (W i)),(0,.w (.c (.slice 0 N 6 0 k none)))],[blk v' (bub l j)]):=by
 intro j;induction j with
 |zero =>
  intro l v hj hl hN;refine⟨v,0,jk _,fun _=>rfl,?_⟩;rw[zj zaD.eq_1];simp[bub]
 |succ j ih =>
  intro l v hj hl hN;have h1:j+1<l.length:=by omega
  have h2:j<l.length:=by omega
  have hw:IntKind.i64.wrap ((j:Int)+1-1)=(j:Int):=by rw[zTd _ (by omega) (by omega)];omega
  have e1:l.getD (j+1) z9=l[j+1]:=by simp[h1]
  have e2:l.getD j z9=l[j]:=by simp[h2]
  have hc:=zop l[j+1] l[j];have hg:(0:Int)<(j:Int)+1:=by omega
  have hwj:IntKind.i64.wrap (j:Int)=(j:Int):=zTd _ (by omega) (by omega);have a1:(0:Int)<=(j:Int)+1:=by omega
  have a2:(j:Int)+1<(k:Int):=by omega
  have a3:((j:Int)+1).toNat=j+1:=by omega
  have a4:j<k:=by omega
  have a5:j<N:=by omega
  have a6:j+1<N:=by omega
  simp only[ze]at hc;by_cases h:ziK l[j+1] l[j]<0
  ·obtain⟨v',j',hv1,hv2,h4⟩:=ih ((l.set (j+1) l[j]).set j l[j+1]) (v+1+1) (by omega) (by simp;omega) (by simp[hN]);refine⟨v',j',by omega,fun hv=>by omega,?_⟩;rw[bub,e1,e2,if_pos h,<-h4,zj zaD.eq_1];have hs1:=zeg l (j+1) l[j];have hs2:=zeg (l.set (j+1) l[j]) j l[j+1];simp only[ze]at hs1 hs2;simp[hg,hc,h,hw,h1,h2,hwj,a1,a2,a3,a4,a5,a6,hN,ze,blk,hs1,hs2]
  ·refine⟨v,j+1,jk _,fun _=>by rw[bub,e1,e2,if_neg h],?_⟩;rw[bub,e1,e2,if_neg h,zj zaD.eq_1];simp[hg,hc,h,hw,h1,h2,hwj,a1,a2,a3,a4,a5,a6,hN,ze,blk]
def zq4(l:List zk)(i:Nat):Nat->List zk
 |0=>l
 |m+1=>zq4 (bub l i) (i+1) m
theorem zW0:∀(m:Nat) (l:List zk) (i:Nat),(zq4 l i m).length=l.length
 |0,l,i=>rfl
 |m+1,l,i=>by unfold zq4;rw[zW0 m,zXE]
theorem zZ2(k:Nat)(hk:k<=1000)(N:Nat):∀(m i:Nat) (l:List zk) (v:Nat),k-i=m->i<=k+1->k<=l.length->l.length=N->∃v' i',v<=v'/\(v'=v->zq4 l i m=l)/\Y L Cs za3 (some [2,1,3,8,0]) 1 [(2,.w (W k)),(1,.w (W 0)),(3,.w (fn1 zdc)),(8,.w (W i)),(0,.w (.c (.slice 0 N 6 0 k none)))] [blk v l] =
   some (.exit 0,[(14,.w (Bo false)),(3,.w (fn1 zdc)),(1,.w (W 0)),(2,.w (W k)),(8,.w (W i')),(0,.w (.c (.slice 0 N 6 0 k none)))],[blk v' (zq4 l i m)]):=by
 intro m;induction m with
 |zero =>
  intro i l v hm hi hl hN;have hg:¬(i:Int)<(k:Int):=by omega
  have hg':¬i<k:=by omega
  refine⟨v,i,jk _,fun _=>rfl,?_⟩;rw[zj za3.eq_1];simp[hg,hg',zq4,hN]
 |succ m ih =>
  intro i l v hm hi hl hN;have hg:(i:Int)<(k:Int):=by omega
  have hg':i<k:=by omega
  have hw:=zB (i:=i) (by omega);obtain⟨v1,j1,q1,q2,h1⟩:=zZ3 k i hk N i l v hg' hl hN;obtain⟨v2,i2,q3,q4,h2⟩:=ih (i+1) (bub l i) v1 (by omega) (by omega) (by rw[zXE];exact hl) (by rw[zXE];exact hN);refine⟨v2,i2,by omega,fun hv=>by rw[zq4,q4 (by omega),q2 (by omega)],?_⟩;rw[zq4,<-h2,zj za3.eq_1];simp only[blk,zXE,hN]at h1;simp[hg,hg',h1,hw,blk,zXE,hN]
theorem zYM(k:Nat)(hk:k<=1000)(l:List zk)(v:Nat)(hl:k<=l.length):∃v',v<=v'/\(v'=v->zq4 l 1 (k-1)=l)/\R L Cs zf0 [.c (.slice 0 l.length 6 0 k none),W 0,W k,fn1 zdc] [blk v l]=some (.t [],[blk v' (zq4 l 1 (k-1))]):=by
 obtain⟨v',i',q1,q2,h⟩:=zZ2 k hk l.length (k-1) 1 l v rfl (by omega) hl rfl;refine⟨v',q1,q2,?_⟩;rw[zUa zgc rfl];have hw:IntKind.i64.wrap 1=1:=rfl;simp only[blk,uI,zW0]at h;simp[zce,hw,h,blk,zW0]
theorem zZv(k:Nat)(hk:k<=19)(l:List zk)(v:Nat)(hl:k<=l.length):∃v',v<=v'/\(v'=v->zq4 l 1 (k-1)=l)/\R L Cs zhA [.c (.slice 0 l.length 6 0 k none),fn1 zdc] [blk v l]=some (.t [],[blk v' (zq4 l 1 (k-1))]):=by
 obtain⟨v',q1,q2,h⟩:=zYM k (by omega) l v hl;have h1:¬(20:Int)<=(k:Int):=by omega
 have h2:¬(20:Int)<(k:Int):=by omega
 have h3:¬20<=k:=by omega
 have h4:¬20<k:=by omega
 simp only[blk,zW0]at h;have hs:R L Cs zhZ [.c (.slice 0 l.length 6 0 k none),W k,fn1 zdc] [blk v l]=some (.t [],[blk v' (zq4 l 1 (k-1))]):=by
  rw[zUa zh8 rfl];have e1:∀E M,Y L Cs zbO (some [7,8,1,0,2,6]) 1 [(7,.w (W 0)),(8,.w (W 20)),(1,.w (W k)),(0,E),(2,.w (fn1 zdc)),(6,.w (W 20))] M=some (.exit 0,[(13,.w (Bo false)),(7,.w (W 0)),(8,.w (W 20)),(1,.w (W k)),(0,E),(2,.w (fn1 zdc)),(6,.w (W 20))],M):=by
   intro E M;rw[zj zbO.eq_1];simp[h1,h3]
  have e2:∀E M,Y L Cs zaO (some [1,0,2,6]) 1 [(1,.w (W k)),(0,E),(2,.w (fn1 zdc)),(6,.w (W 20))] M=some (.exit 2,[(30,.w (Bo false)),(1,.w (W k)),(0,E),(2,.w (fn1 zdc)),(6,.w (W 20))],M):=by
   intro E M;rw[zj zaO.eq_1];simp[h2,h4]
  by_cases hv:v'=v
  ·have q3:=q2 hv;subst hv;rw[q3]at h ⊢;simp[zdj,e1,e2,h,blk,zW0]
  ·simp[zdj,e1,e2,h,blk,zW0,hv]
 refine⟨v',q1,q2,?_⟩;rw[zUa zhK rfl];simp only[blk,zW0]at hs;by_cases hv:v'=v
 ·have q3:=q2 hv;subst hv;rw[q3]at hs ⊢;simp[zcd,hs,blk,zW0]
 ·simp[zcd,hs,blk,zW0,hv]
def zeM(a b:zk):zk:=⟨a.lane,min a.lo b.lo,max a.hi b.hi,min a.vlo b.vlo,max a.vhi b.vhi,if a.hold=0\/b.hold=0 then 0 else max a.hold b.hold⟩
theorem zCU(a b:zk):R L Cs zsi [.a (ze a),.a (ze b)] []=some (.w (.a (ze (zeM a b))),[]):=by
 rw[zUa zsw rfl];by_cases h1:a.hold=0
 ·simp[zfO,ze,zeM,h1]
 ·have b1:(a.hold==0)=false:=by simp[h1]
  by_cases h2:b.hold=0
  ·simp[zfO,ze,zeM,h1,h2,b1]
  ·have b2:(b.hold==0)=false:=by simp[h2]
   simp[zfO,ze,zeM,h1,h2,b1,b2]
def meets(a b:zk):Bool:=decide (a.lane=b.lane)&&(decide (b.lo<=a.hi)||decide (b.lo-1=a.hi))
def zaQ(out:List zk)(b:zk):List zk :=
 if 0<out.length/\meets (out.getD (out.length-1) z9) b=true then out.set (out.length-1) (zeM (out.getD (out.length-1) z9) b) else out++[b]
structure OKB(b:zk):Prop where
 lo1:-9223372036854775808<=b.lo
 lo2:b.lo<=9223372036854775807
 hi1:-9223372036854775808<=b.hi
 hi2:b.hi<=9223372036854775807
theorem zBI{a b:zk}(ha:OKB a)(hb:OKB b):OKB (zeM a b):=⟨by simp[zeM];have:=ha.lo1;have:=hb.lo1;omega,by simp[zeM];have:=ha.lo2;have:=hb.lo2;omega,by simp[zeM];have:=ha.hi1;have:=hb.hi1;omega,by simp[zeM];have:=ha.hi2;have:=hb.hi2;omega⟩
theorem zva{out:List zk}{b:zk}(h:∀x∈out,OKB x)(hb:OKB b):∀x∈zaQ out b,OKB x:=by
 intro x hx;unfold zaQ at hx;split at hx
 ·rename_i hc;rcases ku hx with h1|h1
  ·exact h x h1
  ·subst h1;refine zBI (h _ ?_) hb;have:out.length-1<out.length:=by omega
   rw[jx,ji this];exact jh this
 ·rcases jw.1 hx with h1|h1
  ·exact h x h1
  ·simp at h1;subst h1;exact hb
theorem zt3(out:List zk)(b:zk):(zaQ out b).length<=out.length+1:=by
 unfold zaQ;split<;>simp
theorem zyO(S:List zk)(k:Nat)(hk:k<=900000000000)(hS:k<=S.length)(v:Nat)(hok:∀x∈S.take k,OKB x):∀(r:List zk) (i:Nat) (out:List zk) (w:Nat),(S.take k).drop i=r->i<=k->out.length<=i->(∀x∈out,OKB x)->∃w',
  Y L Cs zfv (some [15,14,13,4]) 3 [(15,.w (W i)),(14,.w (W k)),(13,.w (.c (.slice 1 S.length 6 0 k none))),(4,.w (.c (.slice 2 out.length 6 0 out.length none)))] [gb 6,blk v S,blk w out] =
    some (.exit 0,[(16,.w (Bo false)),(15,.w (W k)),(14,.w (W k)),(13,.w (.c (.slice 1 S.length 6 0 k none))),(4,.w (.c (.slice 2 (r.foldl zaQ out).length 6 0 (r.foldl zaQ out).length none)))],[gb 6,blk v S,blk w' (r.foldl zaQ out)]):=by
 intro r;induction r with
 |nil =>
  intro i out w hd hi ho hoo;have:i=k:=by
   have:=zUb hd (by simp;omega);simp at this;omega
  subst this;refine⟨w,?_⟩;rw[zj zfv.eq_1];simp
 |cons b r ih =>
  intro i out w hd hi ho hoo;obtain⟨hil,hb,hd'⟩:=zL hd;simp at hil hb;have hik:i<k:=by omega
  have hiS:i<S.length:=by omega
  have hbok:OKB b:=hok b (qm (i:=i) (by rw[hd];exact jo));have hw:=zB (i:=i) (by omega);obtain⟨w',h4⟩:=ih (i+1) (zaQ out b) (if 0<out.length/\meets (out.getD (out.length-1) z9) b=true then w+1 else w+1) hd' hik (by have:=zt3 out b;omega) (zva hoo hbok);refine⟨w',?_⟩;rw[jI,<-h4,zj zfv.eq_1];have jO:(out.length+1)*48<=140737488355328:=by omega
  by_cases h0:out.length=0
  ·have e:out=[]:=kE.1 h0;subst e;simp[zaQ,hik,hiS,hb,hw,ze,blk]
  have hp:0<out.length:=by omega
  have hp':(0:Int)<(out.length:Int):=by omega
  have uS:out.length-1<out.length:=by omega
  have e1:out.getD (out.length-1) z9=out[out.length-1]:=by simp[uS]
  have hw1:=kH ((out.length:Int)-1);have i1:(1:Int)<=(out.length:Int):=by omega
  have i2:(out.length:Int)-1<(out.length:Int):=by omega
  have i3:((out.length:Int)-1).toNat=out.length-1:=by omega
  have aok:OKB out[out.length-1]:=hoo _ (jh _);have hc:=zCU out[out.length-1] b;rw[zaQ,e1];generalize ha:out[out.length-1]=a at *;have hs:=zeg out (out.length-1) (zeM a b);simp only[ze]at hc hs;by_cases h2:a.lane=b.lane
  ·rw[h2]at hc;by_cases h3:b.lo<=a.hi
   ·have hm:meets a b=true:=by simp[meets,h2,h3]
    simp[hm,hik,hiS,hb,hw,ze,blk,hp,hp',hw1,i1,i2,i3,uS,ha,h2,h3,hc,hs]
   ·have hw2:IntKind.i64.wrap (b.lo-1)=b.lo-1:=zTd _ (by have:=aok.hi1;omega) (by have:=hbok.lo2;omega);by_cases h5:b.lo-1=a.hi
    ·have hm:meets a b=true:=by simp[meets,h2,h5]
     have hw3:IntKind.i64.wrap a.hi=a.hi:=zTd _ aok.hi1 aok.hi2;simp[hw3,hm,hik,hiS,hb,hw,ze,blk,hp,hp',hw1,i1,i2,i3,uS,ha,h2,h3,hc,hs,hw2,h5]
    ·have hm:meets a b=false:=by simp[meets,h2,h3,h5]
     have b5:(b.lo-1==a.hi)=false:=by simp[h5]
     simp[hm,hik,hiS,hb,hw,ze,blk,hp,hp',hw1,i1,i2,i3,uS,ha,h2,h3,hw2,h5,b5,jO]
  ·have hm:meets a b=false:=by simp[meets,h2]
   have b2:(a.lane==b.lane)=false:=by simp[h2]
   simp[hm,hik,hiS,hb,hw,ze,blk,hp,hp',hw1,i1,i2,i3,uS,ha,h2,b2,jO]
def zzs(l:List zk):List zk:=zq4 l 1 (l.length-1)
theorem z0u:∀(m i:Nat) (l:List zk) (k:Nat),i+m<=k->k<=l.length->(zq4 l i m).take k=zq4 (l.take k) i m:=by
 have hb:∀(j:Nat) (l:List zk) (k:Nat),j<k->k<=l.length->(bub l j).take k=bub (l.take k) j:=by
  intro j;induction j with
  |zero=>intro l k _ _;rfl
  |succ j ih =>
   intro l k h1 h2;have e1:(l.take k).getD (j+1) z9=l.getD (j+1) z9:=by simp[jx,qr h1]
   have e2:(l.take k).getD j z9=l.getD j z9:=by simp[jx,qr (show j<k by omega)]
   rw[bub,bub,e1,e2];split
   ·rw[ih _ _ (by omega) (by simp;omega)];simp[List.take_set]
   ·rfl
 intro m;induction m with
 |zero=>intro i l k _ _;rfl
 |succ m ih =>
  intro i l k h1 h2;rw[zq4,zq4,ih _ _ _ (by omega) (by rw[zXE];exact h2),hb i l k (by omega) h2]
def zAj(l:List zk):List zk:=(zzs (l.filter fun b=>!bad b)).foldl zaQ []
theorem z1m:∀(j:Nat) (l:List zk) (x:zk),j<l.length->x∈bub l j->x∈l:=by
 intro j;induction j with
 |zero=>intro l x _ h;exact h
 |succ j ih =>
  intro l x hj h;rw[bub]at h;split at h
  ·have h1:=ih _ x (by simp;omega) h;have e1:l.getD (j+1) z9∈l:=by rw[jx,ji hj];exact jh _
   have e2:l.getD j z9∈l:=by rw[jx,ji (by omega)];exact jh _
   rcases ku h1 with h2|h2
   ·rcases ku h2 with h3|h3
    ·exact h3
    ·rw[h3];exact e2
   ·rw[h2];exact e1
  ·exact h
theorem z0R:∀(m i:Nat) (l:List zk) (x:zk),i+m<=l.length->x∈zq4 l i m->x∈l:=by
 intro m;induction m with
 |zero=>intro i l x _ h;exact h
 |succ m ih=>intro i l x h1 h;exact z1m i l x (by omega) (ih (i+1) (bub l i) x (by rw[zXE];omega) h)
theorem zZu(l:List zk)(hl:l.length<=19)(hok:∀x∈l,OKB x):R L Cs zsj [.c (.jd (zI l))] []=some (.w (.c (.jd (zI (zAj l)))),[]):=by
 have hc:=zvv l (by omega);obtain⟨l',v1,d1,d2,d3,d4,d5,hD⟩:=zuw l l.length (by omega);have hkl:(l.filter fun b=>!bad b).length<=l'.length:=by rw[d3];exact d4
 obtain⟨v2,s1,s2,hS⟩:=zZv (l.filter fun b=>!bad b).length (by omega) l' v1 hkl;have htake:(zq4 l' 1 ((l.filter fun b=>!bad b).length-1)).take (l.filter fun b=>!bad b).length=zzs (l.filter fun b=>!bad b):=by
  by_cases h0:(l.filter fun b=>!bad b).length=0
  ·have e:(l.filter fun b=>!bad b)=[]:=kE.1 h0;rw[e];rfl
  ·rw[z0u _ _ _ _ (by omega) hkl,d5];rfl
 have hfok:∀x∈zzs (l.filter fun b=>!bad b),OKB x:=by
  intro x hx;by_cases h0:(l.filter fun b=>!bad b).length=0
  ·have e:(l.filter fun b=>!bad b)=[]:=kE.1 h0;rw[e]at hx;cases hx
  ·exact hok x (kN.1 (z0R _ _ _ x (by omega) hx)).1
 obtain⟨w',hJ⟩:=zyO (zq4 l' 1 ((l.filter fun b=>!bad b).length-1)) (l.filter fun b=>!bad b).length (by omega) (by rw[zW0];exact hkl) v2 (by rw[htake];exact hfok) _ 0 [] 0 rfl (jz _) (jz _) (by simp);rw[ui,htake,<-zAj]at hJ;generalize hk:(l.filter fun b=>!bad b).length=k at *;generalize hQ:zAj l=Q at *;generalize hI:zq4 l' 1 (k-1)=S at *;have hSl:S.length=l.length:=by rw[<-hI,zW0,d3]
 simp only[blk,hSl,d3,jt,jA,zic]at hD hS hJ;rw[zUa zsx rfl];by_cases q1:v1=l.length
 ·have e1:=d2 q1;by_cases q2:v2=v1
  ·have e2:=s2 q2;rw[e1,q1]at hD;rw[e2,e1,q2,q1]at hS hJ;simp[zeQ,hc,hD,hS,hJ]
  ·rw[e1,q1]at hD;rw[e1,q1]at hS;rw[q1]at q2;simp[zeQ,hc,hD,hS,hJ,q2]
 ·by_cases q2:v2=v1
  ·have e2:=s2 q2;rw[e2,q2]at hS hJ;simp[zeQ,hc,hD,hS,hJ,q1]
  ·simp[zeQ,hc,hD,hS,hJ,q1,q2]
def ltB(a b:zk):Bool:=decide (a.lane<b.lane)||(decide (a.lane=b.lane)&&decide (a.lo<b.lo))
theorem znX(a b:zk):(ziK a b<0)<->ltB a b=true:=by
 unfold ziK ltB zgQ;by_cases h1:a.lane<b.lane
 ·simp[h1]
 ·by_cases h2:b.lane<a.lane
  ·have h3:¬a.lane=b.lane:=by omega
   simp[h1,h2,h3]
  ·have h3:a.lane=b.lane:=by omega
   by_cases h4:a.lo<b.lo
   ·simp[h3,h4]
   ·by_cases h5:b.lo<a.lo
    ·simp[h3,h4,h5]
    ·simp[h3,h4,h5]
theorem zCT(a b:zk):R L Cs zlj [.a (ze a),.a (ze b)] []=some (.w (Bo (ltB a b)),[]):=by
 rw[zUa zlz rfl];by_cases h1:a.lane<b.lane
 ·simp[zcA,ze,ltB,h1]
 ·by_cases h2:a.lane=b.lane
  ·simp[zcA,ze,ltB,h2]
  ·have b2:(a.lane==b.lane)=false:=by simp[h2]
   simp[zcA,ze,ltB,h1,h2,b2]
def zev(x:zk)(s:List zk):Nat->Nat
 |0=>0
 |a+1=>if ltB x (s.getD a z9)=true then zev x s a else a+1
theorem zl0(x:zk)(s:List zk):∀a,zev x s a<=a
 |0=>jk _
 |a+1=>by unfold zev;split;exact Nat.le_succ_of_le (zl0 x s a);exact jk _
theorem zBS(l s:List zk)(i:Nat)(hi:i<l.length)(hs:s.length<=900000000000)(M:Mem)(id:Nat)(hM:M[id]?=some (some (own 6 (zI s)))):∀(a:Nat),a<=s.length ->
  Y L Cs zca (some [5,0,4,3]) M.length [(5,.w (W a)),(0,.w (.c (.jd (zI l)))),(4,.w (W i)),(3,.w (.c (.slice id s.length 6 0 s.length none)))] M =
    some (.exit 2,[(44,.w (Bo false)),(5,.w (W (zev l[i] s a))),(0,.w (.c (.jd (zI l)))),(4,.w (W i)),(3,.w (.c (.slice id s.length 6 0 s.length none)))],M):=by
 intro a;induction a with
 |zero =>
  intro ha;rw[zj zca.eq_1];simp[zev]
 |succ a ih =>
  intro ha;have has:a<s.length:=by omega
  have e1:s.getD a z9=s[a]:=by simp[has]
  have hc:=zCT l[i] s[a];have hg:(0:Int)<(a:Int)+1:=by omega
  have hwa:IntKind.i64.wrap (a:Int)=(a:Int):=zTd _ (by omega) (by omega);simp only[ze]at hc;rw[zev,e1];have hdrop:∀E:Env,kx M.length E M=M:=fun E=>by simp[kx]
  by_cases h:ltB l[i] s[a]=true
  ·rw[h]at hc;rw[if_pos h,<-ih (by omega),zj zca.eq_1];simp[hg,hi,hM,own,has,hwa,hc,ze,hdrop]
  ·have h':ltB l[i] s[a]=false:=by simpa using h
   rw[h']at hc;rw[if_neg h,zj zca.eq_1];simp[hg,hi,hM,own,has,hwa,hc,ze]
def zfK(s:List zk)(x:zk):List zk:=s.take (zev x s s.length)++x::s.drop (zev x s s.length)
theorem zn4(s:List zk)(x:zk):(zfK s x).length=s.length+1:=by
 have:=zl0 x s s.length;simp[zfK];omega
def zs9(M:Mem):Prop:=∀x∈M,∀b,x=some b->b.box=false
def zb5(s:List zk)(x:zk):List zk:=if bad x=true then s else zfK s x
theorem zkI{M:Mem}{E:Env}{id g es off len:Nat}{c:Option Nat}(hE:(3,AV.w (.c (.slice id g es off len c)))∈E)(h:M.length<=2\/2<=id):kx 2 E M=M:=by
 unfold kx;split
 ·rfl
 ·rename_i hl;have hid:2<=id:=h.resolve_left hl;rw[if_neg];simp only[jf,jq,not_and];intro u4;have:=u4 _ hE;simp[AV.below,WV.below,WV.cells,Eng.below,vg]at this;omega
theorem zx0(l:List zk)(hl:l.length<=900000000000):∀(r:List zk) (i:Nat) (s:List zk) (M:Mem) (id:Nat),l.drop i=r->i<=l.length->s.length<=i->M[id]?=some (some (own 6 (zI s)))->(M.length<=2\/2<=id)->2<=M.length->zs9 M ->
  ∃M' id',zs9 M'/\M'[id']?=some (some (own 6 (zI (r.foldl zb5 s))))/\Y L Cs zb9 (some [4,0,3]) 2 [(4,.w (W i)),(0,.w (.c (.jd (zI l)))),(3,.w (.c (.slice id s.length 6 0 s.length none)))] M =
   some (.exit 0,[(15,.w (Bo false)),(4,.w (W l.length)),(0,.w (.c (.jd (zI l)))),(3,.w (.c (.slice id' (r.foldl zb5 s).length 6 0 (r.foldl zb5 s).length none)))],M'):=by
 intro r;induction r with
 |nil =>
  intro i s M id hd hi hs hM hid hML hfl;obtain rfl:=zUb hd hi;refine⟨M,id,hfl,hM,?_⟩;rw[zj zb9.eq_1];simp
 |cons x r ih =>
  intro i s M id hd hi hs hM hid hML hfl;obtain⟨hil,hx,hd'⟩:=zL hd;have hw:=zB (i:=i) (by omega);by_cases hb:x.hi<x.lo
  ·obtain⟨M',id',hf',h1,h2⟩:=ih (i+1) s M id hd' hil (by omega) hM hid hML hfl;have e:zb5 s x=s:=by simp[zb5,hb]
   rw[jI,e];refine⟨M',id',hf',h1,?_⟩;rw[<-h2,zj zb9.eq_1];have hdr:=fun(E:Env) (hE:(3,AV.w (.c (.slice id s.length 6 0 s.length none)))∈E)=>zkI hE hid
   simp[hil,hx,hb,ze,hw,hdr,-kx]
  ·have hidM:id<M.length:=(jT.1 hM).1;have e:zb5 s x=zfK s x:=by simp[zb5,hb]
   have hM2:(M++[some (own 6 (zI (zfK s x))),some (own 6 [ze x])])[M.length]?=some (some (own 6 (zI (zfK s x)))):=by simp
   have hl2:(2:Nat)<=M.length:=hML;have hs999:s.length<=899999999999:=by omega
   obtain⟨M',id',hf',h1,h2⟩:=ih (i+1) (zfK s x) (M++[some (own 6 (zI (zfK s x))),some (own 6 [ze x])]) M.length hd' hil (by rw[zn4];omega) hM2 (.inr hl2) (by simp) (by
    intro y hy b hb;rcases jw.1 hy with h|h
    ·exact hfl y h b hb
    ·simp at h;rcases h with rfl|rfl<;>(cases hb;rfl))
   rw[jI,e];refine⟨M',id',hf',h1,?_⟩;have hat:=zBS l s i hil (by omega) M id hM s.length (jk _);rw[hx]at hat;have hdr:∀(v v2:AV) (g len:Nat) (N:Mem),kx 2 [(4,v),(0,v2),(3,.w (.c (.slice M.length g 6 0 len none)))] (M++N)=M++N:=fun v v2 g len N=>zkI (id:=M.length) (g:=g) (es:=6) (off:=0) (len:=len) (c:=none) (by simp) (.inr hl2)
   have hle:=zl0 x s s.length;rw[<-h2,zj zb9.eq_1];simp only[zfK];generalize zev x s s.length=a at *;have hdl:∀E:Env,kx M.length E M=M:=fun E=>by simp[kx]
   have hal:(a:Int)<=(s.length:Int):=by omega
   have r1:∀n,n<=900000000000->n*48<=140737488355328:=fun n hn=>by omega
   have hta:(s.take a).length=a:=by simp;omega
   have htd:(s.drop a).length=s.length-a:=by simp
   have hsz:a+(s.length-a)=s.length:=by omega
   have hg:∀N:Mem,(M++N)[id]?=some (some (own 6 (zI s))):=fun N=>by rw[jg hidM,hM]
   simp only[own,zgg]at hg;have d1:a-s.length=0:=by omega
   cases h1:s.take a with
   |nil =>
    cases h2:s.drop a with
    |nil=>simp[hil,hx,hb,ze,hw,hdr,hat,hM,hidM,hg,own,hle,h1,h2,zg,hdl,hal,hsz,r1,-kx]
    |cons z t2 =>
     have ht2:t2.length+1+1<=900000000000:=by have:=congrArg List.length h2;simp at this;omega
     have ht3:s.length-a=t2.length+1:=by have:=congrArg List.length h2;simp at this;omega
     have ht4:(1+(t2.length+1))*48<=140737488355328:=by omega
     have ht5:1+(t2.length+1)=t2.length+1+1:=by omega
     have ht6:a+(t2.length+1)<=s.length:=by omega
     simp[hil,hx,hb,ze,hw,hdr,hat,hM,hidM,hg,own,hle,h1,h2,zg,hdl,hal,hsz,r1,ht2,ht3,ht4,ht5,ht6,-kx]
   |cons y t1 =>
    have ht1:t1.length+1=a:=by have:=congrArg List.length h1;simp at this;omega
    have hr1:=r1 (t1.length+1) (by omega);have hr2:=r1 (t1.length+1+1) (by omega);cases h2:s.drop a with
    |nil=>simp[hil,hx,hb,ze,hw,hdr,hat,hM,hidM,hg,own,hle,h1,h2,zg,hdl,hal,hsz,r1,hr1,hr2,-kx]
    |cons z t2 =>
     have hr3:=r1 (t1.length+1+1+(t2.length+1)) (by have:=congrArg List.length h2;simp at this;omega);have ht3:s.length-a=t2.length+1:=by have:=congrArg List.length h2;simp at this;omega
     have ht6:a+(t2.length+1)<=s.length:=by omega
     have ht7:t1.length+1+1+(t2.length+1)=t1.length+(t2.length+1+1)+1:=by omega
     have hr4:(t1.length+(t2.length+1+1)+1)*48<=140737488355328:=by rw[<-ht7];exact hr3
     have ht8:List.take (t1.length+1) (zI t1++[[I x.lane,I x.lo,I x.hi,I x.vlo,I x.vhi,I x.hold]])=zI t1++[[I x.lane,I x.lo,I x.hi,I x.vlo,I x.vhi,I x.hold]]:=jF (by simp);have ht2:t2.length+1+a=s.length:=by have:=congrArg List.length h2;simp at this;omega
     simp[hil,hx,hb,ze,hw,hdr,hat,hM,hidM,hg,own,hle,h1,h2,zg,hdl,hal,hsz,r1,ht2,hr1,hr2,hr3,hr4,ht3,ht6,ht7,ht8,-kx]
def glue(a b:zk):zk:=⟨b.lane,a.lo,max a.hi b.hi,min a.vlo b.vlo,max a.vhi b.vhi,if a.hold=0\/b.hold=0 then 0 else max a.hold b.hold⟩
def far(a b:zk):Bool:=!decide (a.lane=b.lane)||(decide (a.hi<b.lo)&&decide (a.hi<b.lo-1))
def zcP(out:List zk)(b:zk):List zk :=
 if 0<out.length/\far (out.getD (out.length-1) z9) b=false then out.set (out.length-1) (glue (out.getD (out.length-1) z9) b) else out++[b]
theorem zn6(out:List zk)(b:zk):(zcP out b).length<=out.length+1:=by
 unfold zcP;split<;>simp
theorem zvi{out:List zk}{b:zk}(h:∀x∈out,OKB x)(hb:OKB b):∀x∈zcP out b,OKB x:=by
 intro x hx;unfold zcP at hx;split at hx
 ·rename_i hc;rcases ku hx with h1|h1
  ·exact h x h1
  ·subst h1;have hl:out.length-1<out.length:=by omega
   have ho:OKB (out.getD (out.length-1) z9):=by
    refine h _ ?_;rw[jx,ji hl];exact jh hl
   exact⟨ho.lo1,ho.lo2,by show _<=max _ _;have:=ho.hi1;have:=hb.hi1;omega,by show max _ _<=_;have:=ho.hi2;have:=hb.hi2;omega⟩
 ·rcases jw.1 hx with h1|h1
  ·exact h x h1
  ·simp at h1;subst h1;exact hb
theorem zw2{P N:Mem}(hP:zs9 P){g len id g' len':Nat}{v:AV}{o x:Option Blk}(ho:∀b,o=some b->b.box=false)(hid:id<P.length)(hv:v.below (P.length+1)=true) :
  kx (P.length+1) [(6,.w (.c (.slice P.length g 6 0 len none))),(7,v),(3,.w (.c (.slice id g' 6 0 len' none)))] (P++o::x::N)=P++[o]:=by
 unfold kx;have ht:(P++o::x::N).take (P.length+1)=P++[o]:=by
  rw[List.take_append,jF (by omega)];simp
 rw[if_neg (by simp),ht,if_pos];simp only[jf,jq];refine⟨?_,?_⟩
 ·intro y hy;simp at hy;rcases hy with rfl|rfl|rfl
  ·simp[AV.below,WV.below,WV.cells,Eng.below,vg]
  ·exact hv
  ·simp[AV.below,WV.below,WV.cells,Eng.below,vg];omega
 ·simp only[zH,jq];intro y hy;have:∀b,y=some b->b.box=false:=by
   rcases jw.1 hy with h|h
   ·exact hP y h
   ·simp at h;subst h;exact ho
  cases y with
  |none=>rfl
  |some b=>simp[Blk.below,this b rfl]
theorem zyT(S:List zk)(hS:S.length<=900000000000)(P:Mem)(id:Nat)(hP:zs9 P)(hM:P[id]?=some (some (own 6 (zI S))))(hok:∀x∈S,OKB x):∀(r:List zk) (i:Nat) (out:List zk) (w:Nat),S.drop i=r->i<=S.length->out.length<=i->(∀x∈out,OKB x)->∃w',
  Y L Cs zcN (some [6,7,3]) (P.length+1) [(6,.w (.c (.slice P.length out.length 6 0 out.length none))),(7,.w (W i)),(3,.w (.c (.slice id S.length 6 0 S.length none)))] (P++[blk w out]) =
    some (.exit 4,[(65,.w (Bo false)),(6,.w (.c (.slice P.length (r.foldl zcP out).length 6 0 (r.foldl zcP out).length none))),(7,.w (W S.length)),(3,.w (.c (.slice id S.length 6 0 S.length none)))],P++[blk w' (r.foldl zcP out)]):=by
 have hidP:id<P.length:=(jT.1 hM).1;have hg:∀N:Mem,(P++N)[id]?=some (some (own 6 (zI S))):=fun N=>by rw[jg hidP,hM]
 simp only[own,zgg]at hg;intro r;induction r with
 |nil =>
  intro i out w hd hi ho hoo;obtain rfl:=zUb hd hi;refine⟨w,?_⟩;rw[zj zcN.eq_1];simp[hg]
 |cons b r ih =>
  intro i out w hd hi ho hoo;obtain⟨hil,hb,hd'⟩:=zL hd;have hbok:OKB b:=hok b (by rw[<-hb];exact jh _);have hw:=zB (i:=i) (by omega);obtain⟨w',h4⟩:=ih (i+1) (zcP out b) (w+1) hd' hil (by have:=zn6 out b;omega) (zvi hoo hbok);refine⟨w',?_⟩;rw[jI,<-h4,zj zcN.eq_1];have jO:(out.length+1)*48<=140737488355328:=by omega
  have hdt:∀(g len g' len':Nat) (k:Int) (w:Nat) (rows:List (List Cl)) (x:Option Blk) (N:Mem),kx (P.length+1) [(6,.w (.c (.slice P.length g 6 0 len none))),(7,.w (W k)),(3,.w (.c (.slice id g' 6 0 len' none)))] (P++some { box:=false,esz:=6,rows:=rows,gen:=g,fz:=false,ver:=w }::x::N)=P++[some { box:=false,esz:=6,rows:=rows,gen:=g,fz:=false,ver:=w }] :=
   fun g len g' len' k w rows x N=>zw2 hP (by intro b hb;cases hb;rfl) hidP (by simp[AV.below,WV.below,WV.cells,Eng.below,vg])
  by_cases h0:out.length=0
  ·have e:out=[]:=kE.1 h0;subst e;have hwm:IntKind.i64.wrap (-1)=-1:=rfl;simp[zcP,hil,hb,hw,ze,blk,hg,hwm,hdt,zg,-kx]
  have hp:0<out.length:=by omega
  have uS:out.length-1<out.length:=by omega
  have e1:out.getD (out.length-1) z9=out[out.length-1]:=by simp[uS]
  have hw1:=kH ((out.length:Int)-1);have i1:(1:Int)<=(out.length:Int):=by omega
  have i2:(out.length:Int)-1<(out.length:Int):=by omega
  have i3:¬((out.length:Int)-1<0):=by omega
  have i4:¬((out.length:Int)<1):=by omega
  have i5:¬(out.length<1):=by omega
  have aok:OKB out[out.length-1]:=hoo _ (jh _);rw[zcP,e1];generalize ha:out[out.length-1]=a at *;have hs:∀x1 x2 x3 x4 x5 x6:Int,(zI out).set (out.length-1) [.int .i64 x1,.int .i64 x2,.int .i64 x3,.int .i64 x4,.int .i64 x5,.int .i64 x6]=zI (out.set (out.length-1) ⟨x1,x2,x3,x4,x5,x6⟩):=fun x1 x2 x3 x4 x5 x6=>zeg out (out.length-1) ⟨x1,x2,x3,x4,x5,x6⟩
  by_cases h2:a.lane=b.lane
  ·by_cases h3:a.hi<b.lo
   ·have hw2:IntKind.i64.wrap (b.lo-1)=b.lo-1:=zTd _ (by have:=aok.hi1;omega) (by have:=hbok.lo2;omega);by_cases h5:a.hi<b.lo-1
    ·have hm:far a b=true:=by simp[far,h3,h5]
     simp[hm,hil,hb,hw,ze,blk,hp,hw1,i1,i2,i3,i4,i5,uS,ha,h2,h3,h5,hw2,jO,hg,hdt,zg,-kx]
    ·have hm:far a b=false:=by simp[far,h2,h5]
     by_cases h6:a.hold=0
     ·simp[hm,hil,hb,hw,ze,blk,hp,hw1,i1,i2,i3,i4,i5,uS,ha,h2,h3,h5,hw2,jO,hg,hdt,zg,h6,glue,hs,-kx]
     ·have b6:(a.hold==0)=false:=by simp[h6]
      by_cases h7:b.hold=0
      ·simp[hm,hil,hb,hw,ze,blk,hp,hw1,i1,i2,i3,i4,i5,uS,ha,h2,h3,h5,hw2,jO,hg,hdt,zg,h6,h7,b6,glue,hs,-kx]
      ·have b7:(b.hold==0)=false:=by simp[h7]
       simp[hm,hil,hb,hw,ze,blk,hp,hw1,i1,i2,i3,i4,i5,uS,ha,h2,h3,h5,hw2,jO,hg,hdt,zg,h6,h7,b6,b7,glue,hs,-kx]
   ·have hm:far a b=false:=by simp[far,h2,h3]
    by_cases h6:a.hold=0
    ·simp[hm,hil,hb,hw,ze,blk,hp,hw1,i1,i2,i3,i4,i5,uS,ha,h2,h3, hg,hdt,zg,h6,glue,hs,-kx]
    ·have b6:(a.hold==0)=false:=by simp[h6]
     by_cases h7:b.hold=0
     ·simp[hm,hil,hb,hw,ze,blk,hp,hw1,i1,i2,i3,i4,i5,uS,ha,h2,h3, hg,hdt,zg,h6,h7,b6,glue,hs,-kx]
     ·have b7:(b.hold==0)=false:=by simp[h7]
      simp[hm,hil,hb,hw,ze,blk,hp,hw1,i1,i2,i3,i4,i5,uS,ha,h2,h3, hg,hdt,zg,h6,h7,b6,b7,glue,hs,-kx]
  ·have hm:far a b=true:=by simp[far,h2]
   have b2:(a.lane==b.lane)=false:=by simp[h2]
   have b3:(a.lane !=b.lane)=true:=by simp[h2]
   simp[hm,hil,hb,hw,ze,blk,hp,hw1,i1,i2,i3,i4,i5,uS,ha,h2,b2,b3,jO,hg,hdt,zg,-kx]
theorem zAm{s:List zk}{x y:zk}:y∈zfK s x<->y=x\/y∈s:=by
 unfold zfK;generalize zev x s s.length=a
 conv=>rhs;rw[<-kf a s]
 simp only[jw,jr];constructor
 ·rintro(h|h|h)
  ·exact .inr (.inl h)
  ·exact .inl h
  ·exact .inr (.inr h)
 ·rintro(h|h|h)
  ·exact .inr (.inl h)
  ·exact .inl h
  ·exact .inr (.inr h)
theorem zuL:∀(l s:List zk) (y:zk),y∈l.foldl zb5 s->y∈l\/y∈s
 |[],s,y,h=>.inr h
 |x::l,s,y,h=>by
  rcases zuL l (zb5 s x) y h with h|h
  ·exact .inl (jl _ h)
  ·unfold zb5 at h;split at h
   ·exact .inr h
   ·rcases zAm.1 h with h|h
    ·exact .inl (h ▸ jo)
    ·exact .inr h
theorem zqq:∀(l s:List zk),(l.foldl zb5 s).length<=l.length+s.length
 |[],s=>by simp
 |x::l,s=>by
  have h:=zqq l (zb5 s x);have h2:(zb5 s x).length<=s.length+1:=by unfold zb5;split;omega;rw[zn4];omega
  simp only[jI,jG];omega
def zcz(l:List zk):List zk:=(l.foldl zb5 []).foldl zcP []
theorem zy7(l:List zk)(hl:l.length<=800000000000)(hok:∀x∈l,OKB x):R L Cs zlm [.c (.jd (zI l))] []=some (.w (.c (.jd (zI (zcz l)))),[]):=by
 obtain⟨P,id,hP,hid,h2⟩:=zx0 l (by omega) l 0 [] [gb 6,gb 6] 1 rfl (jz _) (jz _) rfl (.inl (by simp)) (by simp) (by intro x hx b hb;simp at hx;subst hx;cases hb;rfl);have hl2:=zqq l [];simp at hl2;obtain⟨w',h3⟩:=zyT (l.foldl zb5 []) (by omega) P id hP hid (fun x hx=>hok x ((zuL l [] x hx).resolve_right (by simp))) _ 0 [] 0 rfl (jz _) (jz _) (by simp);rw[ui,<-zcz]at h3;generalize l.foldl zb5 []=S at *;generalize zcz l=Q at *;simp only[blk,jt,jA,zic]at h2 h3;have hidP:id<P.length:=(jT.1 hid).1;have hdp:∀(E:Env) (b:Option Blk),kx (P.length+1) E (P++[b])=P++[b]:=by
  intro E b;simp[kx]
 have hd0:∀(E:Env) (a b:Option Blk),kx 2 E [a,b]=[a,b]:=by
  intro E a b;simp[kx]
 rw[zUa zlC rfl];simp[ze0,h2,h3,zg,hdp,hd0,-kx]
def leB(a b:zk):Prop:=a.lane<b.lane\/(a.lane=b.lane/\a.lo<=b.lo)
theorem zqc(a b:zk):leB a b<->¬ltB b a=true:=by
 unfold leB ltB;simp;omega
theorem zfs{a b c:zk}(h1:leB a b)(h2:leB b c):leB a c:=by unfold leB at *;omega
theorem zxy{a b:zk}(h:ltB a b=true):leB a b:=by unfold leB;unfold ltB at h;simp at h;omega
theorem zn5(x:zk)(t u:List zk):∀a,a<=t.length->zev x (t++u) a=zev x t a
 |0,_=>rfl
 |a+1,h=>by
  have e:(t++u).getD a z9=t.getD a z9:=by simp[jx,jg (show a<t.length by omega)]
  unfold zev;rw[e,zn5 x t u a (by omega)]
theorem zup(x:zk):∀(n:Nat) (s r:List zk),s.length=n->bub (s++x::r) n=zfK s x++r
 |0,s,r,h=>by
  have e:s=[]:=kE.1 h;subst e;simp[bub,zfK,zev]
 |n+1,s,r,h=>by
  rcases List.eq_nil_or_concat s with e |⟨t,y,e⟩
  ·subst e;simp at h
  ·rw[List.concat_eq_append]at e;subst e;have ht:t.length=n:=by simpa using h
   subst ht;have e1:(t++[y]++x::r).getD (t.length+1) z9=x:=by simp[jx]
   have e2:(t++[y]++x::r).getD t.length z9=y:=by simp[jx]
   have e3:((t++[y]++x::r).set (t.length+1) y).set t.length x=t++x::(y::r):=by simp
   rw[bub,e1,e2,e3];have e4:zev x (t++[y]) (t.length+1)=if ltB x y=true then zev x t t.length else t.length+1:=by
    rw[zev];have:(t++[y]).getD t.length z9=y:=by simp[jx]
    rw[this,zn5 x t [y] t.length (jk _)]
   by_cases hc:ziK x y<0
   ·have hl:=(znX x y).1 hc;rw[if_pos hc,zup x t.length t (y::r) rfl];have hle:=zl0 x t t.length;simp only[zfK,jU,jG,jA,kg];rw[e4,if_pos hl,uB hle,List.drop_append_of_le_length hle];simp
   ·have hl:¬ltB x y=true:=fun h=>hc ((znX x y).2 h)
    rw[if_neg hc];simp only[zfK,jU,jG,jA,kg];rw[e4,if_neg hl,jF (by simp),uj (by simp)];simp
theorem zvc:∀(r s:List zk),zq4 (s++r) s.length r.length=r.foldl zfK s
 |[],s=>by simp[zq4]
 |x::r,s=>by
  rw[jG,zq4,zup x s.length s r rfl,jI];have h:=zvc r (zfK s x);rw[zn4]at h;exact h
theorem zsN(l:List zk):zzs l=l.foldl zfK []:=by
 cases l with
 |nil=>rfl
 |cons x r =>
  have h:=zvc r [x];simp only[jG,jA,List.singleton_append]at h;simp only[zzs,jG,Nat.add_sub_cancel,jI];have e:zfK [] x=[x]:=by simp[zfK,zev]
  rw[e];exact h
theorem zpi:∀(l s:List zk),l.foldl zb5 s=(l.filter fun b=>!bad b).foldl zfK s
 |[],s=>rfl
 |x::l,s=>by
  rw[jI,zpi l,qw];cases h:bad x with
  |true=>simp[zb5,h]
  |false=>simp[zb5,h]
theorem zpu(x:zk)(s:List zk):∀a,a<=s.length->∀i,zev x s a<=i->i<a->ltB x (s.getD i z9)=true
 |0,_,i,_,h=>by omega
 |a+1,ha,i,h1,h2=>by
  unfold zev at h1;split at h1
  ·rename_i h;rcases jR i a with h3|h3
   ·exact zpu x s a (by omega) i h1 h3
   ·have:i=a:=by omega
    subst this;exact h
  ·omega
theorem zpt(x:zk)(s:List zk):∀a,0<zev x s a->ltB x (s.getD (zev x s a-1) z9)=false
 |0,h=>by simp[zev]at h
 |a+1,h=>by
  unfold zev at h ⊢;split at h
  ·rename_i h1;rw[if_pos h1];exact zpt x s a h
  ·rename_i h1;rw[if_neg h1];simpa using h1
theorem zvd(s:List zk)(x:zk)(h:s.Pairwise leB):(zfK s x).Pairwise leB:=by
 unfold zfK;have hab:=zpu x s s.length (jk _);have hbe:=zpt x s s.length;have hle:=zl0 x s s.length;generalize zev x s s.length=a at *;have hs:=List.pairwise_iff_getElem.1 h;have hx1:∀y∈s.take a,leB y x:=by
  intro y hy;obtain⟨i,hi,rfl⟩:=uL hy;simp at hi;have hb:=hbe (by omega);have hsa:a-1<s.length:=by omega
  have e:s.getD (a-1) z9=s[a-1]:=by simp[hsa]
  rw[e]at hb;have h1:leB s[a-1] x:=(zqc _ _).2 (by simp[hb]);simp only[List.getElem_take];rcases jR i (a-1)with h2|h2
  ·exact zfs (hs i (a-1) (by omega) hsa h2) h1
  ·have:i=a-1:=by omega
   subst this;exact h1
 have hx2:∀y∈s.drop a,leB x y:=by
  intro y hy;obtain⟨i,hi,rfl⟩:=uL hy;simp at hi;simp only[List.getElem_drop];have hai:a+i<s.length:=by omega
  have:=hab (a+i) (by omega) (by omega);have e:s.getD (a+i) z9=s[a+i]:=by simp[hai]
  rw[e]at this;exact zxy this
 have hsp:(s.take a++s.drop a).Pairwise leB:=by rw[kf];exact h
 rw[kD]at hsp ⊢;refine⟨hsp.1,jL.2 ⟨hx2,hsp.2.1⟩,fun y hy z hz=>?_⟩;rcases jr.1 hz with rfl|hz
 ·exact hx1 y hy
 ·exact hsp.2.2 y hy z hz
theorem ziR:∀(l s:List zk),s.Pairwise leB->(l.foldl zfK s).Pairwise leB
 |[],s,h=>h
 |x::l,s,h=>ziR l _ (zvd s x h)
theorem zoI(a b:zk):meets a b = !far a b:=by
 unfold meets far;by_cases h:a.lane=b.lane
 ·by_cases h1:b.lo<=a.hi
  ·have h2:¬a.hi<b.lo:=by omega
   simp[h,h1,h2]
  ·by_cases h2:b.lo-1=a.hi
   ·have h3:¬a.hi<b.lo-1:=by omega
    have h4:a.hi<b.lo:=by omega
    simp[h,h1,h2,h3,h4]
   ·have h3:a.hi<b.lo-1:=by omega
    have h4:a.hi<b.lo:=by omega
    simp[h,h1,h2,h3,h4]
 ·simp[h]
theorem zxD:∀(l out:List zk),l.Pairwise leB->(0<out.length->∀b∈l,leB (out.getD (out.length-1) z9) b)->l.foldl zaQ out=l.foldl zcP out
 |[],out,_,_=>rfl
 |b::l,out,h,ho=>by
  rw[jL]at h;have hst:zaQ out b=zcP out b:=by
   unfold zaQ zcP;rw[zoI];by_cases hc:0<out.length/\far (out.getD (out.length-1) z9) b=false
   ·have hle:=ho hc.1 b jo;rw[if_pos ⟨hc.1,by rw[hc.2];rfl⟩,if_pos hc]
    congr 1
    generalize out.getD (out.length-1) z9=a at *;have hm:=zoI a b;rw[hc.2]at hm;have qi:a.lane=b.lane:=by unfold meets at hm;simp at hm;exact hm.1
    have hlo:a.lo<=b.lo:=by unfold leB at hle;omega
    unfold zeM glue;rw[qi,show min a.lo b.lo=a.lo by omega]
   ·rw[if_neg (by simpa using hc),if_neg hc]
  rw[jI,jI,hst];refine zxD l _ h.2 fun hp c hcm=>?_
  have hbc:=h.1 c hcm;unfold zcP;split
  ·rename_i hcc;simp only[vI];have hl:out.length-1<out.length:=by omega
   have e:(out.set (out.length-1) (glue (out.getD (out.length-1) z9) b)).getD (out.length-1) z9=glue (out.getD (out.length-1) z9) b:=by simp[jx,j7 hl]
   rw[e];have h1:=ho hcc.1 b jo;generalize out.getD (out.length-1) z9=a at *;have:leB (glue a b) b:=by unfold leB glue;unfold leB at h1;simp;have:=zoI a b;rw[hcc.2]at this;unfold meets at this;simp at this;omega
   exact zfs this hbc
  ·have e:(out++[b]).getD ((out++[b]).length-1) z9=b:=by simp[jx]
   rw[e];exact hbc
theorem zAh(l:List zk):zAj l=zcz l:=by
 unfold zAj zcz;rw[zsN,zpi];exact zxD _ [] (ziR _ [] List.Pairwise.nil) (by simp)
theorem zy2:zaH L Cs 400 zgD [] []=some (.w (.c (.bool true)),[]):=by kernel_rfl
theorem zBZ:R L Cs zgD [] []=some (.w (Bo true),[]):=zah.2 ⟨400,zy2⟩
theorem zZQ(l:List zk)(hl:l.length<=19)(hok:∀x∈l,OKB x):R L Cs zEB [.c (.jd (zI l))] []=some (.w (.c (.jd (zI (zcz l)))),[]):=by
 have h:=zZu l hl hok;rw[zAh]at h;rw[zUa zEG rfl];simp[zuk,h]
theorem zvh:∀(l out:List zk),(l.foldl zcP out).length<=l.length+out.length
 |[],out=>by simp
 |b::l,out=>by
  have:=zvh l (zcP out b);have:=zn6 out b;simp only[jI,jG];omega
theorem zkq(l:List zk):(zcz l).length<=l.length:=by
 have h1:=zvh (l.foldl zb5 []) [];have h2:=zqq l [];simp at h1 h2;unfold zcz;omega
def zjD(l:List zk):Nat->zk
 |0=>zqY
 |i+1=>l.getD i z9
theorem zvS{m:zD}(h:zcp m)(l:List zk)(hl:l.length<=100000000000)(i:Nat)(hi:i<l.length)(hr:OKB l[i]):R L Cs zio [.a (zf m),.c (.jd (zI l)),W i] []=some (.w (W (zer m (zjD l i) l[i])),[]):=by
 generalize hp:zjD l i=p;generalize hb:l[i]=b;rw[hb]at hr;obtain⟨bl,lo,hi',vlo,vhi,hold⟩:=b;rw[zUa ziG rfl];by_cases c1:bl<0
 ·have e:zer m p ⟨bl,lo,hi',vlo,vhi,hold⟩=7:=by simp[zer,c1]
  simp[zF,hi,hb,ze,c1,e,zf]
 by_cases c2:(m.je.length:Int)<=bl
 ·have e:zer m p ⟨bl,lo,hi',vlo,vhi,hold⟩=7:=by simp[zer,c2]
  simp[zF,hi,hb,ze,c1,c2,e,zf]
 obtain⟨n,rfl⟩:=jB (show 0<=bl by omega);have hn:n<m.je.length:=by omega
 have hL:=zA3 h hn;have hB:=zhv (h.kind _ (jh hn));have eL:z8 m (n:Int)=m.je[n].len:=by simp[z8,hn]
 have eK:zaK m (n:Int)=m.je[n].kind:=by simp[zaK,hn]
 generalize qi:m.je[n]=ln at *;simp only[zf]at hL;have c1':¬((n:Int)<0):=by omega
 have vP:um m ⟨(n:Int),lo,hi',vlo,vhi,hold⟩->zer m p ⟨(n:Int),lo,hi',vlo,vhi,hold⟩=2:=fun ho=>by
  unfold zer;rw[if_neg (by simp;omega),if_pos ho]
 by_cases d1:lo<0
 ·have e:=vP (by simp only[um,eL,eK];omega);simp[zF,hi,hb,ze,c1',c2,hn,qi,zf,zo,hL,hB,e,d1]
 by_cases d2:hi'<lo
 ·have e:=vP (by simp only[um,eL,eK];omega);simp[zF,hi,hb,ze,c1',c2,hn,qi,zf,zo,hL,hB,e,d1,d2]
 by_cases d3:ln.len<hi'
 ·have e:=vP (by simp only[um,eL,eK];omega);simp[zF,hi,hb,ze,c1',c2,hn,qi,zf,zo,hL,hB,e,d1,d2,d3]
 by_cases d4:vlo<0
 ·have e:=vP (by simp only[um,eL,eK];omega);simp[zF,hi,hb,ze,c1',c2,hn,qi,zf,zo,hL,hB,e,d1,d2,d3,d4]
 by_cases d5:vhi<vlo
 ·have e:=vP (by simp only[um,eL,eK];omega);simp[zF,hi,hb,ze,c1',c2,hn,qi,zf,zo,hL,hB,e,d1,d2,d3,d4,d5]
 by_cases d6:zeR ln.kind<vhi
 ·have e:=vP (by simp only[um,eL,eK];omega);simp[zF,hi,hb,ze,c1',c2,hn,qi,zf,zo,hL,hB,e,d1,d2,d3,d4,d5,d6]
 by_cases d7:hold<0
 ·have e:=vP (by simp only[um,eL,eK];omega);simp[zF,hi,hb,ze,c1',c2,hn,qi,zf,zo,hL,hB,e,d1,d2,d3,d4,d5,d6,d7]
 by_cases d8:ln.len<hold
 ·have e:=vP (by simp only[um,eL,eK];omega);simp[zF,hi,hb,ze,c1',c2,hn,qi,zf,zo,hL,hB,e,d1,d2,d3,d4,d5,d6,d7,d8]
 have e0:¬um m ⟨(n:Int),lo,hi',vlo,vhi,hold⟩:=by simp only[um,eL,eK];omega
 have hlw:IntKind.i64.wrap (lo-1)=lo-1:=zTd _ (by omega) (by have:lo<=9223372036854775807:=hr.lo2;omega);have e11:zmM p ⟨(n:Int),lo,hi',vlo,vhi,hold⟩->zer m p ⟨(n:Int),lo,hi',vlo,vhi,hold⟩=11:=fun ho=>by
  unfold zer;rw[if_neg (by simp;omega),if_neg e0,if_pos ho]
 have e00:¬zmM p ⟨(n:Int),lo,hi',vlo,vhi,hold⟩->zer m p ⟨(n:Int),lo,hi',vlo,vhi,hold⟩=0:=fun ho=>by
  unfold zer;rw[if_neg (by simp;omega),if_neg e0,if_neg ho]
 cases i with
 |zero =>
  simp only[zjD]at hp;have e:=e00 (by rw[<-hp];unfold zmM;simp<;>omega);simp[zF,hi,hb,ze,c1',c2,hn,qi,zf,zo,hL,hB,e,d1,d2,d3,d4,d5,d6,d7,d8]
 |succ i =>
  have hi2:i<l.length:=by omega
  have e1:l.getD i z9=l[i]:=by simp[hi2]
  simp only[zjD,e1]at hp;have hwi:IntKind.i64.wrap (i:Int)=(i:Int):=zTd _ (by omega) (by omega);have hg:(0:Int)<(i:Int)+1:=by omega
  have x1:(0:Int)<=(i:Int)+1:=by omega
  have x2:(i:Int)+1<(l.length:Int):=by omega
  have x3:((i:Int)+1).toNat=i+1:=by omega
  by_cases o1:(n:Int)<p.lane
  ·have e:=e11 (by unfold zmM;simp;omega);simp[zF,hi,hb,ze,c1',c2,hn,qi,zf,zo,hL,hB,e,d1,d2,d3,d4,d5,d6,d7,d8,hg,hi2,hp,hwi,x1,x2,x3,o1]
  by_cases o2:(n:Int)=p.lane
  ·have o2':p.lane=(n:Int):=o2.symm;by_cases o3:lo-1<=p.hi
   ·have e:=e11 (by unfold zmM;simp;omega);simp[zF,hi,hb,ze,c1',c2,hn,qi,zf,zo,hL,hB,e,d1,d2,d3,d4,d5,d6,d7,d8,hg,hi2,hp,hwi,x1,x2,x3,o2',o3,hlw]
   ·have e:=e00 (by unfold zmM;simp;omega);simp[zF,hi,hb,ze,c1',c2,hn,qi,zf,zo,hL,hB,e,d1,d2,d3,d4,d5,d6,d7,d8,hg,hi2,hp,hwi,x1,x2,x3,o2',o3,hlw]
  ·have e:=e00 (by unfold zmM;simp;omega);have b2:((n:Int)==p.lane)=false:=by simp[o2]
   simp[zF,hi,hb,ze,c1',c2,hn,qi,zf,zo,hL,hB,e,d1,d2,d3,d4,d5,d6,d7,d8,hg,hi2,hp,hwi,x1,x2,x3,o1,o2,b2]
theorem zwy(l:List zk)(i:Nat)(hi:i<l.length):zjD l (i+1)=l[i]:=by simp[zjD,hi]
theorem zr5{m:zD}(h:zcp m)(k:zci)(hk:k.jy.length<=100000000000)(hok:∀b∈k.jy,OKB b):∀(r:List zk) (i:Nat),k.jy.drop i=r->i<=k.jy.length ->
  ∃E',E'.get 5=some (.w (W (zls m (zjD k.jy i) r)))/\Y L Cs zaX (some [5,7,2,3]) 3 [(5,.w (W 0)),(7,.w (W i)),(2,.w (Pt 0)),(3,.w (Pt 1))] [bx 5 (zf m),bx 6 (zG k),bxv 1 4 (zch k.ego)]=some (.exit 0,E',[bx 5 (zf m),bx 6 (zG k),bxv 1 4 (zch k.ego)]):=by
 intro r;induction r with
 |nil =>
  intro i hd hi;obtain rfl:=zUb hd hi;refine⟨[(65,.w (Bo false)),(5,.w (W 0)),(7,.w (W k.jy.length)),(2,.w (Pt 0)),(3,.w (Pt 1))],by simp[Env.get,zls],?_⟩;rw[zj zaX.eq_1];simp[zG]
 |cons b r ih =>
  intro i hd hi;obtain⟨hil,hb,hd'⟩:=zL hd;have hw:=zB (i:=i) (by omega);have hc:=zvS h k.jy hk i hil (hok _ (jh hil));rw[hb]at hc;have yW:∀e,zer m (zjD k.jy i) b=e->Y L Cs zaX (some [5,7,2,3]) 3 [(5,.w (W 0)),(7,.w (W i)),(2,.w (Pt 0)),(3,.w (Pt 1))] [bx 5 (zf m),bx 6 (zG k),bxv 1 4 (zch k.ego)]=Y L Cs zaX (some [5,7,2,3]) 3 [(5,.w (W e)),(7,.w (W (i+1:Nat))),(2,.w (Pt 0)),(3,.w (Pt 1))] [bx 5 (zf m),bx 6 (zG k),bxv 1 4 (zch k.ego)]:=by
   intro e he;rw[he]at hc;simp only[zf]at hc;rw[zj zaX.eq_1];simp[hil,zG,zf,hc,hw]
  by_cases hz:zer m (zjD k.jy i) b=0
  ·obtain⟨E',h1,h2⟩:=ih (i+1) hd' hil;rw[zwy _ _ hil,hb]at h1;refine⟨E',by rw[h1,zls,if_neg (by simp[hz])],?_⟩;rw[yW 0 hz,h2]
  ·refine⟨[(65,.w (Bo false)),(5,.w (W (zer m (zjD k.jy i) b))),(7,.w (W (i+1:Nat))),(2,.w (Pt 0)),(3,.w (Pt 1))],by simp[Env.get,zls,hz],?_⟩;have hz':(zer m (zjD k.jy i) b==0)=false:=by simp[hz]
   rw[yW _ rfl,zj zaX.eq_1];generalize zer m (zjD k.jy i) b=e at *;by_cases hlt:(i:Int)+1<k.jy.length
   ·have Ab:i+1<k.jy.length:=by omega
    simp[zG,hz,hz',hlt,Ab]
   ·have Ab:¬i+1<k.jy.length:=by omega
    simp[zG,hlt,Ab]
theorem zxh{m:zD}(h:zcp m)(k:zci)(hk:k.jy.length<=100000000000)(hok:∀b∈k.jy,OKB b):R L Cs zkF [.a (zf m),.a (zG k)] []=some (.w (W (zdf m k)),[]):=by
 have hck:=h.Ao;obtain⟨E',hg,hl⟩:=zr5 h k hk hok k.jy 0 rfl (jz _);simp only[zf,zG,jt,bx,bxv,zch,zjD]at hl hck hg;rw[zUa zk4 rfl];by_cases d1:k.tick<0
 ·have e:zdf m k=2:=by rw[zdf,if_pos (by unfold ziI;omega)]
  simp[zaj,zf,zG,hck,e,d1]
 by_cases d2:zsa<k.tick
 ·have e:zdf m k=2:=by rw[zdf,if_pos (by unfold ziI;omega)]
  simp[zaj,zf,zG,hck,e,d1,d2]
 by_cases d3:k.ego.slo<0
 ·have e:zdf m k=2:=by rw[zdf,if_pos (by unfold ziI;omega)]
  simp[zaj,zf,zG,hck,e,d1,d2,d3]
 by_cases d4:k.ego.shi<k.ego.slo
 ·have e:zdf m k=2:=by rw[zdf,if_pos (by unfold ziI;omega)]
  simp[zaj,zf,zG,hck,e,d1,d2,d3,d4]
 by_cases d5:zsa<k.ego.shi
 ·have e:zdf m k=2:=by rw[zdf,if_pos (by unfold ziI;omega)]
  simp[zaj,zf,zG,hck,e,d1,d2,d3,d4,d5]
 by_cases d6:k.ego.vlo<0
 ·have e:zdf m k=2:=by rw[zdf,if_pos (by unfold ziI;omega)]
  simp[zaj,zf,zG,hck,e,d1,d2,d3,d4,d5,d6]
 by_cases d7:k.ego.vhi<k.ego.vlo
 ·have e:zdf m k=2:=by rw[zdf,if_pos (by unfold ziI;omega)]
  simp[zaj,zf,zG,hck,e,d1,d2,d3,d4,d5,d6,d7]
 by_cases d8:2000<k.ego.vhi
 ·have e:zdf m k=2:=by rw[zdf,if_pos (by unfold ziI;omega)]
  simp[zaj,zf,zG,hck,e,d1,d2,d3,d4,d5,d6,d7,d8]
 have e:zdf m k=zls m zqY k.jy:=by rw[zdf,if_neg (by unfold ziI;omega)]
 rw[e];simp[zaj,zf,zG,hck,hl,hg,d1,d2,d3,d4,d5,d6,d7,d8]
abbrev zmN:Sh:=.int .i64
def zk0(n:Int):Prop:=-9223372036854775808<=n/\n<=9223372036854775807
structure RB(b:zk):Prop where
 lane:zk0 b.lane
 lo:zk0 b.lo
 hi:zk0 b.hi
 vlo:zk0 b.vlo
 vhi:zk0 b.vhi
 hold:zk0 b.hold
theorem RB.ok{b:zk}(h:RB b):OKB b:=⟨h.lo.1,h.lo.2,h.hi.1,h.hi.2⟩
theorem zEC{m:zD}(h:zcp m):∀(r:List Int) (a:Int),zj2 m r->0<=a->0<=zmd m a r/\zmd m a r<=a+r.length*1000000
 |[],a,_,ha=>by simp[zmd];exact ha
 |x::r,a,hon,ha=>by
  have hle:=zcX h (hon x (by simp));have:=zEC h r (a+z8 m x) (fun y hy=>hon y (by simp[hy])) (by omega);simp only[zmd,jG];omega
theorem zxB:∀{rows:List (List Cl)},(∀r∈rows,zfo zmN r)->∃l,rows=zu l/\∀x∈l,zk0 x
 |[],_=>⟨[],rfl,by simp⟩
 |r::rows,h=>by
  have h1:=h r (jo ..);simp only[zfo]at h1;obtain⟨a,rfl,q⟩:=h1;obtain⟨l,rfl,hl⟩:=zxB fun x hx=>h x (jl _ hx)
  refine⟨a::l,rfl,fun x hx=>?_⟩;rcases jr.1 hx with rfl|hx
  ·exact q
  ·exact hl x hx
theorem zEn(n k:Int)(hk:0<k):n % k=if n.tmod k<0 then n.tmod k+k else n.tmod k:=by
 have h1:=qf n (show k≠0 by omega);have h2:=kV n hk;have h:=@Int.tmod_eq_emod n k;have h3:(k.natAbs:Int)=k:=by omega
 split at h
 ·simp at h;rw[h];split<;>omega
 ·rw[h3]at h;rw[h];split<;>omega
theorem zEW(n k:Int)(hk:0<k)(hk2:k<=4000000000000000000):R L Cs zny [W n,W k] []=some (.w (W (n % k)),[]):=by
 rw[zUa znH rfl];have he:=zEn n k hk;have hb:=kV n hk;have hb0:=qf n (show k≠0 by omega);have hz:(k==0)=false:=beq_false_of_ne (by omega);have hz':k≠0:=by omega
 by_cases h:n.tmod k<0
 ·rw[if_pos h]at he;have e:IntKind.i64.wrap (n.tmod k+k)=n % k:=by rw[<-he];exact zTd _ (by omega) (by omega)
  simp[zeK,h,e,hz,hz']
 ·rw[if_neg h]at he;rw[he]at *;simp[zeK,h,hz,hz']
theorem zD0(n k:Int)(hk:0<k)(hk2:k<=4000000000000000000):R L Cs zEd [W n,W k] []=some (.w (W (n % k)),[]):=by
 rw[zUa zEh rfl];have he:=zEn n k hk;have hb:=kV n hk;have hb0:=qf n (show k≠0 by omega);have hz:(k==0)=false:=beq_false_of_ne (by omega);have hz':k≠0:=by omega
 by_cases h:n.tmod k<0
 ·rw[if_pos h]at he;have e:IntKind.i64.wrap (n.tmod k+k)=n % k:=by rw[<-he];exact zTd _ (by omega) (by omega)
  simp[zDP,h,e,hz,hz']
 ·rw[if_neg h]at he;rw[he]at *;simp[zDP,h,hz,hz']
structure Bit where
 lane:Int
 lo:Int
 span:Int
 v:Int
 more:Int
 hold:Int
def zEx(b:Bit):List Cl:=[I b.lane,I b.lo,I b.span,I b.v,I b.more,I b.hold]
def zDN(m:zD)(x:Bit):zk :=
 let ln:=x.lane % m.je.length;let n:=z8 m ln;let v:=zeR (zaK m ln);let lo:=x.lo % (n+1);let hi:=lo+x.span % (n-lo+1);let vlo:=x.v % (v+1)
 ⟨ln,lo,hi,vlo,vlo+x.more % (v-vlo+1),if x.hold % 4=0 then hi+(x.hold.tdiv 4) % (n-hi+1) else 0⟩
structure zFG(m:zD)(b:zk):Prop where
 lane:0<=b.lane/\b.lane<m.je.length
 lo:0<=b.lo
 le:b.lo<=b.hi
 hi:b.hi<=z8 m b.lane
 vlo:0<=b.vlo
 vle:b.vlo<=b.vhi
 vhi:b.vhi<=zeR (zaK m b.lane)
 hold:b.hold=0\/b.hi<=b.hold/\b.hold<=z8 m b.lane
theorem zEX(k:Int):0<=zeR k/\zeR k<=10000:=by
 unfold zeR;split<;>(try split)<;>omega
theorem zDJ(a b:Int)(h:0<b):0<=a % b/\a % b<b:=⟨qf _ (by omega),kV _ h⟩
theorem zEA{m:zD}(h:zcp m)(hne:0<m.je.length)(x:Bit):zFG m (zDN m x):=by
 have h1:=zDJ x.lane m.je.length (by omega);have h2:=zcX h h1;have h3:=zEX (zaK m (x.lane % m.je.length));simp only[zDN];generalize hln:x.lane % m.je.length=ln at *;generalize hn:z8 m ln=n at *;generalize hv:zeR (zaK m ln)=v at *;have h4:=zDJ x.lo (n+1) (by omega);generalize hlo:x.lo % (n+1)=lo at *;have h5:=zDJ x.span (n-lo+1) (by omega);generalize hsp:x.span % (n-lo+1)=sp at *;have h6:=zDJ x.v (v+1) (by omega);generalize hvl:x.v % (v+1)=vlo at *;have h7:=zDJ x.more (v-vlo+1) (by omega);have h8:=zDJ (x.hold.tdiv 4) (n-(lo+sp)+1) (by omega);refine⟨h1,h4.1,?_,?_,h6.1,?_,?_,?_⟩<;>dsimp only
 ·omega
 ·omega
 ·omega
 ·omega
 ·split
  ·right;omega
  ·left;rfl
theorem tdiv4{n:Int}(h:zk0 n):IntKind.i64.wrap (n.tdiv 4)=n.tdiv 4:=by
 obtain⟨h1,h2⟩:=h;have e:=@Int.tdiv_eq_ediv n 4;have:-4000000000000000000<=n.tdiv 4/\n.tdiv 4<=4000000000000000000:=by
  rw[e];split
  ·omega
  ·have:Int.sign 4=1:=rfl;omega
 exact zTd _ (by omega) (by omega)
theorem zEV{m:zD}(h:zcp m){x:Int}(hx:0<=x/\x<m.je.length):R L Cs zDZ [.a (zf m),W x] []=some (.w (W (z8 m x)),[]):=by
 obtain⟨n,rfl⟩:=jB hx.1;have hn:n<m.je.length:=by omega
 have e:z8 m n=m.je[n].len:=by simp[z8,hn]
 rw[e];exact zEQ h hn
theorem zEq{m:zD}(h:zcp m)(hne:0<m.je.length)(x:Bit)(hx:zk0 x.hold):R L Cs zEj [.a (zf m),.a (zEx x)] []=some (.w (.a (ze (zDN m x))),[]):=by
 have hsm:=h.small.je;have g1:=zEW x.lane m.je.length (by omega) (by omega);have h1:=zDJ x.lane m.je.length (by omega);have h2:=zcX h h1;have g2:=zEV h h1;simp only[zDN,ze];generalize x.lane % (m.je.length:Int)=ln at *;obtain⟨j,rfl⟩:=jB h1.1;have hj:j<m.je.length:=by omega
 have eK:zaK m (j:Int)=m.je[j].kind:=by simp[zaK,hj]
 have g3:=zhv (h.kind _ (jh hj));have h3:=zEX m.je[j].kind;rw[eK];generalize z8 m (j:Int)=n at *;generalize hv:zeR m.je[j].kind=v at *;have w1:=kH (n+1);have g4:=zD0 x.lo (n+1) (by omega) (by omega);have h4:=zDJ x.lo (n+1) (by omega);generalize x.lo % (n+1)=lo at *;have w2:=kH (n-lo);have w3:=kH (n-lo+1);have g5:=zD0 x.span (n-lo+1) (by omega) (by omega);have h5:=zDJ x.span (n-lo+1) (by omega);generalize x.span % (n-lo+1)=sp at *;have w4:=kH (lo+sp);have w5:=kH (v+1);have g6:=zD0 x.v (v+1) (by omega) (by omega);have h6:=zDJ x.v (v+1) (by omega);generalize x.v % (v+1)=vlo at *;have w6:=kH (v-vlo);have w7:=kH (v-vlo+1);have g7:=zD0 x.more (v-vlo+1) (by omega) (by omega);have h7:=zDJ x.more (v-vlo+1) (by omega);generalize x.more % (v-vlo+1)=mo at *;have w8:=kH (vlo+mo);have g8:=zD0 x.hold 4 (by omega) (by omega);have w9:=kH (n-(lo+sp));have w10:=kH (n-(lo+sp)+1);have wq:=tdiv4 hx;have g9:=zD0 (x.hold.tdiv 4) (n-(lo+sp)+1) (by omega) (by omega);have h9:=zDJ (x.hold.tdiv 4) (n-(lo+sp)+1) (by omega);generalize x.hold.tdiv 4 % (n-(lo+sp)+1)=ho at *;have w11:=kH (lo+sp+ho);simp only[zf]at g2;rw[zUa zEk rfl];by_cases c:x.hold % 4=0
 ·simp[zDQ,zEx,zf,zo,g1,g2,g3,g4,g5,g6,g7,g8,g9,w1,w2,w3,w4,w5,w6,w7,w8,w9,w10,w11,wq,hj,hv,c,zg]
 ·have cb:(x.hold % 4==0)=false:=by simp[c]
  simp[zDQ,zEx,zf,zo,g1,g2,g3,g4,g5,g6,g7,g8,w1,w2,w3,w4,w5,w6,w7,w8,hj,hv,c,cb,zg]
theorem ztL{m:zD}(h:zcp m):∀(r:List zfn) (i:Nat) (out:List Int),m.je.drop i=r->i<=m.je.length->out.length<=i ->
  Y L Cs zbx (some [3,4,1]) 3 [(3,.w (.c (sl 2 1 (zu out)))),(4,.w (W i)),(1,.w (Pt 0))] [bx 5 (zf m),gb 1,some (own 1 (zu out))] =
    some (.exit 0,[(9,.w (Bo false)),(3,.w (.c (sl 2 1 (zu (out++zbK m i r))))),(4,.w (W m.je.length)),(1,.w (Pt 0))],[bx 5 (zf m),gb 1,some (own 1 (zu (out++zbK m i r)))]):=by
 intro r;induction r with
 |nil =>
  intro i out hd hi ho;obtain rfl:=zUb hd hi;rw[zj zbx.eq_1];simp[zbK,zf]
 |cons l r ih =>
  intro i out hd hi ho;obtain⟨hil,hl,hd'⟩:=zL hd;have hn:=h.small.je;have hw:=zB (i:=i) (by omega);have hb:=zpG m i (by omega) (fun l hl=>by have:=h.small.next l hl;omega);simp only[zf]at hb;have jO:(out.length+1)*8<=140737488355328:=by omega
  rw[zbK];by_cases he:zes i 0 m.je=[]
  ·rw[if_pos he,show out++(i:Int)::zbK m (i+1) r=(out++[(i:Int)])++zbK m (i+1) r by simp,<-ih (i+1) (out++[(i:Int)]) hd' hil (by simp;omega),zj zbx.eq_1];rw[he]at hb;simp at hb;simp[hil,zf,hb,hw,jO,zg,zH]
  ·rw[if_neg he,<-ih (i+1) out hd' hil (by omega),zj zbx.eq_1];have hz:(((zes i 0 m.je).length:Int)==0)=false:=by
    have:0<(zes i 0 m.je).length:=kM.2 he;exact beq_false_of_ne (by omega)
   simp[hil,zf,hb,hw,he,hz,zg,zH]
theorem zzc{m:zD}(h:zcp m):R L Cs zjm [.a (zf m)] []=some (.w (.c (.jd (zu (zbK m 0 m.je)))),[]):=by
 have hl:=ztL h m.je 0 [] rfl (jz _) (jz _);simp only[zf,jt,jK,zay,sl,own,jA,zfq]at hl;rw[zUa zjy rfl];simp[zd0,zf,hl,zg]
theorem zv4{q:Nat}(h:q<2000000):IntKind.i64.wrap (q:Int)=(q:Int):=zTd _ (by omega) (by omega)
def zS(m:zD)(a:Int):List Int:=((m.je[a.toNat]?).map zfn.next).getD []
def goR(m:zD):Nat->Int->Nat->List Int
 |0,_,_=>[]
 |f+1,a,n=>if(zS m a).length=0 then [] else(zS m a).getD (n % (zS m a).length) 0::goR m f ((zS m a).getD (n % (zS m a).length) 0) (n / (zS m a).length)
theorem zEZ(m:zD):∀(f:Nat) (a:Int) (n:Nat),(goR m f a n).length<=f
 |0,_,_=>by simp[goR]
 |f+1,a,n=>by
  unfold goR;split
  ·simp
  ·have:=zEZ m f ((zS m a).getD (n % (zS m a).length) 0) (n / (zS m a).length);rw[jG];omega
theorem zEL{m:zD}(h:zcp m):∀(f:Nat) (a:Int) (n:Nat) (out:List Int),out.length+f=8->0<=a->a<m.je.length->n<2000000 ->
  ∃b t,Y L Cs zDH (some [6,1,7,2]) 3 [(6,.w (W a)),(1,.w (W n)),(7,.w (.c (sl 2 1 (zu out)))),(2,.w (Pt 0))] [bx 5 (zf m),gb 1,some (own 1 (zu out))] =
   some (.exit 0,[(41,.w (Bo false)),(6,.w (W b)),(1,.w (W t)),(7,.w (.c (sl 2 1 (zu (out++goR m f a n))))),(2,.w (Pt 0))],[bx 5 (zf m),gb 1,some (own 1 (zu (out++goR m f a n)))]):=by
 intro f;induction f with
 |zero =>
  intro a n out hf ha1 ha2 hn;obtain⟨j,rfl⟩:=jB ha1;have hj:j<m.je.length:=by omega
  refine⟨(j:Int),(n:Int),?_⟩;rw[zj zDH.eq_1];have h8:¬((out.length:Int)<8):=by omega
  by_cases c:0<m.je[j].next.length
  ·simp[goR,zf,zo,hj,c,h8]
  ·simp[goR,zf,zo,hj,c]
 |succ f ih =>
  intro a n out hf ha1 ha2 hn;obtain⟨j,rfl⟩:=jB ha1;have hj:j<m.je.length:=by omega
  have h8:(out.length:Int)<8:=by omega
  have en:zS m (j:Int)=m.je[j].next:=by simp[zS,hj]
  by_cases c:0<m.je[j].next.length
  ·have hk:=h.small.next _ (jh hj);have hm:n % m.je[j].next.length<m.je[j].next.length:=qp _ c;have hq:n / m.je[j].next.length<=n:=Nat.div_le_self _ _;have hval:=h.small.valid _ (jh hj) _ (jh hm);rw[goR,en,if_neg (by omega)];have eg:m.je[j].next.getD (n % m.je[j].next.length) 0=m.je[j].next[n % m.je[j].next.length]:=by simp[jx,hm]
   rw[eg];obtain⟨b,t,hy⟩:=ih (m.je[j].next[n % m.je[j].next.length]) (n / m.je[j].next.length) (out++[m.je[j].next[n % m.je[j].next.length]]) (by simp;omega) hval.1 hval.2 (by omega);refine⟨b,t,?_⟩;rw[show out++(m.je[j].next[n % m.je[j].next.length]::goR m f m.je[j].next[n % m.je[j].next.length] (n / m.je[j].next.length))=(out++[m.je[j].next[n % m.je[j].next.length]])++goR m f m.je[j].next[n % m.je[j].next.length] (n / m.je[j].next.length) by simp,<-hy,zj zDH.eq_1];clear ih hy;have e1:(n:Int).tmod (m.je[j].next.length:Int)=((n % m.je[j].next.length:Nat):Int):=by
    rw[jH (by omega)];rfl
   have e2:(n:Int).tdiv (m.je[j].next.length:Int)=((n / m.je[j].next.length:Nat):Int):=by
    rw[jS (by omega)];rfl
   have e3:IntKind.i64.wrap ((n / m.je[j].next.length:Nat):Int)=((n / m.je[j].next.length:Nat):Int):=zv4 (by omega);have hz:((m.je[j].next.length:Int)==0)=false:=beq_false_of_ne (by omega);have hz':(m.je[j].next.length:Int)≠0:=by omega
   have hz'':m.je[j].next≠[]:=kM.1 c;have jO:(out.length+1)*8<=140737488355328:=by omega
   generalize hq2:n / m.je[j].next.length=q at *;generalize hm2:n % m.je[j].next.length=p at *;generalize hln:m.je[j]=ln at *;simp[zf,zo,hj,hln,c,h8,e1,e2,e3,hz,hz',hz'',hm,jO,zg,zH]
  ·refine⟨(j:Int),(n:Int),?_⟩;rw[goR,en,if_pos (by omega),zj zDH.eq_1];simp[zf,zo,hj,c]
def zsP(k:Nat)(r:Int):List Zon:=match k with
 |0=>[]
 |1=>[⟨[⟨0,28000,32000,r⟩,⟨1,18000,22000,2-2*r⟩],0⟩]
 |2=>[⟨[⟨0,28000,32000,r⟩,⟨1,18000,22000,2-2*r⟩],1⟩]
 |3=>[]
 |4=>[⟨[⟨0,25000,30000,1⟩,⟨1,20000,26000,0⟩,⟨2,0,5000,0⟩],0⟩]
 |5=>[⟨[⟨1,14000,16000,0⟩,⟨2,6000,10000,3⟩],0⟩]
 |_=>[⟨[⟨1,14000,18000,1⟩,⟨3,10000,14000,0⟩],if r=1 then 1 else 0⟩,⟨[⟨2,14000,21000,1⟩,⟨3,14500,23000,0⟩],if r=1 then 2 else 0⟩]
def sgP(o a b:Int):Sgn:=⟨o,[⟨12,[a]⟩,⟨5,[]⟩,⟨9,[b]⟩,⟨4,[]⟩]⟩
def ssP(k:Nat)(r o1 o2 o3:Int):List Sgn:=match k with
 |2=>[sgP o1 0 1]
 |6=>if r=1 then [sgP o2 1 3,sgP o3 2 3] else []
 |_=>[]
theorem zxQ(k:Nat)(hk:k<7)(r:Int):zO k r=zk8 (zsP k r):=by
 match k,hk with
 |0,_ |1,_ |2,_ |3,_ |4,_ |5,_ |6,_=>simp[zO,zsP,zk8,zdP,zfa,zkl,zeB,zdK]
theorem zzt(o a b:Int):zaY o a b=zeq (sgP o a b):=by simp[zaY,zeq,sgP,zje,zr6]
theorem zuN(k:Nat)(hk:k<7)(r o1 o2 o3:Int):zt k r o1 o2 o3=zjd (ssP k r o1 o2 o3):=by
 match k,hk with
 |0,_ |1,_ |3,_ |4,_ |5,_=>simp[zt,ssP,zjd]
 |2,_=>simp[zt,ssP,zjd,zzt]
 |6,_ =>
  simp only[zt,ssP];split<;>simp[zjd,zzt]
theorem zwk(o a b:Int):zvY (sgP o a b).v8:=⟨by simp[sgP],by simp[sgP],by simp[sgP],by simp[sgP]⟩
theorem zDs(k:Nat)(hk:k<7){lim r o1 o2 o3 v w b t:Int}(h:zp2 lim r o1 o2 o3 v w b t):Zd (zq k lim r o1 o2 o3 v w b t) (zsP k r) (ssP k r o1 o2 o3) where
 z:=zxQ k hk r
 s:=zuN k hk r o1 o2 o3
 few:=by
  match k,hk with
  |0,_ |1,_ |2,_ |3,_ |4,_ |5,_ |6,_=>simp[zsP]
 sfew:=by
  match k,hk with
  |0,_ |1,_ |2,_ |3,_ |4,_ |5,_=>simp[ssP]
  |6,_=>simp only[ssP];split<;>simp
 sig:=by
  match k,hk with
  |0,_ |1,_ |2,_ |3,_ |4,_ |5,_=>simp[ssP,zsP]
  |6,_ =>
   rcases h.r with c|c<;>(subst c;simp[ssP,zsP])
 pfew:=by
  match k,hk with
  |0,_ |1,_ |2,_ |3,_ |4,_ |5,_ |6,_=>simp[zsP]
 ph:=by
  match k,hk with
  |0,_ |1,_ |3,_ |4,_ |5,_=>simp[ssP]
  |2,_=>simp[ssP];exact zwk _ _ _
  |6,_ =>
   simp only[ssP];split
   ·simp;exact⟨zwk _ _ _,zwk _ _ _⟩
   ·simp
theorem zDu(k:Nat)(hk:k<7)(r:Int):∀z∈zsP k r,(z.parts.map Prt.lane).Nodup:=by
 match k,hk with
 |0,_ |1,_ |2,_ |3,_ |4,_ |5,_ |6,_=>simp[zsP]
theorem zlX(ss:List Sgn)(lane tick:Int)(z:Zon):zff ss lane tick z=[]\/∃p,zjF z lane=some p/\zff ss lane tick z=[p.lo]:=by
 unfold zff;split
 ·exact .inl rfl
 ·split
  ·exact .inl rfl
  ·rename_i p hp;split
   ·exact .inl rfl
   ·exact .inr ⟨p,hp,rfl⟩
theorem zDl(k:Nat)(hk:k<7)(r o1 o2 o3 lane tick:Int):Asc ((zsP k r).flatMap (zff (ssP k r o1 o2 o3) lane tick)):=by
 have one:∀z,Asc ([z].flatMap (zff (ssP k r o1 o2 o3) lane tick)):=fun z=>by
  rcases zlX (ssP k r o1 o2 o3) lane tick z with h |⟨p,_,h⟩<;>simp[h]
 match k,hk with
 |0,_ |3,_=>simp[zsP]
 |1,_ |2,_ |4,_ |5,_=>exact one _
 |6,_ =>
  simp only[zsP,jN,List.flatMap_nil,kP];rcases zlX (ssP 6 r o1 o2 o3) lane tick ⟨[⟨1,14000,18000,1⟩,⟨3,10000,14000,0⟩],if r=1 then 1 else 0⟩with h |⟨p,hp,h⟩<;>rcases zlX (ssP 6 r o1 o2 o3) lane tick ⟨[⟨2,14000,21000,1⟩,⟨3,14500,23000,0⟩],if r=1 then 2 else 0⟩with h' |⟨p',hp',h'⟩
  ·simp[h,h']
  ·simp[h,h']
  ·simp[h,h']
  ·rw[h,h'];have e1:p.lane=lane/\(p.lo=14000/\p.lane=1\/p.lo=10000/\p.lane=3):=by
    have:=List.find?_some hp;have hm:=u5 hp;simp at this hm;rcases hm with rfl|rfl<;>simp_all
   have e2:p'.lane=lane/\(p'.lo=14000/\p'.lane=2\/p'.lo=14500/\p'.lane=3):=by
    have:=List.find?_some hp';have hm:=u5 hp';simp at this hm;rcases hm with rfl|rfl<;>simp_all
   simp;omega
structure zmX(m:zD):Prop where
 few:m.je.length<=4
 nx:∀a,(zS m a).length<=2
 leaf:∀a,∀x∈zS m a,zS m x=[]
 up:∀a,∀x∈zS m a,a<x
 kn:∀a,∀x∈zS m a,zaK m x=zaK m a
theorem zyt{m:zD}{a:Int}(h:m.je.length<=a.toNat):zS m a=[]:=by
 simp[zS,jJ h]
theorem zCl(k:Nat)(hk:k<7)(lim r o1 o2 o3 v w b t:Int):zmX (zq k lim r o1 o2 o3 v w b t):=by
 have key:∀a:Int,a.toNat=0\/a.toNat=1\/a.toNat=2\/a.toNat=3\/4<=a.toNat:=fun a=>by omega
 have few:(zq k lim r o1 o2 o3 v w b t).je.length<=4:=by
  match k,hk with
  |0,_ |1,_ |2,_ |3,_ |4,_ |5,_ |6,_=>simp[zq,zy]
 have out:∀a:Int,4<=a.toNat->zS (zq k lim r o1 o2 o3 v w b t) a=[]:=fun a h=>zyt (by omega)
 refine⟨few,fun a=>?_,fun a=>?_,fun a=>?_,fun a=>?_⟩
 all_goals
  rcases key a with h|h|h|h|h
  case inr.inr.inr.inr=>simp[out a h]
 all_goals
  clear out few
  match k,hk with
  |0,_ |1,_ |2,_ |3,_ |4,_ |5,_ |6,_ =>
   first
    |(simp[zS,zq,zy,h,zQ];done)
    |(simp[zS,zq,zy,h,zQ];omega)
    |(simp[zS,zaK,zq,zy,h,zQ];done)
structure zmq(m:zD)(zs:List Zon)(ss:List Sgn):Prop where
 good:zcp m
 one:zmp m
 shal:zmX m
 zd:Zd m zs ss
 asc:∀lane tick,Asc (zs.flatMap (zff ss lane tick))
 nd:∀z∈zs,(z.parts.map Prt.lane).Nodup
 pv:∀z∈zs,∀p∈z.parts,(0<=p.lane/\p.lane<m.je.length)/\0<=p.lo/\p.lo<p.hi/\p.hi<=z8 m p.lane/\0<=p.yN/\p.yN<=100
theorem zDt(k:Nat)(hk:k<7){lim r o1 o2 o3 v w b t:Int}(h:zp2 lim r o1 o2 o3 v w b t):∀z∈zsP k r,∀p∈z.parts,(0<=p.lane/\p.lane<(zq k lim r o1 o2 o3 v w b t).je.length)/\0<=p.lo/\p.lo<p.hi/\p.hi<=z8 (zq k lim r o1 o2 o3 v w b t) p.lane/\0<=p.yN/\p.yN<=100:=by
 have hr:=h.r
 match k,hk with
 |0,_ |3,_=>simp[zsP]
 |1,_ |2,_ |4,_ |5,_ |6,_=>simp[zsP,zq,zy,z8,zQ];try omega
theorem zCE(k:Nat)(hk:k<7){lim r o1 o2 o3 v w b t:Int}(h:zp2 lim r o1 o2 o3 v w b t):zmq (zq k lim r o1 o2 o3 v w b t) (zsP k r) (ssP k r o1 o2 o3):=by
 refine⟨?_,?_,zCl k hk _ _ _ _ _ _ _ _ _,zDs k hk h,zDl k hk r o1 o2 o3,zDu k hk r,zDt k hk h⟩
 ·exact zTy k hk h
 ·match k,hk with
  |0,_=>exact zAd _ _ _ _ _ _ _ _ _
  |1,_=>exact zAc _ _ _ _ _ _ _ _ _
  |2,_=>exact zAb _ _ _ _ _ _ _ _ _
  |3,_=>exact zAa _ _ _ _ _ _ _ _ _
  |4,_=>exact zz9 _ _ _ _ _ _ _ _ _
  |5,_=>exact zz8 _ _ _ _ _ _ _ _ _
  |6,_=>exact zz7 _ _ _ _ _ _ _ _ _
theorem zA5(n:Int):∃k lim r o1 o2 o3 v w b t,k<7/\zp2 lim r o1 o2 o3 v w b t/\R L Cs zY [W n] []=some (.w (.a (zf (zq k lim r o1 o2 o3 v w b t))),[]):=by
 have hN:0<=n % 16777216/\n % 16777216<16777216:=by omega
 have h7:0<=(n % 16777216).tmod 7/\(n % 16777216).tmod 7<7:=by
  rw[jH hN.1];omega
 have hr:=zE _ 28 2 hN (by decide) (by decide);have nu:=zBA n;exact⟨((n % 16777216).tmod 7).toNat,_,_,_,_,_,_,_,_,_,by omega,nu,zTw _ n (by omega) (by omega)⟩
structure znd(e:Ego):Prop where
 s:0<=e.slo/\e.slo<=e.shi/\e.shi<=1099511627776
 v:0<=e.vlo/\e.vlo<=e.vhi/\e.vhi<=2000
structure VB(m:zD)(b:zk):Prop where
 lane:0<=b.lane/\b.lane<m.je.length
 lo:0<=b.lo
 le:b.lo<=b.hi
 hi:b.hi<=z8 m b.lane
 vlo:0<=b.vlo
 vle:b.vlo<=b.vhi
 vhi:b.vhi<=zeR (zaK m b.lane)
 hold:0<=b.hold/\b.hold<=z8 m b.lane
def zDT(m:zD)(n:Int):List Int :=
 if zbK m 0 m.je=[] then [] else
 (zbK m 0 m.je).getD ((n % 1048576).toNat % (zbK m 0 m.je).length) 0::goR m 7 ((zbK m 0 m.je).getD ((n % 1048576).toNat % (zbK m 0 m.je).length) 0) ((n % 1048576).toNat / (zbK m 0 m.je).length)
theorem zEm(m:zD)(n:Int):(zDT m n).length<=8:=by
 unfold zDT;split
 ·simp
 ·rw[jG];have:=zEZ m 7 ((zbK m 0 m.je).getD ((n % 1048576).toNat % (zbK m 0 m.je).length) 0) ((n % 1048576).toNat / (zbK m 0 m.je).length);omega
theorem zFk{m:zD}(h:zcp m):∀(f:Nat) (a:Int) (n:Nat),0<=a/\a<m.je.length->zj2 m (goR m f a n)
 |0,_,_,_=>by intro x hx;cases hx
 |f+1,a,n,ha=>by
  obtain⟨j,rfl⟩:=jB ha.1;have hj:j<m.je.length:=by omega
  have en:zS m (j:Int)=m.je[j].next:=by simp[zS,hj]
  unfold goR;rw[en];split
  ·intro x hx;cases hx
  ·rename_i c;have hm:n % m.je[j].next.length<m.je[j].next.length:=qp _ (by omega);have eg:m.je[j].next.getD (n % m.je[j].next.length) 0=m.je[j].next[n % m.je[j].next.length]:=by simp[jx,hm]
   have hval:=h.small.valid _ (jh hj) _ (jh hm);rw[eg];intro x hx;rcases jr.1 hx with rfl|hx
   ·exact hval
   ·exact zFk h f _ _ hval x hx
theorem zFf{m:zD}(hne:zbK m 0 m.je≠[])(N:Nat):0<=(zbK m 0 m.je).getD (N % (zbK m 0 m.je).length) 0/\(zbK m 0 m.je).getD (N % (zbK m 0 m.je).length) 0<m.je.length:=by
 have h0:0<(zbK m 0 m.je).length:=kM.2 hne;have hm:N % (zbK m 0 m.je).length<(zbK m 0 m.je).length:=qp _ h0;have eg:(zbK m 0 m.je).getD (N % (zbK m 0 m.je).length) 0=(zbK m 0 m.je)[N % (zbK m 0 m.je).length]:=by simp[jx,hm]
 rw[eg];exact zp8 m m.je 0 (by omega) _ (jh hm)
theorem zEy{m:zD}(h:zcp m)(n:Int):zj2 m (zDT m n):=by
 unfold zDT;split
 ·intro x hx;cases hx
 ·rename_i hne;have hs:=zFf hne (n % 1048576).toNat;intro x hx;rcases jr.1 hx with rfl|hx
  ·exact hs
  ·exact zFk h _ _ _ hs x hx
theorem zE3{m:zD}(h:zcp m)(n:Int):R L Cs zEb [.a (zf m),W n] []=some (.w (.c (.jd (zu (zDT m n)))),[]):=by
 have ho:=zzc h;have hm:=zEW n 1048576 (by omega) (by omega);have hr:=zDJ n 1048576 (by omega);have hlen:=zlK m m.je 0;have hsm:=h.small.je;unfold zDT;rw[zUa zEf rfl];by_cases c:zbK m 0 m.je=[]
 ·rw[c]at ho;simp only[zf,zay]at ho ⊢;simp[zDO,ho,c,zg]
 ·have hs:=zFf c (n % 1048576).toNat;rw[if_neg c];generalize n % 1048576=N at *;obtain⟨N,rfl⟩:=jB hr.1;generalize zbK m 0 m.je=l at *;have h0:0<l.length:=kM.2 c;have hml:N % l.length<l.length:=qp _ h0;have hq:N / l.length<=N:=Nat.div_le_self _ _;simp only[Int.toNat_natCast]at *;have eg:l.getD (N % l.length) 0=l[N % l.length]:=by simp[jx,hml]
  rw[eg]at hs ⊢;obtain⟨b,t,hy⟩:=zEL h 7 l[N % l.length] (N / l.length) [l[N % l.length]] rfl hs.1 hs.2 (by omega);have e1:(N:Int).tmod (l.length:Int)=((N % l.length:Nat):Int):=by
   rw[jH (by omega)];rfl
  have e2:(N:Int).tdiv (l.length:Int)=((N / l.length:Nat):Int):=by
   rw[jS (by omega)];rfl
  have e3:IntKind.i64.wrap ((N / l.length:Nat):Int)=((N / l.length:Nat):Int):=zv4 (by omega);have hz:((l.length:Int)==0)=false:=beq_false_of_ne (by omega);have hz':(l.length:Int)≠0:=by omega
  generalize hq2:N / l.length=q at *;generalize hm2:N % l.length=p at *;simp only[zf,sl,own,zaP,zay,zfq,jG,jA]at ho hy ⊢;simp[zDO,ho,hm,c,hz,hz',e1,e2,e3,hml,hy,zg]
theorem zER{m:zD}(h:zcp m)(l:List Int)(hl:l.length<=1000):R L Cs zDU [.a (zf m),.c (.jd (zu l))] []=some (.w (W (if zdA m l=0 then zmd m 0 l else 0)),[]):=by
 by_cases c:zdA m l=0
 ·rw[if_pos c];exact zEp h c
 ·have hck:=zp0 m h.small h.Ao l hl;rw[if_neg c];simp only[zf]at hck;have c0':(zdA m l==0)=false:=by simp[c]
  rw[zUa zDV rfl];simp[zDG,zf,hck,c,c0']
def zEo(len s v spread:Int):Ego:=⟨max 0 (s % (len+1)-(spread % 2000) / 2),min len (s % (len+1)+spread % 2000-(spread % 2000) / 2),max 0 (v % 2001-(spread % 2000) / 40),min 2000 (v % 2001+(spread % 2000) / 50)⟩
theorem zFy(len s v spread:Int)(h1:0<=len)(h2:len<=100000000):R L Cs zEc [W len,W s,W v,W spread] []=some (.w (.a (zch (zEo len s v spread))),[]):=by
 have g1:=zD0 s (len+1) (by omega) (by omega);have g2:=zD0 v 2001 (by omega) (by omega);have g3:=zD0 spread 2000 (by omega) (by omega);have r1:=zDJ s (len+1) (by omega);have r2:=zDJ v 2001 (by omega);have r3:=zDJ spread 2000 (by omega);have w0:=kH (len+1);unfold zEo;generalize s % (len+1)=s at *;generalize v % 2001=v at *;generalize spread % 2000=p at *;have d1:p.tdiv 2=p / 2:=jS r3.1;have d2:p.tdiv 40=p / 40:=jS r3.1;have d3:p.tdiv 50=p / 50:=jS r3.1;have q1:=kH (p / 2);have q2:=kH (p / 40);have q3:=kH (p / 50);have w1:=kH (s-p / 2);have w2:=kH (s+p);have w3:=kH (s+p-p / 2);have w4:=kH (v-p / 40);have w5:=kH (v+p / 50);rw[zUa zEg rfl];simp[zDX,g1,g2,g3,w0,w1,w2,w3,w4,w5,d1,d2,d3,q1,q2,q3,zg]
theorem zE6{m:zD}(h:zcp m)(n:Int):∀(f i:Nat),i+f=4 ->
  (Y L Cs zDD (some [1,2,5]) 2 [(1,.w (W n)),(2,.w (Pt 0)),(5,.w (W i))] [bx 5 (zf m),gb 1] =
   some (.exit 0,[(8,.w (Bo false)),(2,.w (Pt 0)),(1,.w (W n)),(5,.w (W 4))],[bx 5 (zf m),gb 1])) \/
  (∃k,zaK m ((zDT m k).headD 0)=1/\Y L Cs zDD (some [1,2,5]) 2 [(1,.w (W n)),(2,.w (Pt 0)),(5,.w (W i))] [bx 5 (zf m),gb 1] =
   some (.ret,[(4,.w (.c (.jd (zu (zDT m k)))))],[bx 5 (zf m),gb 1])):=by
 intro f;induction f with
 |zero =>
  intro i hi;obtain rfl:i=4:=by omega
  left;rw[zj zDD.eq_1];simp
 |succ f ih =>
  intro i hi;have hi4:(i:Int)<4:=by omega
  have hw:=zB (i:=i) (by omega);have hm:=zEW n 1048576 (by omega) (by omega);have hr:=zDJ n 1048576 (by omega);have hw2:=kH (n % 1048576+i);have hR:=zE3 h (n % 1048576+i);have hon:=zEy h (n % 1048576+i);rw[zj zDD.eq_1];have ih':=ih (i+1) (by omega);have hk:∀q,q=zDT m (n % 1048576+i)->∃k,q=zDT m k:=fun q hq=>⟨_,hq⟩
  generalize hq:zDT m (n % 1048576+i)=q at *;cases q with
  |nil =>
   rcases ih' with ih' |⟨k,hkd,ih'⟩
   ·left;rw[<-ih'];simp only[zf,zay]at hR ⊢;simp[hi4,hw,hm,hw2,hR]
   ·right;refine⟨k,hkd,?_⟩;rw[<-ih'];simp only[zf,zay]at hR ⊢;simp[hi4,hw,hm,hw2,hR]
  |cons x r =>
   have hx:=hon x (by simp);obtain⟨j,rfl⟩:=jB hx.1;have hj:j<m.je.length:=by omega
   by_cases c:m.je[j].kind=1
   ·right;refine⟨n % 1048576+i,by rw[hq];simp[zaK,hj,c],?_⟩;rw[hq];simp only[zf,zaP]at hR ⊢;simp[hi4,hw,hm,hw2,hR,hj,zo,c]
   ·have cb:(m.je[j].kind==1)=false:=by simp[c]
    rcases ih' with ih' |⟨k,hkd,ih'⟩
    ·left;rw[<-ih'];simp only[zf,zaP]at hR ⊢;simp[hi4,hw,hm,hw2,hR,hj,zo,c,cb]
    ·right;refine⟨k,hkd,?_⟩;rw[<-ih'];simp only[zf,zaP]at hR ⊢;simp[hi4,hw,hm,hw2,hR,hj,zo,c,cb]
theorem zT8{m:zD}(h:zcp m)(n:Int):∃k,(k=0\/zaK m ((zDT m k).headD 0)=1)/\R L Cs zD3 [.a (zf m),W n] []=some (.w (.c (.jd (zu (zDT m k)))),[]):=by
 rw[zUa zD5 rfl];rcases zE6 h n 4 0 rfl with hl |⟨k,hkd,hl⟩
 ·refine⟨0,.inl rfl,?_⟩;have hR:=zE3 h 0;simp only[zf,jt]at hl hR ⊢;simp[zDK,hl,hR]
 ·refine⟨k,.inr hkd,?_⟩;simp only[zf,jt]at hl ⊢;simp[zDK,hl]
theorem zES{m:zD}(h:zcp m)(n:Int):∃k,R L Cs zD3 [.a (zf m),W n] []=some (.w (.c (.jd (zu (zDT m k)))),[]):=by
 obtain⟨k,_,h⟩:=zT8 h n;exact⟨k,h⟩
def zDS(l:List Bit):List (List Cl):=l.map zEx
@[simp] theorem zFB(l:List Bit):(zDS l).length=l.length:=by simp[zDS]
@[simp] theorem zFc{l:List Bit}{i:Nat}(h:i<(zDS l).length):(zDS l)[i]=zEx (l[i]'(by simpa using h)):=by simp[zDS]
@[simp] theorem zFF(b:Bit):(zEx b).length=6:=rfl
theorem zEU{m:zD}(h:zcp m)(hne:0<m.je.length)(l:List Bit)(hl:l.length<=100)(hh:∀x∈l,zk0 x.hold)(spread v s tick:Int)(q:List (List Cl)):∀(r:List Bit) (i:Nat) (out:List zk),l.drop i=r->i<=l.length->out.length=i ->
  Y L Cs zDL (some [15,16,14,6,5,4,1,3,2,7]) 3 [(15,.w (.c (sl 2 6 (zI out)))),(16,.w (W i)),(14,.w (Pt 1)),(6,.w (W spread)),(5,.w (W v)),(4,.w (W s)),(1,.w (.c (.jd q))),(3,.w (W tick)),(2,.w (.c (.jd (zDS l)))),(7,.w (Pt 0))] [bx 5 (zf m),bx 6 zFA,some (own 6 (zI out))] =
    some (.exit 0,[(20,.w (Bo false)),(15,.w (.c (sl 2 6 (zI (out++r.map (zDN m)))))),(16,.w (W l.length)),(14,.w (Pt 1)),(6,.w (W spread)),(5,.w (W v)),(4,.w (W s)),(1,.w (.c (.jd q))),(3,.w (W tick)),(2,.w (.c (.jd (zDS l)))),(7,.w (Pt 0))],[bx 5 (zf m),bx 6 zFA,some (own 6 (zI (out++r.map (zDN m))))]):=by
 intro r;induction r with
 |nil =>
  intro i out hd hi ho;obtain rfl:=zUb hd hi;rw[zj zDL.eq_1];simp
 |cons x r ih =>
  intro i out hd hi ho;subst ho;obtain⟨hil,hx,hd'⟩:=zL hd;have hw:=zB (i:=out.length) (by omega);have hb:=zEq h hne x (hh x (by rw[<-hx];exact jh _));have jO:(out.length+1)*48<=140737488355328:=by omega
  rw[kj,show out++zDN m x::r.map (zDN m)=(out++[zDN m x])++r.map (zDN m) by simp,<-ih (out.length+1) (out++[zDN m x]) hd' hil (by simp),zj zDL.eq_1];clear ih;generalize zDN m x=b at *;simp only[zf,zEx,ze]at hb;simp[hil,hx,zEx,ze,zf,hb,hw,jO,zg,zH]
def zD1(m:zD)(q:List Int)(l:List Bit)(tick s v spread:Int):zci :=
 ⟨tick % 1000,zcz (l.map (zDN m)),zEo (if zdA m q=0 then zmd m 0 q else 0) s v spread⟩
theorem zFz{m:zD}(h:zcp m)(hne:0<m.je.length)(q:List Int)(hq:q.length<=8)(l:List Bit)(hl:l.length<=100)(hh:∀x∈l,zk0 x.hold)(tick s v spread:Int) :
  R L Cs zEe [.a (zf m),.c (.jd (zu q)),.c (.jd (zDS l)),W tick,W s,W v,W spread] []=some (.w (.a (zG (zD1 m q l tick s v spread))),[]):=by
 have h1:=zEU h hne l hl hh spread v s tick (zu q) l 0 [] rfl (jz _) rfl;have h2:=zD0 tick 1000 (by omega) (by omega);have vz:∀x∈l.map (zDN m),OKB x:=by
  intro x hx;obtain⟨y,_,rfl⟩:=jY.1 hx;have f:=zEA h hne y;have g:=zcX h f.lane;have:=f.lo;have:=f.le;have:=f.hi;exact⟨by omega,by omega,by omega,by omega⟩
 have h3:=zy7 (l.map (zDN m)) (by simp;omega) vz;have h4:=zER h q (by omega);have hL:0<=(if zdA m q=0 then zmd m 0 q else 0)/\(if zdA m q=0 then zmd m 0 q else 0)<=100000000:=by
  split
  ·rename_i c;obtain⟨hon,_,_⟩:=zg1 h c;have:=zEC h q 0 hon (by omega);omega
  ·omega
 have h5:=zFy (if zdA m q=0 then zmd m 0 q else 0) s v spread hL.1 hL.2;have htk:List.take l.length (l.map (zDN m))=l.map (zDN m):=jF (by simp);unfold zD1;generalize (if zdA m q=0 then zmd m 0 q else 0)=n at *;generalize zEo n s v spread=e at *;simp only[zf,jt,jK,zic,sl,own,jA,zgg,zG,zch,kO]at h1 h3 h4 h5 ⊢;rw[zUa zEi rfl];simp[zDY,h1,h2,h3,h4,h5,zg,htk,zX]
def inB(p q:zk):Bool:=decide (p.lane=q.lane)&&decide (q.lo<=p.lo)&&decide (p.hi<=q.hi)&&decide (q.vlo<=p.vlo)&&decide (p.vhi<=q.vhi)&&(decide (q.hold=0)||decide (p.hold≠0)&&decide (p.hold<=q.hold))
theorem zZL{α:Type}(f:α->Bool):∀(l:List α) (s:Bool),l.foldl (fun s q=>s||f q) s=(s||l.any f)
 |[],s=>by simp
 |x::l,s=>by rw[jI,zZL f l];simp[Bool.or_assoc]
theorem zZm(a b:zci)(hb:b.jy.length<=100000000000)(p:zk)(i:Int) :
  Y L Cs zWA (some [9,10,7,2,3,8]) 5 [(9,.w (Bo false)),(10,.w (W (0:Nat))),(7,.w (W i)),(2,.w (Pt 0)),(3,.w (Pt 1)),(8,.w (Pt 4))] [bx 6 (zG a),bx 6 (zG b),bxv 1 4 (zch a.ego),bxv 1 4 (zch b.ego),bxv 1 6 (ze p)] =
    some (.exit 2,[(65,.w (Bo false)),(9,.w (Bo (b.jy.any (inB p)))),(10,.w (W b.jy.length)),(7,.w (W i)),(2,.w (Pt 0)),(3,.w (Pt 1)),(8,.w (Pt 4))],[bx 6 (zG a),bx 6 (zG b),bxv 1 4 (zch a.ego),bxv 1 4 (zch b.ego),bxv 1 6 (ze p)]):=by
 have q:=zPH (L:=L) (Cs:=Cs) (b:=zWA) (live:=some [9,10,7,2,3,8]) (n0:=5) b.jy
  (fun k s=>[(9,.w (Bo s)),(10,.w (W k)),(7,.w (W i)),(2,.w (Pt 0)),(3,.w (Pt 1)),(8,.w (Pt 4))]) (fun _ _=>[bx 6 (zG a),bx 6 (zG b),bxv 1 4 (zch a.ego),bxv 1 4 (zch b.ego),bxv 1 6 (ze p)]) (fun _ _=>True) (fun _ s q=>s||inB p q)
  (fun s=>(.exit 2,[(65,.w (Bo false)),(9,.w (Bo s)),(10,.w (W b.jy.length)),(7,.w (W i)),(2,.w (Pt 0)),(3,.w (Pt 1)),(8,.w (Pt 4))],[bx 6 (zG a),bx 6 (zG b),bxv 1 4 (zch a.ego),bxv 1 4 (zch b.ego),bxv 1 6 (ze p)])) ?_ ?_ (s0:=false) trivial
 ·rw[zMd,zZL,Bool.false_or]at q;exact q
 ·intro k hk s _;refine⟨trivial,?_⟩;have hww:=zB (i:=k) (by omega);simp only[zG,zch,ze];rw[zj zWA.eq_1];generalize hwk:b.jy[k]=w;obtain⟨wl,wlo,whi,wv,wV,wh⟩:=w;obtain⟨pl,plo,phi,pv,pV,ph⟩:=p;cases s with
  |true=>simp[hk,hwk,hww,ze,zg]
  |false =>
   simp only[inB];by_cases c1:pl=wl
   ·subst c1;by_cases c2:wlo<=plo
    ·by_cases c3:phi<=whi
     ·by_cases c4:wv<=pv
      ·by_cases c5:pV<=wV
       ·by_cases c6:wh=0
        ·simp[hk,hwk,hww,ze,zg,c2,c3,c4,c5,c6]
        ·have b6:(wh==0)=false:=by simp[c6]
         by_cases c7:ph=0
         ·simp[hk,hwk,hww,ze,zg,c2,c3,c4,c5,c6,b6,c7]
         ·have b7:(ph==0)=false:=by simp[c7]
          have b7':(ph !=0)=true:=by simp[c7]
          by_cases c8:ph<=wh
          ·simp[hk,hwk,hww,ze,zg,c2,c3,c4,c5,c6,b6,c7,b7,b7',c8]
          ·simp[hk,hwk,hww,ze,zg,c2,c3,c4,c5,c6,b6,c7,b7,b7',c8]
       ·simp[hk,hwk,hww,ze,zg,c2,c3,c4,c5]
      ·simp[hk,hwk,hww,ze,zg,c2,c3,c4]
     ·simp[hk,hwk,hww,ze,zg,c2,c3]
    ·simp[hk,hwk,hww,ze,zg,c2]
   ·have b1:(pl==wl)=false:=by simp[c1]
    simp[hk,hwk,hww,ze,zg,c1,b1]
 ·intro s _;simp only[zG,zch,ze];rw[zj zWA.eq_1];simp
theorem zZl(a b:zci)(ha:a.jy.length<=100000000000)(hb:b.jy.length<=100000000000):∀(r:List zk) (i:Nat),a.jy.drop i=r->i<=a.jy.length ->
  ∃M',Y L Cs z0 (some [7,2,3]) 4 [(7,.w (W i)),(2,.w (Pt 0)),(3,.w (Pt 1))] [bx 6 (zG a),bx 6 (zG b),bxv 1 4 (zch a.ego),bxv 1 4 (zch b.ego)] =
   if r.all (fun p=>b.jy.any (inB p)) then some (.exit 0,[(53,.w (Bo false)),(7,.w (W a.jy.length)),(2,.w (Pt 0)),(3,.w (Pt 1))],[bx 6 (zG a),bx 6 (zG b),bxv 1 4 (zch a.ego),bxv 1 4 (zch b.ego)])
   else some (.ret,[(4,.w (Bo false))],M'):=by
 intro r;induction r with
 |nil =>
  intro i hd hi;obtain rfl:=zUb hd hi;refine⟨[],?_⟩;simp only[zG,zch];rw[zj z0.eq_1];simp
 |cons p r ih =>
  intro i hd hi;obtain⟨hil,hp,hd'⟩:=zL hd;have hw:=zB (i:=i) (by omega);have h1:=zZm a b hb p i;obtain⟨M',ih'⟩:=ih (i+1) hd' hil;rw[qD];generalize b.jy.any (inB p)=s at *;generalize r.all (fun p=>b.jy.any (inB p))=t at *;simp only[zG,zch,ze,jt]at h1 ih' ⊢;cases s with
  |true =>
   refine⟨M',?_⟩;rw[Bool.true_and,<-ih',zj z0.eq_1];simp[hil,hp,hw,ze,zg,h1]
  |false =>
   refine⟨[bx 6 (zG a),bx 6 (zG b),bxv 1 4 (zch a.ego),bxv 1 4 (zch b.ego),bxv 1 6 (ze p)],?_⟩;rw[zj z0.eq_1];simp[hil,hp,hw,ze,zG,zg,h1]
def z1D(x y:Ego):Bool:=decide (x.slo<y.slo)||decide (y.shi<x.shi)||decide (x.vlo<y.vlo)||decide (y.vhi<x.vhi)
def zXR(a b:zci):Bool:=decide (a.tick=b.tick) && !z1D a.ego b.ego&&a.jy.all (fun p=>b.jy.any (inB p))
theorem zYb(a b:zci)(ha:a.jy.length<=100000000000)(hb:b.jy.length<=100000000000):R L Cs zXL [.a (zG a),.a (zG b)] []=some (.w (Bo (zXR a b)),[]):=by
 obtain⟨M',h2⟩:=zZl a b ha hb a.jy 0 rfl (jz _);rw[zUa zXN rfl];simp only[zXR,z1D];generalize a.jy.all (fun p=>b.jy.any (inB p))=t at *;simp only[zG,zch,jt]at h2 ⊢;by_cases c1:a.tick=b.tick
 ·rw[c1]at h2 ⊢;by_cases c2:a.ego.slo<b.ego.slo
  ·simp[zWt,zg,c2]
  ·by_cases c3:b.ego.shi<a.ego.shi
   ·simp[zWt,zg,c2,c3]
   ·by_cases c4:a.ego.vlo<b.ego.vlo
    ·simp[zWt,zg,c2,c3,c4]
    ·by_cases c5:b.ego.vhi<a.ego.vhi
     ·simp[zWt,zg,c2,c3,c4,c5]
     ·cases t with
      |true=>simp[zWt,zg,c2,c3,c4,c5,h2]
      |false=>simp[zWt,zg,c2,c3,c4,c5,h2]
 ·have b1:(a.tick==b.tick)=false:=by simp[c1]
  have b2:(a.tick !=b.tick)=true:=by simp[c1]
  simp[zWt,zg,c1,b1,b2]
def Ord(a b:zk):Prop:=a.lane<b.lane\/a.lane=b.lane/\a.lo<=b.lo
theorem not_lt{x s:zk}(h:ltB x s=false):Ord s x:=by
 unfold ltB at h;unfold Ord;simp at h;omega
structure Spn where
 lane:Int
 lo:Int
 hi:Int
def zWX(s:Spn):List Cl:=[I s.lane,I s.lo,I s.hi]
def zWx(l:List Spn):List (List Cl):=l.map zWX
@[simp] theorem z1J(s:Spn):(zWX s).length=3:=rfl
@[simp] theorem zXJ(l:List Spn):(zWx l).length=l.length:=by simp[zWx]
@[simp] theorem z1e(l m:List Spn):zWx (l++m)=zWx l++zWx m:=by simp[zWx]
@[simp] theorem zZb:zWx []=[]:=rfl
@[simp] theorem z1B(x:Spn)(l:List Spn):zWx (x::l)=zWX x::zWx l:=rfl
@[simp] theorem z1A(l:List Spn):(zWx l).take l.length=zWx l:=jF (by simp)
@[simp] theorem z05{l:List Spn}{i:Nat}(h:i<(zWx l).length):(zWx l)[i]=zWX (l[i]'(by simpa using h)):=by simp[zWx]
def onF(m:zD)(s:Spn):Bool:=decide (0<=s.lane)&&decide (s.lane<m.je.length)&&decide (0<=s.lo)&&decide (s.lo<=s.hi)&&decide (s.hi<=z8 m s.lane)
theorem z1M{m:zD}(h:zcp m)(s:Spn):R L Cs zZ6 [.a (zf m),.a (zWX s)] []=some (.w (Bo (onF m s)),[]):=by
 obtain⟨ln,lo,hi⟩:=s;rw[zUa z0a rfl];simp only[onF,zWX];by_cases c1:0<=ln
 ·by_cases c2:ln<m.je.length
  ·obtain⟨j,rfl⟩:=jB c1;have hj:j<m.je.length:=by omega
   have hL:=zrQ h hj;have e:z8 m j=m.je[j].len:=by simp[z8,hj]
   simp only[zf]at hL;rw[e];by_cases c3:0<=lo
   ·by_cases c4:lo<=hi
    ·simp[zXb,zf,hj,c3,c4,hL,zg]
    ·simp[zXb,zf,hj,c3,c4,zg]
   ·simp[zXb,zf,hj,c3,zg]
  ·simp[zXb,zf,c1,c2,zg]
 ·simp[zXb,zf,c1,zg]
def zWu(s:Spn):zk:=⟨s.lane,s.lo,s.hi,0,0,0⟩
def zXs(b:zk):Spn:=⟨b.lane,b.lo,b.hi⟩
theorem zZD{m:zD}(h:zcp m)(l:List Spn)(hl:l.length<=1000):∀(r:List Spn) (i:Nat) (out:List zk),l.drop i=r->i<=l.length->out.length<=i ->
  Y L Cs zWS (some [5,13,12,11,2]) 3 [(5,.w (.c (sl 2 6 (zI out)))),(13,.w (W i)),(12,.w (W l.length)),(11,.w (.c (.jd (zWx l)))),(2,.w (Pt 0))] [bx 5 (zf m),gb 3,some (own 6 (zI out))] =
    some (.exit 0,[(14,.w (Bo false)),(5,.w (.c (sl 2 6 (zI (out++(r.filter (onF m)).map zWu))))),(13,.w (W l.length)),(12,.w (W l.length)),(11,.w (.c (.jd (zWx l)))),(2,.w (Pt 0))],[bx 5 (zf m),gb 3,some (own 6 (zI (out++(r.filter (onF m)).map zWu)))]):=by
 intro r;induction r with
 |nil =>
  intro i out hd hi ho;obtain rfl:=zUb hd hi;rw[zj zWS.eq_1];simp
 |cons s r ih =>
  intro i out hd hi ho;obtain⟨hil,hs,hd'⟩:=zL hd;have hw:=zB (i:=i) (by omega);have hon:=z1M h s;have jO:(out.length+1)*48<=140737488355328:=by omega
  by_cases c:onF m s=true
  ·rw[List.filter_cons_of_pos c,kj,show out++zWu s::(r.filter (onF m)).map zWu=(out++[zWu s])++(r.filter (onF m)).map zWu by simp,<-ih (i+1) (out++[zWu s]) hd' hil (by simp;omega),zj zWS.eq_1];clear ih;rw[c]at hon;simp only[zf,zWX]at hon;simp[hil,hs,hw,zWX,ze,zWu,zf,hon,jO,zg,zH]
  ·rw[List.filter_cons_of_neg c,<-ih (i+1) out hd' hil (by omega),zj zWS.eq_1];clear ih;have c':onF m s=false:=by simpa using c
   rw[c']at hon;simp only[zf,zWX]at hon;simp[hil,hs,hw,zWX,zf,hon,zg,zH]
abbrev fzB(bs:List zk):Option Blk:=some { box:=false,esz:=6,rows:=zI bs,gen:=bs.length,fz:=true,ver:=bs.length+1 }
theorem zZC{m:zD}(bs:List zk)(l:List zk)(hl:l.length<=1000):∀(r:List zk) (i:Nat) (out:List Spn),l.drop i=r->i<=l.length->out.length=i ->
  Y L Cs zW4 (some [8,34,33,32]) 4 [(8,.w (.c (sl 3 3 (zWx out)))),(34,.w (W i)),(33,.w (W l.length)),(32,.w (.c (.jd (zI l))))] [bx 5 (zf m),gb 3,fzB bs,some (own 3 (zWx out))] =
    some (.exit 2,[(35,.w (Bo false)),(8,.w (.c (sl 3 3 (zWx (out++r.map zXs))))),(34,.w (W l.length)),(33,.w (W l.length)),(32,.w (.c (.jd (zI l))))],[bx 5 (zf m),gb 3,fzB bs,some (own 3 (zWx (out++r.map zXs)))]):=by
 intro r;induction r with
 |nil =>
  intro i out hd hi ho;obtain rfl:=zUb hd hi;rw[zj zW4.eq_1];simp
 |cons b r ih =>
  intro i out hd hi ho;subst ho;obtain⟨hil,hb,hd'⟩:=zL hd;have hw:=zB (i:=out.length) (by omega);have jO:(out.length+1)*24<=140737488355328:=by omega
  rw[kj,show out++zXs b::r.map zXs=(out++[zXs b])++r.map zXs by simp,<-ih (out.length+1) (out++[zXs b]) hd' hil (by simp),zj zW4.eq_1];clear ih;simp[hil,hb,hw,zWX,ze,zXs,zf,jO,zg,zH]
def zXa(m:zD)(l:List Spn):List Spn:=(zcz ((l.filter (onF m)).map zWu)).map zXs
theorem z1E{m:zD}(h:zcp m){s:Spn}(hs:onF m s=true):OKB (zWu s):=by
 unfold onF at hs;simp at hs;have:=zcX h (x:=s.lane) (by omega);exact⟨by simp[zWu];omega,by simp[zWu];omega,by simp[zWu];omega,by simp[zWu];omega⟩
theorem z0j{m:zD}(h:zcp m)(l:List Spn)(hl:l.length<=19):R L Cs zY4 [.a (zf m),.c (.jd (zWx l))] []=some (.w (.c (.jd (zWx (zXa m l)))),[]):=by
 have h1:=zZD h l (by omega) l 0 [] rfl (jz _) (jz _);have hfl:(l.filter (onF m)).length<=l.length:=qc _ _;have h2:=zZQ ((l.filter (onF m)).map zWu) (by simp;omega) (by
  intro x hx;obtain⟨s,hs,rfl⟩:=jY.1 hx;exact z1E h (kN.1 hs).2)
 have hjl:=zkq ((l.filter (onF m)).map zWu);rw[kO]at hjl;have h3:=zZC (m:=m) ((l.filter (onF m)).map zWu) (zcz ((l.filter (onF m)).map zWu)) (by omega) _ 0 [] rfl (jz _) rfl;have htk:List.take (l.filter (onF m)).length ((l.filter (onF m)).map zWu)=(l.filter (onF m)).map zWu:=jF (by simp);unfold zXa;generalize zcz ((l.filter (onF m)).map zWu)=q at *;have hbl:((l.filter (onF m)).map zWu).length=(l.filter (onF m)).length:=kO _;generalize (l.filter (onF m)).map zWu=bs at *;generalize (l.filter (onF m)).length=n at *;subst hbl;simp only[zf,jt,jK,zic,zZb,sl,own,jA,zgg,zXJ,kO,ui,fzB]at h1 h2 h3 ⊢;rw[zUa zY7 rfl];have htk2:List.take q.length (zWx (q.map zXs))=zWx (q.map zXs):=jF (by simp);simp[zXG,h1,h2,h3,zg,zX,htk2]
theorem z1r(b:Spn)(i v:Nat)(M:Mem)(h:M[i]?=some (bxv v 3 (zWX b))):R L Cs zYp [Pt i] M=some (.t [W b.lane,.c (.ptr i 0 0 1),.c (.ptr i 0 0 2)],M):=by
 rw[zUa zYs rfl];simp only[zWX]at h;simp[zXc,h,zWX,p1F]
def zYm(x fr to:Int)(b:Spn):List Spn :=
 if b.lane≠x\/fr>to\/fr>b.hi\/to<b.lo then [b] else
 (if b.lo<fr then [{ b with hi:=fr-1 }] else [])++(if to<b.hi then [{ b with lo:=to+1 }] else [])
def zYr(x fr to:Int):List Spn->List Spn
 |[]=>[]
 |b::r=>zYm x fr to b++zYr x fr to r
theorem z0x(x fr to:Int)(b:Spn):(zYm x fr to b).length<=2:=by
 unfold zYm;split
 ·simp
 ·split<;>split<;>simp
theorem z0w(x fr to:Int)(hfr:Mid fr)(hto:Mid to)(l:List Spn)(hl:l.length<=100000000000):∀(r:List Spn) (i:Nat) (out:List Spn),l.drop i=r->i<=l.length->out.length<=2*i ->
  Y L Cs zWR (some [5,21,20,19,3]) 3 [(5,.w (.c (sl 2 3 (zWx out)))),(21,.w (W i)),(20,.w (W l.length)),(19,.w (.c (.jd (zWx l)))),(3,.w (Pt 0))] [bx 3 [I x,I fr,I to],gb 3,some (own 3 (zWx out))] =
    some (.exit 0,[(22,.w (Bo false)),(5,.w (.c (sl 2 3 (zWx (out++zYr x fr to r))))),(21,.w (W l.length)),(20,.w (W l.length)),(19,.w (.c (.jd (zWx l)))),(3,.w (Pt 0))],[bx 3 [I x,I fr,I to],gb 3,some (own 3 (zWx (out++zYr x fr to r)))]):=by
 intro r;induction r with
 |nil =>
  intro i out hd hi ho;obtain rfl:=zUb hd hi;rw[zj zWR.eq_1];simp[zYr]
 |cons b r ih =>
  intro i out hd hi ho;obtain⟨hil,hb,hd'⟩:=zL hd;have hw:=zB (i:=i) (by omega);have hcl:(out++zYm x fr to b).length<=2*(i+1):=by
   have:=z0x x fr to b;rw[jU];omega
  obtain⟨f1,f2⟩:=hfr;obtain⟨t1,t2⟩:=hto;have hw1:=kH (fr-1);have hw2:=kH (to+1);have jO:(out.length+1)*24<=140737488355328:=by omega
  have Au:(out.length+2)*24<=140737488355328:=by clear hcl hd hb hd' ih;omega
  have he:=z1r b 0 1 [bxv 1 3 (zWX b)] rfl;have e1:out++zYr x fr to (b::r)=(out++zYm x fr to b)++zYr x fr to r:=by simp[zYr]
  rw[e1,<-ih (i+1) (out++zYm x fr to b) hd' hil hcl,zj zWR.eq_1];clear ih e1 hcl;clear f1 f2 t1 t2;obtain⟨bl,lo,hi'⟩:=b;simp only[zWX,zYm]at *;by_cases c1:bl=x
  ·subst c1;by_cases c2:to<fr
   ·simp[hil,hb,zWX,hw,jO,zg,zH,he,c2]
   ·by_cases c3:hi'<fr
    ·simp[hil,hb,zWX,hw,jO,zg,zH,he,c2,c3]
    ·by_cases c4:to<lo
     ·simp[hil,hb,zWX,hw,jO,zg,zH,he,c2,c3,c4]
     ·by_cases c5:lo<fr
      ·by_cases c6:to<hi'
       ·have htk:∀y:List Cl,List.take (out.length+1) (zWx out++[y])=zWx out++[y]:=fun y=>jF (by simp)
        simp[hil,hb,zWX,hw,hw1,hw2,jO,Au,zg,zH,he,c2,c3,c4,c5,c6,htk]
       ·simp[hil,hb,zWX,hw,hw1,hw2,jO,zg,zH,he,c2,c3,c4,c5,c6]
      ·by_cases c6:to<hi'
       ·simp[hil,hb,zWX,hw,hw1,hw2,jO,zg,zH,he,c2,c3,c4,c5,c6]
       ·simp[hil,hb,zWX,hw,hw1,hw2,jO,zg,zH,he,c2,c3,c4,c5,c6]
  ·have b1:(bl==x)=false:=by simp[c1]
   have b2:(bl !=x)=true:=by simp[c1]
   simp[hil,hb,zWX,hw,jO,zg,zH,he,c1,b1,b2]
theorem z1H(x fr to:Int)(hfr:Mid fr)(hto:Mid to)(l:List Spn)(hl:l.length<=100000000000):R L Cs zYy [.c (.jd (zWx l)),.a [I x,I fr,I to]] []=some (.w (.c (.jd (zWx (zYr x fr to l)))),[]):=by
 have hc:=z0w x fr to hfr hto l hl l 0 [] rfl (jz _) (jz _);simp only[jt,jK,zZb,sl,own,jA,zXJ]at hc;rw[zUa zYz rfl];simp[zXg,hc,zg]
theorem z0L{m:zD}(h:zcp m){s:Spn}(c:onF m s=true):Mid s.lo/\Mid s.hi:=by
 unfold onF at c;simp at c;have:=zcX h (x:=s.lane) (by omega);exact⟨⟨by omega,by omega⟩,⟨by omega,by omega⟩⟩
structure Fnd where
 lane:Int
 lo:Int
 hi:Int
 v1:Int
 v2:Int
def zWN(s:Fnd):List Cl:=[I s.lane,I s.lo,I s.hi,I s.v1,I s.v2]
def zWw(l:List Fnd):List (List Cl):=l.map zWN
def Fnd.s(f:Fnd):Spn:=⟨f.lane,f.lo,f.hi⟩
@[simp] theorem z1L(s:Fnd):(zWN s).length=5:=rfl
@[simp] theorem zYf(l:List Fnd):(zWw l).length=l.length:=by simp[zWw]
@[simp] theorem z1f(l m:List Fnd):zWw (l++m)=zWw l++zWw m:=by simp[zWw]
@[simp] theorem zXx:zWw []=[]:=rfl
@[simp] theorem zYn(x:Fnd)(l:List Fnd):zWw (x::l)=zWN x::zWw l:=rfl
@[simp] theorem z08{l:List Fnd}{i:Nat}(h:i<(zWw l).length):(zWw l)[i]=zWN (l[i]'(by simpa using h)):=by simp[zWw]
@[simp] theorem zYQ(l:List Fnd):(zWw l).take l.length=zWw l:=jF (by simp)
def zYx(m:zD):List Fnd->List Spn->List Spn
 |[],l=>l
 |f::r,l=>zYx m r (if onF m f.s=true then zYr f.lane f.lo f.hi l else l)
def zXD(m:zD)(l:List Spn)(fs:List Fnd):List Spn:=zYx m fs (zXa m l)
theorem zZW(m:zD)(l:List Spn):(zXa m l).length<=l.length:=by
 unfold zXa;have:=zkq ((l.filter (onF m)).map zWu);have h2:(l.filter (onF m)).length<=l.length:=qc _ _;rw[kO]at this ⊢;omega
structure Pnt where
 x:Int
 y:Int
 v:Int
def zYi(p:Pnt):List Cl:=[I p.x,I p.y,I p.v]
def zWs(l:List Pnt):List (List Cl):=l.map zYi
@[simp] theorem z1K(s:Pnt):(zYi s).length=3:=rfl
@[simp] theorem zXQ(l:List Pnt):(zWs l).length=l.length:=by simp[zWs]
@[simp] theorem z07(l m:List Pnt):zWs (l++m)=zWs l++zWs m:=by simp[zWs]
@[simp] theorem zZZ:zWs []=[]:=rfl
@[simp] theorem z1C(x:Pnt)(l:List Pnt):zWs (x::l)=zYi x::zWs l:=rfl
@[simp] theorem z06{l:List Pnt}{i:Nat}(h:i<(zWs l).length):(zWs l)[i]=zYi (l[i]'(by simpa using h)):=by simp[zWs]
@[simp] theorem zZY(l:List Pnt):(zWs l).take l.length=zWs l:=jF (by simp)
def zXq(p:Pnt):Bool:=decide (-5<=p.v)&&decide (p.v<=2005)
theorem zZt(l:List Pnt)(hl:l.length<=1000):∀(r:List Pnt) (i:Nat) (out:List Pnt),l.drop i=r->i<=l.length->out.length<=i ->
  Y L Cs zWO (some [3,12,11,10]) 2 [(3,.w (.c (sl 1 3 (zWs out)))),(12,.w (W i)),(11,.w (W l.length)),(10,.w (.c (.jd (zWs l))))] [gb 3,some (own 3 (zWs out))] =
    some (.exit 0,[(13,.w (Bo false)),(3,.w (.c (sl 1 3 (zWs (out++r.filter zXq))))),(12,.w (W l.length)),(11,.w (W l.length)),(10,.w (.c (.jd (zWs l))))],[gb 3,some (own 3 (zWs (out++r.filter zXq)))]):=by
 intro r;induction r with
 |nil =>
  intro i out hd hi ho;obtain rfl:=zUb hd hi;rw[zj zWO.eq_1];simp
 |cons p r ih =>
  intro i out hd hi ho;obtain⟨hil,hs,hd'⟩:=zL hd;have hw:=zB (i:=i) (by omega);have hon:=ziC p.v (-5) 2005;have jO:(out.length+1)*24<=140737488355328:=by omega
  by_cases c:zXq p=true
  ·rw[List.filter_cons_of_pos c,show out++p::r.filter zXq=(out++[p])++r.filter zXq by simp,<-ih (i+1) (out++[p]) hd' hil (by simp;omega),zj zWO.eq_1];clear ih;unfold zXq at c;rw[c]at hon;simp[hil,hs,hw,zYi,hon,jO,zg,zH]
  ·rw[List.filter_cons_of_neg c,<-ih (i+1) out hd' hil (by omega),zj zWO.eq_1];clear ih;have c':zXq p=false:=by simpa using c
   unfold zXq at c';rw[c']at hon;simp[hil,hs,hw,zYi,hon,zg,zH]
theorem z0z(l:List Pnt)(hl:l.length<=1000):R L Cs zYK [.c (.jd (zWs l))] []=some (.w (.c (.jd (zWs (l.filter zXq)))),[]):=by
 have h:=zZt l hl l 0 [] rfl (jz _) (jz _);have hmin:min (l.length:Int) 1000=l.length:=by omega
 have km:(∀x∈zWs l,x.length=3)=True:=by simp[zWs]
 have htk:List.take (l.filter zXq).length (zWs (l.filter zXq))=zWs (l.filter zXq):=zZY _;simp only[jt,jK,zZZ,sl,own,jA,zXQ]at h;rw[zUa zYN rfl];simp[zXr,zg,zoU,hmin,km,h,zX,htk]
def zYk(lane len:Int)(p:Pnt)(f:Int):Fnd:=⟨lane,max 0 (f-100),min (f+100) len,max 0 (p.v-5),p.v+5⟩
structure zXl(m:zD):Prop where
 one:∀l∈m.je,∃x0 y0 x1 y1,l.pts=[(x0,y0),(x1,y1)]/\Pc x0 y0 x1 y1 l.len
def zYj(l:zfn)(p:Pnt):List Int:=match l.pts with
 |[(x0,y0),(x1,y1)]=>zZc x0 y0 x1 y1 l.len p.x p.y
 |_=>[]
def zXt(lane:Int)(l:zfn)(p:Pnt):List Fnd:=(zYj l p).map (zYk lane l.len p)
theorem zYS{m:zD}(h1:zXl m){l:zfn}(hl:l∈m.je)(p:Pnt):(zYj l p).length<=1/\∀f∈zYj l p,0<=f/\f<=l.len:=by
 obtain⟨x0,y0,x1,y1,e,hp⟩:=h1.one l hl;have:=hp.l;have hv:=fun q=>zZi (q:=q) (len:=l.len) (by omega)
 unfold zYj;rw[e];simp only[zZc];split
 ·split
  ·simp
  ·simp;exact⟨(hv _).1,(hv _).2⟩
 ·simp
theorem z1v{m:zD}(h1:zXl m){l:zfn}(hl:l∈m.je)(p:Pnt):R L Cs zXv [.a [zeT l],.a [I p.x,I p.y],W 100] []=some (.w (.c (.jd (zu (zYj l p)))),[])/\R L Cs z1T [.a [zeT l],.a [I p.x,I p.y],W 100] []=some (.w (.c (.jd (zu (zYj l p)))),[]):=by
 obtain⟨x0,y0,x1,y1,e,hp⟩:=h1.one l hl;have h1:=z1G hp p.x p.y;have h2:=z1p hp p.x p.y;unfold zYj zeT;rw[e];exact⟨h1,h2⟩
theorem z0v{m:zD}(h:zcp m){n:Nat}(hn:n<m.je.length)(p:Pnt)(hp:zXq p=true)(fs:List Int)(hfs:∀f∈fs,0<=f/\f<=m.je[n].len)(hl:fs.length<=1000):∀(r:List Int) (i:Nat) (out:List Fnd),fs.drop i=r->i<=fs.length->out.length<=i ->
  Y L Cs zW8 (some [7,23,22,21,1,5,3]) 4 [(7,.w (.c (sl 3 5 (zWw out)))),(23,.w (W i)),(22,.w (W fs.length)),(21,.w (.c (.jd (zu fs)))),(1,.w (W n)),(5,.w (Pt 1)),(3,.w (Pt 0))] [bx 5 (zf m),bx 3 (zYi p),gb 5,some (own 5 (zWw out))] =
    some (.exit 0,[(24,.w (Bo false)),(7,.w (.c (sl 3 5 (zWw (out++r.map (zYk n m.je[n].len p)))))),(23,.w (W fs.length)),(22,.w (W fs.length)),(21,.w (.c (.jd (zu fs)))),(1,.w (W n)),(5,.w (Pt 1)),(3,.w (Pt 0))],[bx 5 (zf m),bx 3 (zYi p),gb 5,some (own 5 (zWw (out++r.map (zYk n m.je[n].len p))))]):=by
 intro r;induction r with
 |nil =>
  intro i out hd hi ho;obtain rfl:=zUb hd hi;rw[zj zW8.eq_1];simp
 |cons f r ih =>
  intro i out hd hi ho;obtain⟨hil,hs,hd'⟩:=zL hd;have hw:=zB (i:=i) (by omega);have hL:=zrQ h hn;have hf:=hfs f (by rw[<-hs];exact jh hil);have hle:=h.AM _ (jh hn);have jO:(out.length+1)*40<=140737488355328:=by omega
  simp only[zXq,jf,decide_eq_true_eq]at hp;have e1:IntKind.i64.wrap (f-100)=f-100:=wr (by omega) (by omega);have e2:IntKind.i64.wrap (f+100)=f+100:=wr (by omega) (by omega);have e3:IntKind.i64.wrap (p.v-5)=p.v-5:=wr (by omega) (by omega);have e4:IntKind.i64.wrap (p.v+5)=p.v+5:=wr (by omega) (by omega);rw[kj,show out++zYk n m.je[n].len p f::r.map (zYk n m.je[n].len p)=(out++[zYk n m.je[n].len p f])++r.map (zYk n m.je[n].len p) by simp,<-ih (i+1) (out++[zYk n m.je[n].len p f]) hd' hil (by simp;omega),zj zW8.eq_1];clear ih;generalize qi:m.je[n].len=ln at *;simp only[zf]at hL;simp[hil,hs,hw,zf,zYi,zWN,zYk,hL,jO,zg,zH,e1,e2,e3,e4,zoU]
theorem z1F{m:zD}(h:zcp m)(h1:zXl m){n:Nat}(hn:n<m.je.length)(p:Pnt)(hp:zXq p=true):R L Cs zZo [.a (zf m),W n,.a (zYi p)] []=some (.w (.c (.jd (zWw (zXt n m.je[n] p)))),[]):=by
 have hb:=zYS h1 (jh hn) p;have hN:=(z1v h1 (jh hn) p).1;have hl:=z0v h hn p hp (zYj m.je[n] p) hb.2 (by omega) _ 0 [] rfl (jz _) (jz _);have htk:List.take (zXt n m.je[n] p).length (zWw (zXt n m.je[n] p))=zWw (zXt n m.je[n] p):=zYQ _;have hfl:(zXt n m.je[n] p).length=(zYj m.je[n] p).length:=by simp[zXt]
 simp only[jK]at hl;change Y _ _ _ _ _ _ _=some (_,[_,(7,.w (.c (sl 3 5 (zWw (zXt n m.je[n] p))))),_,_,_,_,_,_],[_,_,_,some (own 5 (zWw (zXt n m.je[n] p)))])at hl;generalize zXt n m.je[n] p=ft at *;generalize zYj m.je[n] p=nl at *;simp only[jt,zXx,sl,own,jA,zYf,zf,zYi]at hl;simp only[zeT]at hN;rw[zUa zZx rfl];simp[zXX,zf,zYi,hn,zo,hN,hl,zg,zX,htk]
abbrev oB(v:Nat)(o:List Fnd):Option Blk:=some { box:=false,esz:=5,rows:=zWw o,gen:=o.length,fz:=false,ver:=v }
abbrev oS(id:Nat)(o:List Fnd):Cl:=.slice id o.length 5 0 o.length none
def zXw(n:Nat)(l:zfn)(ps:List Pnt):List Fnd:=ps.flatMap (zXt n l)
theorem zZf{m:zD}(h1:zXl m){n:Nat}(hn:n<m.je.length)(p:Pnt):(zXt n m.je[n] p).length<=1:=by
 have:=(zYS h1 (jh hn) p).1;simpa [zXt]using this
theorem zZK{m:zD}(h:zcp m)(h1:zXl m){n:Nat}(hn:n<m.je.length)(v nl:Nat)(o:List Fnd)(pts cs:List Pnt)(hcs:∀p∈cs,zXq p=true)(hl:cs.length<=1000):∀(r:List Pnt) (i:Nat) (l:List Fnd),cs.drop i=r->i<=cs.length->l.length<=i ->
  Y L Cs zW6 (some [7,27,26,5,21,20,1,25,2,6]) 4 [(7,.w (.c (sl 3 5 (zWw l)))),(27,.w (W i)),(26,.w (W cs.length)),(5,.w (.c (oS 2 o))),(21,.w (W n)),(20,.w (W nl)),(1,.w (.c (.jd (zWs pts)))),(25,.w (.c (.jd (zWs cs)))),(2,.w (Pt 0)),(6,.w (W n))] [bx 5 (zf m),gb 5,oB v o,some (own 5 (zWw l))] =
    some (.exit 2,[(28,.w (Bo false)),(7,.w (.c (sl 3 5 (zWw (l++zXw n m.je[n] r))))),(27,.w (W cs.length)),(26,.w (W cs.length)),(5,.w (.c (oS 2 o))),(21,.w (W n)),(20,.w (W nl)),(1,.w (.c (.jd (zWs pts)))),(25,.w (.c (.jd (zWs cs)))),(2,.w (Pt 0)),(6,.w (W n))],[bx 5 (zf m),gb 5,oB v o,some (own 5 (zWw (l++zXw n m.je[n] r)))]):=by
 intro r;induction r with
 |nil =>
  intro i l hd hi ho;obtain rfl:=zUb hd hi;rw[zj zW6.eq_1];simp[zXw]
 |cons p r ih =>
  intro i l hd hi ho;obtain⟨hil,hs,hd'⟩:=zL hd;have hw:=zB (i:=i) (by omega);have hp:=hcs p (by rw[<-hs];exact jh hil);have hF:=z1F h h1 hn p hp;have hfl:=zZf h1 hn p;have jO:(l.length+1)*40<=140737488355328:=by omega
  have A5:l.length*40<=140737488355328:=by omega
  rw[show l++zXw n m.je[n] (p::r)=(l++zXt n m.je[n] p)++zXw n m.je[n] r by simp[zXw],<-ih (i+1) (l++zXt n m.je[n] p) hd' hil (by simp;omega),zj zW6.eq_1];clear ih;generalize zXt n m.je[n] p=ft at *;simp only[zf,zYi]at hF
  match ft,hfl with
  |[],_=>simp[hil,hs,hw,zf,zYi,hF,A5,zg,zH]
  |[f],_=>simp[hil,hs,hw,zf,zYi,zWN,hF,jO,zg,zH]
def yA(y x:Fnd):Fnd:=⟨y.lane,y.lo,max y.hi x.hi,min y.v1 x.v1,max y.v2 x.v2⟩
def grp(g:List Fnd)(x:Fnd):List Fnd:=match g.getLast? with
 |none=>[x]
 |some y=>if x.lo-y.hi<=500 then g.dropLast++[yA y x] else g++[x]
structure InB(f:Fnd):Prop where
 a:0<=f.lo/\f.lo<=10000000
 b:0<=f.hi/\f.hi<=10000000
theorem z0h(g:List Fnd)(x:Fnd):(grp g x).length<=g.length+1:=by
 unfold grp;split
 ·simp
 ·split
  ·simp<;>omega
  ·simp
theorem z1j{g:List Fnd}{x:Fnd}(hg:∀y∈g,InB y)(hx:InB x):∀y∈grp g x,InB y:=by
 intro z hz;unfold grp at hz;split at hz
 ·simp at hz;subst hz;exact hx
 ·rename_i y hy;split at hz
  ·simp only[jw,jm]at hz;rcases hz with hz|rfl
   ·exact hg z (List.dropLast_subset _ hz)
   ·have:=hg y (List.mem_of_getLast? hy);exact⟨this.a,by have h1:=this.b;have h2:=hx.b;simp only[yA];omega⟩
  ·simp only[jw,jm]at hz;rcases hz with hz|rfl
   ·exact hg z hz
   ·exact hx
abbrev lB(v:Nat)(s:List Fnd):Option Blk:=oB v s
theorem zYG{m:zD}(n nl w:Nat)(fo:List Fnd)(hfo:fo.length<=100000)(pts:List Pnt)(s:List Fnd)(hsB:∀x∈s,InB x)(hl:s.length<=1000):∀(r:List Fnd) (i v:Nat) (g:List Fnd),s.drop i=r->i<=s.length->g.length<=i->(∀y∈g,InB y) ->
  ∃v',Y L Cs zWH (some [44,43,2,1,20,21,42,10,5]) 4 [(44,.w (W i)),(43,.w (W s.length)),(2,.w (Pt 0)),(1,.w (.c (.jd (zWs pts)))),(20,.w (W nl)),(21,.w (W n)),(42,.w (.c (oS 3 s))),(10,.w (W fo.length)),(5,.w (.c (oS 2 (fo++g))))] [bx 5 (zf m),gb 5,oB v (fo++g),lB w s] =
   some (.exit 4,[(45,.w (Bo false)),(44,.w (W s.length)),(43,.w (W s.length)),(2,.w (Pt 0)),(1,.w (.c (.jd (zWs pts)))),(20,.w (W nl)),(21,.w (W n)),(42,.w (.c (oS 3 s))),(10,.w (W fo.length)),(5,.w (.c (oS 2 (fo++r.foldl grp g))))],[bx 5 (zf m),gb 5,oB v' (fo++r.foldl grp g),lB w s]):=by
 intro r;induction r with
 |nil =>
  intro i v g hd hi ho hg;obtain rfl:=zUb hd hi;refine⟨v,?_⟩;rw[zj zWH.eq_1];simp
 |cons x r ih =>
  intro i v g hd hi ho hg;obtain⟨hil,hs,hd'⟩:=zL hd;have hw:=zB (i:=i) (by omega);have hx:=hsB x (by rw[<-hs];exact jh hil);have hgl:=z0h g x;have hgB:=z1j hg hx;rcases List.eq_nil_or_concat g with rfl |⟨g',y,rfl⟩
  ·obtain⟨v',ih⟩:=ih (i+1) (v+1) [x] hd' hil (by simp) (by simpa using hx);refine⟨v',?_⟩;rw[jI,show grp [] x=[x] from rfl,<-ih,zj zWH.eq_1];clear ih;have jO:(fo.length+1)*40<=140737488355328:=by omega
   have e1:IntKind.i64.wrap ((fo.length:Int)-1)=(fo.length:Int)-1:=wr (by omega) (by omega);have e2:¬((fo.length:Int)<=(fo.length:Int)-1):=by omega
   simp[hil,hs,hw,zWN,jO,zg,zH,e1,e2,zf,oB,oS,lB]
  ·simp only[List.concat_eq_append]at ho hg hgl hgB ⊢;have hy:=hg y (by simp);obtain⟨hya,hyb⟩:=hy.b;obtain⟨hxa,hxb⟩:=hx.a;have e3:IntKind.i64.wrap (x.lo-y.hi)=x.lo-y.hi:=wr (by omega) (by omega);have hA:∀z:Fnd,zWw (fo++(g'++[z]))=zWw (fo++g')++[zWN z]:=fun z=>by simp
   have hlen:∀z:Fnd,(fo++(g'++[z])).length=(fo++g').length+1:=fun z=>by simp;omega
   have hAl:(zWw (fo++g')).length=(fo++g').length:=zYf _;have hK1:fo.length<=(fo++g').length:=by simp
   have hKb:(fo++g').length<=200000:=by simp at ho ⊢;omega
   by_cases c:x.lo-y.hi<=500
   ·have eg:grp (g'++[y]) x=g'++[yA y x]:=by simp[grp,c]
    rw[jI,eg];obtain⟨v',ih⟩:=ih (i+1) (v+3) (g'++[yA y x]) hd' hil (by simp at ho ⊢;omega) (by rw[<-eg];exact hgB);refine⟨v',?_⟩;simp only[oB,oS,lB,hA,hlen]at ih ⊢;rw[<-ih,zj zWH.eq_1];clear ih hgB hgl eg hA hlen;generalize zWw (fo++g')=A at *;generalize (fo++g').length=K at *;have qI:∀a:List Cl,(A++[a])[K]?=some a:=fun a=>by rw[<-hAl];simp
    have yQ:∀a b:List Cl,(A++[a]).set K b=A++[b]:=fun a b=>by rw[<-hAl];simp
    have e1:IntKind.i64.wrap (((K+1:Nat):Int)-1)=(K:Int):=by rw[wr (by omega) (by omega)];omega
    have e1':IntKind.i64.wrap ((K:Int)+1-1)=(K:Int):=by rw[wr (by omega) (by omega)];omega
    have e1'':IntKind.i64.wrap (K:Int)=(K:Int):=wr (by omega) (by omega);have e2:(fo.length:Int)<=(K:Int):=by omega
    have hk1:(K:Int)<(K:Int)+1:=by omega
    simp[hil,hs,hw,zWN,zg,zH,e1,e1',e1'',e2,e3,zf,qI,yQ,c,hk1,hK1,zoU,yA,oB,oS,lB]
   ·have eg:grp (g'++[y]) x=g'++[y]++[x]:=by simp[grp,c]
    rw[jI,eg];obtain⟨v',ih⟩:=ih (i+1) (v+1) (g'++[y]++[x]) hd' hil (by simp at ho ⊢;omega) (by rw[<-eg];exact hgB);refine⟨v',?_⟩;have hA2:zWw (fo++(g'++[y]++[x]))=zWw (fo++g')++[zWN y]++[zWN x]:=by simp
    have hlen2:(fo++(g'++[y]++[x])).length=(fo++g').length+2:=by simp;omega
    simp only[oB,oS,lB,hA,hA2,hlen,hlen2]at ih ⊢;rw[<-ih,zj zWH.eq_1];clear ih hgB hgl eg hA2 hlen2 hA hlen;generalize zWw (fo++g')=A at *;generalize (fo++g').length=K at *;have qI:∀a:List Cl,(A++[a])[K]?=some a:=fun a=>by rw[<-hAl];simp
    have e1:IntKind.i64.wrap (((K+1:Nat):Int)-1)=(K:Int):=by rw[wr (by omega) (by omega)];omega
    have e1':IntKind.i64.wrap ((K:Int)+1-1)=(K:Int):=by rw[wr (by omega) (by omega)];omega
    have e1'':IntKind.i64.wrap (K:Int)=(K:Int):=wr (by omega) (by omega);have e2:(fo.length:Int)<=(K:Int):=by omega
    have hk1:(K:Int)<(K:Int)+1:=by omega
    have jO:(K+1+1)*40<=140737488355328:=by omega
    have hKA:K<=A.length:=by omega
    have htk:∀a:List Cl,(A++[a]).take (K+1)=A++[a]:=fun a=>jF (by simp;omega)
    simp[hil,hs,hw,zWN,zg,zH,e1,e1',e1'',e2,e3,zf,qI,c,hk1,hK1,jO,hKA,htk,zoU,oB,oS,lB]
theorem zqr(k key:Nat)(l:List (List Int)):(ziS k key l).Perm l:=by
 obtain⟨⟨h1,h2,h3⟩,_⟩:=znh k key l;unfold ziS;generalize Go.Sort.pdq (ltZ k key) l.toArray 0 l.length (zsn l.length) true true=d at *;have e1:d.size=l.length:=by simpa using h1
 have e2:d.extract 0 l.length=d:=by rw[<-e1];simp
 have e3:l.toArray.extract 0 l.length=l.toArray:=by simp
 rw[e2,e3]at h3;simpa using h3
def Fnd.ints(f:Fnd):List Int:=[f.lane,f.lo,f.hi,f.v1,f.v2]
def zYR(l:List Int):Fnd:=⟨l.getD 0 0,l.getD 1 0,l.getD 2 0,l.getD 3 0,l.getD 4 0⟩
def zYJ(l:List Fnd):List Fnd:=(ziS 5 1 (l.map Fnd.ints)).map zYR
theorem zZa(l:List Fnd):(zYJ l).Perm l:=by
 have:=(zqr 5 1 (l.map Fnd.ints)).map zYR;simpa [zYJ,vG,Function.comp_def,Fnd.ints,zYR]using this
theorem zX5(l:List Fnd):(zYJ l).length=l.length:=(zZa l).length_eq
theorem z09(l:List Fnd):zv2 5 1 (zWw l)=some (l.map Fnd.ints):=by
 induction l with
 |nil=>rfl
 |cons f l ih=>simp[zv2,zuC,zWN,ih,Fnd.ints,zgk]
theorem z0U(z:List Int):zsl 5 1 z=zWN (zYR z):=by simp[zsl,zWN,zYR,List.range,List.range.loop,zjS,zgk]
theorem z0K(l:List Fnd):(ziS 5 1 (l.map Fnd.ints)).map (zsl 5 1)=zWw (zYJ l):=by
 simp[zYJ,zWw,vG,Function.comp_def,z0U]
theorem zZV:List.lookup zWy Cs=some (0,64*zWr+41,false):=by kernel_rfl
theorem z0m:L.lookup zWy=none:=by kernel_rfl
theorem zZS(w:Nat):R L Cs zWy [.c (oS 0 []),.c (.fn zWr [] [])] [oB w []]=some (.t [],[oB w []]):=by
 rw[zrP z0m];unfold uG;rw[zZV];have e1:(64*zWr+41) / 64=zWr:=by decide
 simp[e1,zqs]
theorem z1u(l:List Fnd)(hl:l.length<=100000)(h0:l≠[])(w:Nat):R L Cs zWy [.c (oS 0 l),.c (.fn zWr [] [])] [oB w l]=some (.t [],[oB (w+1) (zYJ l)]):=by
 rw[zrP z0m];unfold uG;rw[zZV];have e1:(64*zWr+41) / 64=zWr:=by decide
 have e2:(64*zWr+41) / 8 % 8=5:=by decide
 have e3:(64*zWr+41) % 8=1:=by decide
 have h1:l.length≠0:=by simpa using h0
 have h2:l.length<4611686018427387904:=by omega
 have hz:=z09 l;have hr:=z0K l;have hd:List.drop l.length (zWw l)=[]:=uj (by simp);simp[e1,e2,e3,zqs,h0,h1,h2,hz,hr,hd,zX5]
theorem zxI{m:zD}(h:zcp m):∀(r:List zk) (p:zk),zls m p r=0->∀b∈r,VB m b
 |[],_,_,b,hb=>by cases hb
 |x::r,p,hc,b,hb=>by
  unfold zls at hc;split at hc
  ·rename_i h1;exact absurd hc h1
  ·rename_i h1;have h1:zer m p x=0:=by simpa using h1
   rcases jr.1 hb with rfl|hb
   ·obtain⟨a1,a2,a3,a4,a5,a6,a7,a8,a9,a10,_,_⟩:=zui h h1;exact⟨⟨a1,a2⟩,a3,a4,a5,a6,a7,a8,⟨a9,a10⟩⟩
   ·exact zxI h r x hc b hb
theorem zxJ{m:zD}(h:zcp m){k:zci}(hc:zdf m k=0):∀b∈k.jy,VB m b:=by
 unfold zdf at hc;split at hc
 ·cases hc
 ·exact zxI h _ _ hc
theorem zBO{m:zD}{x fr to:Int}{b:zk}(hb:VB m b):∀z∈zoX x fr to b,VB m z:=by
 intro z hz;unfold zoX at hz;split at hz
 ·simp only[jm]at hz;subst hz;exact hb
 ·rename_i hc;have a1:=hb.lo;have a2:=hb.le;have a3:=hb.hi;rcases jw.1 hz with hz|hz
  ·split at hz
   ·simp only[jm]at hz;subst hz;exact⟨hb.lane,hb.lo,by show b.lo<=fr-1;omega,by show fr-1<=z8 m b.lane;omega,hb.vlo,hb.vle,hb.vhi,hb.hold⟩
   ·cases hz
  ·split at hz
   ·simp only[jm]at hz;subst hz;exact⟨hb.lane,by show 0<=to+1;omega,by show to+1<=b.hi;omega,hb.hi,hb.vlo,hb.vle,hb.vhi,hb.hold⟩
   ·cases hz
theorem zxH{m:zD}{x fr to:Int}:∀(l:List zk),(∀b∈l,VB m b)->∀z∈zhn x fr to l,VB m z
 |[],_,z,hz=>by cases hz
 |b::l,h,z,hz=>by
  unfold zhn at hz;rcases jw.1 hz with hz|hz
  ·exact zBO (h b (jo ..)) z hz
  ·exact zxH l (fun y hy=>h y (jl _ hy)) z hz
theorem zvw{m:zD}(h:zcp m):∀(r:List zk) (p:zk),zls m p r=0->p.lane<m.je.length->p.hi<=1000000->(r.length:Int)+(p.lane*1000002+p.hi+1)<=m.je.length*1000002
 |[],p,_,h1,h2=>by simp only[jA];omega
 |x::r,p,hc,h1,h2=>by
  unfold zls at hc;split at hc
  ·rename_i hx;exact absurd hc hx
  ·rename_i hx;have hx:zer m p x=0:=by simpa using hx
   obtain⟨a1,a2,a3,a4,a5,a6,a7,a8,a9,a10,a11,a12⟩:=zui h hx;have ih:=zvw h r x hc a2 (by omega);simp only[zmM,not_or,not_and,Int.not_lt,Int.not_le]at a12;simp only[jG];by_cases e:x.lane=p.lane
   ·have:=a12.2 e;rw[e]at ih;omega
   ·omega
theorem zyQ(s:List zk)(x:zk):(zfK s x).Perm (x::s):=by
 unfold zfK;have:=kf (zev x s s.length) s;refine List.perm_middle.trans ?_;rw[this]
theorem znu:∀(r s:List zk),(r.foldl zfK s).Perm (s++r)
 |[],s=>by simp
 |x::r,s=>by
  refine(znu r (zfK s x)).trans ?_;refine((zyQ s x).append_right r).trans ?_;simpa using(List.perm_middle (a:=x) (l₁:=s) (l₂:=r)).symm
theorem zte{m:zD}{k:zci}(h:zdf m k=0):znd k.ego/\0<=k.tick/\k.tick<=1099511627776:=by
 unfold zdf at h;split at h
 ·cases h
 ·rename_i ho;unfold ziI zsa at ho;exact⟨⟨by omega,by omega⟩,by omega,by omega⟩
end Go.TrRun
