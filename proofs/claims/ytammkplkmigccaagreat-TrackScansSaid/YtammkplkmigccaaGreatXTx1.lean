/- This text proves what functions of this seat's program answer, run by the evaluator; no condition. -/
import Derived.Test.YtammkplkmigccaaGreatXTb1
set_option maxHeartbeats 8000000
set_option linter.unusedVariables false
set_option linter.unusedSimpArgs false
set_option linter.unusedSectionVars false
set_option maxRecDepth 10000
namespace Go.TrRun
open Go Go.Eng
theorem zL{α:Type}{l r:List α}{i:Nat}{x:α}(h:l.drop i=x::r):∃hi:i<l.length,l[i]=x/\l.drop (i+1)=r:=by
 have hi:i<l.length:=by
  have:=congrArg List.length h;simp at this;omega
 rw[kg hi]at h;exact⟨hi,(uz h).1,(uz h).2⟩
theorem zUb{α:Type}{l:List α}{i:Nat}(h:l.drop i=[])(hi:i<=l.length):i=l.length:=by
 have:=congrArg List.length h;simp at this;omega
theorem zB{i:Nat}(h:i<4000000000000000000):IntKind.i64.wrap ((i:Int)+1)=((i+1:Nat):Int):=by
 rw[zTd _ (by omega) (by omega)];simp
def zu(l:List Int):List (List Cl):=l.map fun x=>[I x]
@[simp] theorem zfq(l:List Int):(zu l).length=l.length:=by simp[zu]
@[simp] theorem zBj(l m:List Int):zu (l++m)=zu l++zu m:=by simp[zu]
@[simp] theorem zay:zu []=[]:=rfl
@[simp] theorem zaP(x:Int)(l:List Int):zu (x::l)=[I x]::zu l:=rfl
@[simp] theorem zCt(l:List Int):(zu l).take l.length=zu l:=jF (by simp)
@[simp] theorem zBd{l:List Int}{i:Nat}(h:i<(zu l).length):(zu l)[i]=[I (l[i]'(by simpa using h))]:=by simp[zu]
@[simp] theorem zCu(t:List Int):(∀x,x∈zu t->x.length=1)<->True:=by simp[zu]
structure zk where
 lane:Int
 lo:Int
 hi:Int
 vlo:Int
 vhi:Int
 hold:Int
 deriving DecidableEq
structure Ego where
 slo:Int
 shi:Int
 vlo:Int
 vhi:Int
 deriving DecidableEq
structure zci where
 tick:Int
 jJ:List zk
 ego:Ego
def ze(b:zk):List Cl:=[I b.lane,I b.lo,I b.hi,I b.vlo,I b.vhi,I b.hold]
def zI(l:List zk):List (List Cl):=l.map ze
def zG(k:zci):List Cl:=[I k.tick,.jc (zI k.jJ),I k.ego.slo,I k.ego.shi,I k.ego.vlo,I k.ego.vhi]
@[simp] theorem zgg(l:List zk):(zI l).length=l.length:=by simp[zI]
@[simp] theorem znQ(l m:List zk):zI (l++m)=zI l++zI m:=by simp[zI]
@[simp] theorem zic:zI []=[]:=rfl
@[simp] theorem zCy(x:zk)(l:List zk):zI (x::l)=ze x::zI l:=rfl
@[simp] theorem zCw(l:List zk):(zI l).take l.length=zI l:=jF (by simp)
@[simp] theorem zBe{l:List zk}{i:Nat}(h:i<(zI l).length):(zI l)[i]=ze (l[i]'(by simpa using h)):=by simp[zI]
@[simp] theorem zDd(b:zk):(ze b).length=6:=rfl
@[simp] theorem zCF(b:zk):(ze b).take 6=ze b:=rfl
@[simp] theorem zDb(t:List zk):(∀x,x∈zI t->x.length=6)<->True:=by simp[zI]
theorem zvv(l:List zk)(hl:l.length<=100000000000):R L Cs zmP [.c (.jc (zI l))] []=some (.w (.c (sl 0 6 (zI l))),[some (own 6 (zI l))]):=by
 have hr:l.length*48<=140737488355328:=by omega
 have hL:Cs.lookup zmP=some (6,48,false):=by kernel_rfl
 rw[zrP rfl];simp[vA,hL,zuh,hr]
theorem z1I(k:zci)(hl:k.jJ.length<=100000000000):R L Cs zZq [.a (zG k)] []=some (.w (.a (zG k)),[]):=by
 have hc:=zvv k.jJ hl;rw[zUa zZz rfl];simp[zul,zG,hc]
theorem zy8(k:zci)(hl:k.jJ.length<=100000000000):R L Cs zln [.a (zG k)] []=some (.w (.a (zG k)),[]):=by
 have hr:k.jJ.length*48<=140737488355328:=by omega
 rw[zUa zlD rfl];cases hb:k.jJ with
 |nil=>simp[zdH,zG,hb]
 |cons b l =>
  rw[hb]at hr;simp at hr;simp[zdH,zG,hb,hr]
def zgQ(a b:Int):Int:=if a<b then -1 else if b<a then 1 else 0
theorem zpH(a:Int):R L Cs zlc [W a] []=some (.w (Bo false),[]):=by
 rw[zUa zle rfl];simp[zfU]
theorem zjw(a:Int):R L Cs zi5 [W a] []=some (.w (Bo false),[]):=by
 rw[zUa zi9 rfl];simp[ze6]
theorem zsr(a b:Int):R L Cs zi6 [W a,W b] []=some (.w (W (zgQ a b)),[]):=by
 rw[zUa zja rfl];have h1:=zpH a;have h2:=zpH b;by_cases h:a<b
 ·simp[zb3,h1,h2,h,zgQ]
 ·by_cases h':b<a
  ·simp[zb3,h1,h2,h,h',zgQ]
  ·simp[zb3,h1,h2,h,h',zgQ]
theorem zp1(a b:Int):R L Cs zhQ [W a,W b] []=some (.w (W (zgQ a b)),[]):=by
 rw[zUa zhS rfl];have h1:=zjw a;have h2:=zjw b;by_cases h:a<b
 ·simp[zbq,h1,h2,h,zgQ]
 ·by_cases h':b<a
  ·simp[zbq,h1,h2,h,h',zgQ]
  ·simp[zbq,h1,h2,h,h',zgQ]
theorem zBq(l:List Int)(hl:l.length<=1000):Y L Cs zab (some [7,6,3,8]) 0 [(7,.w (W l.length)),(6,.w (.c (.jc (zu l)))),(3,.w (W 0)),(8,.w (W (0:Nat)))] [] =
  some (match l.findIdx? (fun x=>x !=0)with |some i=>(.ret,[(2,.w (W ((l[i]?).getD 0)))],[]) |none=>(.exit 0,[(9,.w (Bo false)),(3,.w (W 0)),(6,.w (.c (.jc (zu l)))),(7,.w (W l.length)),(8,.w (W l.length))],[])):=by
 refine zxf l (fun i=>[(7,.w (W l.length)),(6,.w (.c (.jc (zu l)))),(3,.w (W 0)),(8,.w (W i))]) _ _ _ _ ?_ ?_ ?_
 ·intro i h hp;have hw:=zB (i:=i) (by omega);simp at hp;rw[zj zab.eq_1];simp[h,hw,hp]
 ·intro i h hp;rw[zj zab.eq_1];simp[h,hp]
 ·rw[zj zab.eq_1];simp
theorem zA0(x y:Int):R L Cs zob [.c (.jc (zu [x,y]))] []=some (.w (W (if x≠0 then x else y)),[]):=by
 have h:=zBq [x,y] (by simp);simp only[ji,zaP,zay,jw,jB]at h;rw[zUa zow rfl];by_cases hx:x=0
 ·by_cases hy:y=0
  ·simp[hx,hy,uG]at h;simp[zfw,h,hx,hy]
  ·have hb:(y !=0)=true:=by simp[hy]
   simp[hx,hy,hb,uG]at h;simp[zfw,h,hx,hy]
 ·have hb:(x !=0)=true:=by simp[hx]
  simp[hx,hb,uG]at h;simp[zfw,h,hx]
def ziK(a b:zk):Int:=if zgQ a.lane b.lane≠0 then zgQ a.lane b.lane else zgQ a.lo b.lo
theorem zrR(b:zk):R L Cs zct [.a (ze b)] []=some (.w (Bo (decide (b.hi<b.lo))),[]):=by
 rw[zUa zp6 rfl];simp[zhH,ze]
theorem zop(a b:zk):R L Cs zdc [.a (ze a),.a (ze b)] []=some (.w (W (ziK a b)),[]):=by
 have h:=zA0 (zgQ a.lane b.lane) (zgQ a.lo b.lo);have h1:=zsr a.lane b.lane;have h2:=zp1 a.lo b.lo;simp only[zaP,zay]at h;rw[zUa zp5 rfl];simp[zhG,ze,h1,h2,h,ziK,zX]
structure zfn where
 kind:Int
 pts:List (Int×Int)
 half:Int
 yu:Int
 next:List Int
 len:Int
structure zCP where
 lane:Int
 lo:Int
 hi:Int
 Bp:Int
 ends:Int
 yu:Int
structure zD where
 version:Int
 jf:List zfn
 k9:List (List Cl)
 signals:List (List Cl)
 uf:List zCP
def zo(l:zfn):List Cl:=[I l.kind,.jc (l.pts.map fun p=>[I p.1,I p.2]),I l.half,I l.yu,.jc (zu l.next)]
def zaL(w:zCP):List Cl:=[I w.lane,I w.lo,I w.hi,I w.Bp,I w.ends,I w.yu]
def zf(m:zD):List Cl:=[I m.version,.jc (m.jf.map zo),.jc m.k9,.jc m.signals,.jc (m.uf.map zaL)]
def zes(x:Int):Nat->List zfn->List Int
 |_,[]=>[]
 |k,l::ls=>if x∈l.next then(k:Int)::zes x (k+1) ls else zes x (k+1) ls
theorem zAo(l:List Int)(x:Int)(hl:l.length<=100000):∀(r:List Int) (i:Nat),l.drop i=r->i<=l.length ->
  (x∉r->Y L Cs zaT (some [0,1,5]) 0 [(0,.w (.c (.jc (zu l)))),(1,.w (W x)),(5,.w (W i))] []=some (.exit 0,[(9,.w (Bo false)),(1,.w (W x)),(0,.w (.c (.jc (zu l)))),(5,.w (W l.length))],[])) /\
  (x∈r->Y L Cs zaT (some [0,1,5]) 0 [(0,.w (.c (.jc (zu l)))),(1,.w (W x)),(5,.w (W i))] []=some (.ret,[(4,.w (Bo true))],[])):=by
 intro r;induction r with
 |nil =>
  intro i hd hi;obtain rfl:=zUb hd hi;refine⟨fun _=>zhJ ?_ (by simp),fun h=>by simp at h⟩;simp[zaT]
 |cons y r ih =>
  intro i hd hi;obtain⟨hil,hy,hd'⟩:=zL hd;obtain⟨ih1,ih2⟩:=ih (i+1) hd' hil;have hw:=zB (i:=i) (by omega);by_cases hxy:y=x
  ·refine⟨fun h=>by simp[hxy]at h,fun _=>zhJ ?_ (by simp)⟩;have hb:(y==x)=true:=by simp[hxy]
   simp[zaT,hil,hy,hb]
  ·have hb:(y==x)=false:=by simp[hxy]
   have Ab:Y L Cs zaT (some [0,1,5]) 0 [(0,.w (.c (.jc (zu l)))),(1,.w (W x)),(5,.w (W i))] []=Y L Cs zaT (some [0,1,5]) 0 [(0,.w (.c (.jc (zu l)))),(1,.w (W x)),(5,.w (W (i+1:Nat)))] []:=by
    rw[zrL];simp[zaT,hil,hy,hb,hw]
   rw[Ab];refine⟨fun h=>ih1 (fun h'=>h (jp _ h')),fun h=>ih2 ?_⟩;rcases js.1 h with h|h
   ·exact absurd h.symm hxy
   ·exact h
theorem zAX(l:List Int)(x:Int)(hl:l.length<=100000):R L Cs zmb [.c (.jc (zu l)),W x] []=some (.w (Bo (decide (x∈l))),[]):=by
 obtain⟨h1,h2⟩:=zAo l x hl l 0 rfl (jE _);simp only[ji]at h1 h2;rw[zUa zmu rfl];by_cases h:x∈l
 ·simp[zdY,h2 h,h]
 ·simp[zdY,h1 h,h]
theorem zqI(m:zD)(x:Int)(hn:m.jf.length<=100)(hx:∀l∈m.jf,l.next.length<=1000):∀(r:List zfn) (i:Nat) (out:List Int),m.jf.drop i=r->i<=m.jf.length->out.length<=i ->
  Y L Cs zbI (some [5,6,2,1]) 3 [(5,.w (.c (sl 2 1 (zu out)))),(6,.w (W i)),(2,.w (Pt 0)),(1,.w (W x))] [some { box:=true,esz:=5,rows:=[zf m],gen:=0,fz:=false,ver:=0 },some { box:=false,esz:=1,rows:=[],gen:=0,fz:=false,ver:=0 },some (own 1 (zu out))] =
    some (.exit 0,[(11,.w (Bo false)),(5,.w (.c (sl 2 1 (zu (out++zes x i r))))),(6,.w (W m.jf.length)),(2,.w (Pt 0)),(1,.w (W x))],[some { box:=true,esz:=5,rows:=[zf m],gen:=0,fz:=false,ver:=0 },some { box:=false,esz:=1,rows:=[],gen:=0,fz:=false,ver:=0 },some (own 1 (zu (out++zes x i r)))]):=by
 intro r;induction r with
 |nil =>
  intro i out hd hi ho;obtain rfl:=zUb hd hi;refine zhJ ?_ (by simp);simp[zbI,zes,zf]
 |cons l r ih =>
  intro i out hd hi ho;obtain⟨hil,hl,hd'⟩:=zL hd;have hw:=zB (i:=i) (by omega);have hc:=zAX l.next x (by have:=hx l (by rw[<-hl];exact jb hil);omega);have jU:(out.length+1)*8<=140737488355328:=by omega
  by_cases hb:x∈l.next
  ·have B4:=ih (i+1) (out++[(i:Int)]) hd' hil (by simp;omega);rw[zes,if_pos hb,show out++(i:Int)::zes x (i+1) r=(out++[(i:Int)])++zes x (i+1) r by simp,<-B4,zrL];simp[hb]at hc;simp[zbI,hil,hl,zo,zf,hc,hw,jU]
  ·have B4:=ih (i+1) out hd' hil (by omega);rw[zes,if_neg hb,<-B4,zrL];simp[hb]at hc;simp[zbI,hil,hl,zo,zf,hc,hw]
theorem zpG(m:zD)(x:Int)(hn:m.jf.length<=100)(hx:∀l∈m.jf,l.next.length<=1000):R L Cs zjP [.a (zf m),W x] []=some (.w (.c (.jc (zu (zes x 0 m.jf)))),[]):=by
 have h:=zqI m x hn hx m.jf 0 [] rfl (jE _) (jE _);simp only[ji,jH,zf,zay,sl,own,jB,zfq]at h;rw[zUa zkb rfl];simp[zeo,zf,h]
def goF(m:zD):Int->List Int->Bool
 |_,[]=>true
 |a,x::xs=>decide (x∈((m.jf[a.toNat]?).map zfn.next).getD [])&&goF m x xs
structure zvM(m:zD):Prop where
 jf:m.jf.length<=14
 next:∀l∈m.jf,l.next.length<=10
 valid:∀l∈m.jf,∀x∈l.next,0<=x/\x<m.jf.length
def zdA(m:zD):List Int->Int
 |[]=>13
 |x::t=>if 8<t.length+1 then 13 else if x<0 then 13 else if(m.jf.length:Int)<=x then 13 else if zes x 0 m.jf≠[] then 13 else if goF m x t then 0 else 13
theorem zr4(m:zD)(h:zvM m)(l:List Int)(hl:l.length<=1000):∀(r:List Int) (i:Nat) (a:Int),l.drop i=a::r->0<=a->a<m.jf.length ->
  (goF m a r=true->Y L Cs zag (some [2,1,6]) 1 [(2,.w (Pt 0)),(1,.w (.c (.jc (zu l)))),(6,.w (W (i+1:Nat)))] [some { box:=true,esz:=5,rows:=[zf m],gen:=0,fz:=false,ver:=0 }]=some (.exit 0,[(47,.w (Bo false)),(1,.w (.c (.jc (zu l)))),(2,.w (Pt 0)),(6,.w (W l.length))],[some { box:=true,esz:=5,rows:=[zf m],gen:=0,fz:=false,ver:=0 }])) /\
  (goF m a r=false->Y L Cs zag (some [2,1,6]) 1 [(2,.w (Pt 0)),(1,.w (.c (.jc (zu l)))),(6,.w (W (i+1:Nat)))] [some { box:=true,esz:=5,rows:=[zf m],gen:=0,fz:=false,ver:=0 }]=some (.ret,[(4,.w (W 13))],[some { box:=true,esz:=5,rows:=[zf m],gen:=0,fz:=false,ver:=0 }])):=by
 intro r;induction r with
 |nil =>
  intro i a hd h1 h2;obtain⟨hil,hx,hd'⟩:=zL hd;have hlen:=zUb hd' hil;rw[hlen];refine⟨fun _=>zhJ ?_ (by simp),fun h=>by simp[goF]at h⟩;simp[zag]
 |cons x r ih =>
  intro i a hd h1 h2;obtain⟨hil,ha,hd'⟩:=zL hd;obtain⟨hil2,hx,_⟩:=zL hd';have hal:a.toNat<m.jf.length:=by omega
  have qr:((m.jf[a.toNat]?).map zfn.next).getD []=(m.jf[a.toNat]).next:=by rw[ju hal];rfl
  have yb:m.jf[a.toNat]∈m.jf:=jb hal;have hc:=zAX (m.jf[a.toNat]).next x (by have:=h.next _ yb;omega);have hlt:((i:Int)+1<l.length):=by omega
  have hwi2:IntKind.i64.wrap (i:Int)=(i:Int):=zTd _ (by omega) (by omega);have h0:(0:Int)<=(i:Int)+1:=by omega
  have ht:((i:Int)+1).toNat=i+1:=by omega
  have hw2:=kQ ((i:Int)+1+1);by_cases hb:x∈(m.jf[a.toNat]).next
  ·obtain⟨v1,v2⟩:=h.valid _ yb x hb;obtain⟨ih1,ih2⟩:=ih (i+1) x hd' v1 v2;have Ab:Y L Cs zag (some [2,1,6]) 1 [(2,.w (Pt 0)),(1,.w (.c (.jc (zu l)))),(6,.w (W (i+1:Nat)))] [some { box:=true,esz:=5,rows:=[zf m],gen:=0,fz:=false,ver:=0 }]=Y L Cs zag (some [2,1,6]) 1 [(2,.w (Pt 0)),(1,.w (.c (.jc (zu l)))),(6,.w (W (i+1+1:Nat)))] [some { box:=true,esz:=5,rows:=[zf m],gen:=0,fz:=false,ver:=0 }]:=by
    rw[zrL];simp[hb]at hc;simp[zag,hil,hil2,ha,hx,zf,zo,hc,hwi2,hw2,hlt,h0,ht,h1,h2,hal]
   rw[Ab];simp only[goF,qr,hb,decide_true,qy];exact⟨ih1,ih2⟩
  ·refine⟨fun hg=>by simp[goF,qr,hb]at hg,fun _=>zhJ ?_ (by simp)⟩;simp[hb]at hc;simp[zag,hil,hil2,ha,hx,zf,zo,hc,hwi2,hw2,hlt,h0,ht,h1,h2,hal]
theorem zp0(m:zD)(h:zvM m)(hck:R L Cs zeE [.a (zf m)] []=some (.w (W 0),[]))(l:List Int)(hl:l.length<=1000):R L Cs zh0 [.a (zf m),.c (.jc (zu l))] []=some (.w (W (zdA m l)),[]):=by
 have hloop:=zr4 m h;simp only[zf]at hck hloop;rw[zUa zia rfl];cases l with
 |nil=>simp[zai,zf,hck,zdA]
 |cons x t =>
 have hne:((t.length:Int)+1==0)=false:=by simp;omega
 have A9:=zpG m x (by have:=h.jf;omega) (fun l hl=>by have:=h.next l hl;omega);simp only[zf]at A9;simp only[zdA];by_cases h8:8<t.length+1
 ·have h8':(8:Int)<(t.length:Int)+1:=by omega
  simp[zai,zf,hck,hne,h8,h8']
 have h8':¬(8:Int)<(t.length:Int)+1:=by omega
 rw[if_neg h8];by_cases h0:x<0
 ·simp[zai,zf,hck,hne,h8',h0]
 by_cases hn:(m.jf.length:Int)<=x
 ·simp[zai,zf,hck,hne,h8',h0,hn]
 by_cases hb:zes x 0 m.jf=[]
 ·rw[hb]at A9;simp only[zay]at A9;obtain⟨l1,l2⟩:=hloop (x::t) hl t 0 x rfl (by omega) (by omega);simp at l1 l2;have q1:(1:Int)<=(t.length:Int)+1:=by omega
  have q2:(0:Int)<=(t.length:Int)+1:=by omega
  have q3:1+t.length<=t.length+1:=by omega
  cases hg:goF m x t with
  |true =>
   have l1:=l1 hg;simp[zai,zf,hck,hne,h8',h0,hn,hb,A9,l1,q1,q2,q3]
  |false =>
   have l2:=l2 hg;simp[zai,zf,hck,hne,h8',h0,hn,hb,A9,l2,q1,q2,q3]
 ·have qf:0<(zes x 0 m.jf).length:=ke.2 hb;have Bt:(0:Int)<((zes x 0 m.jf).length:Int):=by omega
  simp[zai,zf,hck,hne,h8',h0,hn,hb,A9,qf,Bt]
def zeT(l:zfn):Cl:=.jc (l.pts.map fun p=>[I p.1,I p.2])
structure zcp(m:zD):Prop where
 small:zvM m
 chk:R L Cs zjl [.a (zf m)] []=some (.w (W 0),[])
 yQ:R L Cs zeE [.a (zf m)] []=some (.w (W 0),[])
 len:∀l∈m.jf,R L Cs zaw [.a [zeT l]] []=some (.w (W l.len),[])
 rlen:∀l∈m.jf,R L Cs zN [.a [zeT l]] []=some (.w (W l.len),[])
 Bf:∀l∈m.jf,1000<=l.len/\l.len<=1000000
 kind:∀l∈m.jf,l.kind=1\/l.kind=2\/l.kind=3
 yu:∀l∈m.jf,1<=l.yu/\l.yu<=2000
def z8(m:zD)(i:Int):Int:=if 0<=i then((m.jf[i.toNat]?).map zfn.len).getD 0 else 0
theorem zAV{m:zD}(h:zcp m){i:Nat}(hi:i<m.jf.length):R L Cs zkE [.a (zf m),W i] []=some (.w (W m.jf[i].len),[]):=by
 have hc:=h.len _ (jb hi);simp only[zeT]at hc;rw[zUa zou rfl];simp[zh5,zf,hi,zo,hc]
theorem ztk{m:zD}(h:zcp m){i:Nat}(hi:i<m.jf.length):R L Cs zgl [.a (zf m),W i] []=some (.w (W m.jf[i].len),[]):=by
 have hc:=h.rlen _ (jb hi);simp only[zeT]at hc;rw[zUa zka rfl];simp[zen,zf,hi,zo,hc]
theorem zA3{m:zD}(h:zcp m){i:Nat}(hi:i<m.jf.length):R L Cs zgX [.a (zf m),W i] []=some (.w (W m.jf[i].len),[]):=by
 have hc:=ztk h hi;simp only[zf]at hc;rw[zUa zlG rfl];simp[ze1,zf,hc]
theorem zrQ{m:zD}(h:zcp m){i:Nat}(hi:i<m.jf.length):R L Cs zri [.a (zf m),W i] []=some (.w (W m.jf[i].len),[]):=by
 have hl:=zAV h hi;have hk:=h.chk;simp only[zf]at hl hk;have his:R L Cs zwZ [.a (zf m),W i] []=some (.w (Bo true),[]):=by
  rw[zUa zxi rfl];simp[znA,zf,hi,hk]
 simp only[zf]at his;rw[zUa zrY rfl];simp[ziu,zf,his,hl]
theorem zEQ{m:zD}(h:zcp m){i:Nat}(hi:i<m.jf.length):R L Cs zDZ [.a (zf m),W i] []=some (.w (W m.jf[i].len),[]):=by
 have hl:=ztk h hi;have hk:=h.yQ;simp only[zf]at hl hk;have his:R L Cs zD9 [.a (zf m),W i] []=some (.w (Bo true),[]):=by
  rw[zUa zEa rfl];simp[zDW,zf,hi,hk]
 simp only[zf]at his;rw[zUa zD7 rfl];simp[zDR,zf,his,hl]
def zeR(k:Int):Int:=if k=1 then 2000 else if k=2 then 1000 else 300
def zif(k:Int):Int:=if k=1 then 30 else if k=2 then 20 else 100
def zd4(k:Int):Int:=if k=1 then 90 else if k=2 then 60 else 300
theorem znI:zaH L Cs 400 zgz [W 1] []=some (.t [W 2000,W 30,W 90],[])/\zaH L Cs 400 zgz [W 2] []=some (.t [W 1000,W 20,W 60],[])/\zaH L Cs 400 zgz [W 3] []=some (.t [W 300,W 100,W 300],[]):=⟨by kernel_rfl,by kernel_rfl,by kernel_rfl⟩
theorem zjg:zaH L Cs 400 zc1 [W 1] []=some (.t [W 2000,W 30,W 90],[])/\zaH L Cs 400 zc1 [W 2] []=some (.t [W 1000,W 20,W 60],[])/\zaH L Cs 400 zc1 [W 3] []=some (.t [W 300,W 100,W 300],[]):=⟨by kernel_rfl,by kernel_rfl,by kernel_rfl⟩
theorem zmo{k:Int}(h:k=1\/k=2\/k=3):R L Cs zgz [W k] []=some (.t [W (zeR k),W (zif k),W (zd4 k)],[]):=by
 rcases h with rfl|rfl|rfl
 ·exact zah.2 ⟨400,znI.1⟩
 ·exact zah.2 ⟨400,znI.2.1⟩
 ·exact zah.2 ⟨400,znI.2.2⟩
theorem zhv{k:Int}(h:k=1\/k=2\/k=3):R L Cs zc1 [W k] []=some (.t [W (zeR k),W (zif k),W (zd4 k)],[]):=by
 rcases h with rfl|rfl|rfl
 ·exact zah.2 ⟨400,zjg.1⟩
 ·exact zah.2 ⟨400,zjg.2.1⟩
 ·exact zah.2 ⟨400,zjg.2.2⟩
theorem zid{M:Mem}{r r':AV}(h:zoS M r=some r')(hb:r'.below 0=true):leave true 0 r M=some (r',[]):=by
 unfold leave;simp only[if_true,h];unfold finish;split
 ·rename_i h0;have:zbg M r.sls=[]:=jN.1 h0;rw[this]
 ·rw[if_pos (by rw[hb];simp[zH])];rfl
theorem zvj(M:Mem)(k:IntKind)(n:Int):zdR M (.int k n)=some (.int k n):=rfl
theorem zTV{M:Mem}{t:Int}{S x:Cl}{e:Ego}(h:zdR M S=some x)(hx:Eng.below 0 x=true):leave true 0 (.w (.a [I t,S,I e.slo,I e.shi,I e.vlo,I e.vhi])) M=some (.w (.a [I t,x,I e.slo,I e.shi,I e.vlo,I e.vhi]),[]) :=
 zid (by simp only[zoS,zn7,v8,h,zvj];rfl) (by show List.all [I t,x,I e.slo,I e.shi,I e.vlo,I e.vhi] (Eng.below 0)=true;simp only[qO,List.all_nil,hx];rfl)
def zTF(i:Nat)(l:zfn):zk:=⟨i,0,l.len,0,zeR l.kind,0⟩
def zTA:Nat->List zfn->List zk
 |_,[]=>[]
 |i,l::r=>zTF i l::zTA (i+1) r
abbrev zch(e:Ego):List Cl:=[I e.slo,I e.shi,I e.vlo,I e.vhi]
abbrev zTL(t:Int)(S:Cl)(e:Ego):List Cl:=[I t,S,I e.slo,I e.shi,I e.vlo,I e.vhi]
abbrev zFA:List Cl:=[I 0,.je,I 0,I 0,I 0,I 0]
def zQ(kind lim:Int)(next:List Int)(a b c d len:Int):zfn:={ kind:=kind,pts:=[(a,b),(c,d)],half:=if kind=3 then 500 else 1500,yu:=lim,next:=next,len:=len }
def zaY(o a b:Int):List Cl:=[I o,.jc [[I 12,.jc [[I a]]],[I 5,.jc []],[I 9,.jc [[I b]]],[I 4,.jc []]]]
theorem zaZ(kind lim:Int)(next:List Int)(a b c d len:Int):R L Cs zmT [W kind,W lim,.c (.jc (zu next)),.c (.jc (zu [a,b,c,d]))] []=some (.w (.a (zo (zQ kind lim next a b c d len))),[]):=by
 rw[zUa zm4 rfl];have hw1:IntKind.i64.wrap 1=1:=rfl;have hw2:IntKind.i64.wrap 2=2:=rfl;have hw3:IntKind.i64.wrap 3=3:=rfl;have hw4:IntKind.i64.wrap 4=4:=rfl;have hw5:IntKind.i64.wrap 5=5:=rfl;have hy:∃M' S v,Y L Cs zco (some [10,8,0,3,9]) 2 [(10,.w (W 0)),(8,.w (Pt 0)),(0,.w (W kind)),(3,.w (.c (.jc (zu [a,b,c,d])))),(9,.w (Pt 1))] [bx 5 [I 0,.je,I 0,I 0,.je],bxv 1 5 [I kind,.je,I 1500,I lim,.jc (zu next)]] =
   some (.exit 0,[(19,.w (Bo false)),(10,.w (W 4)),(8,.w (Pt 0)),(0,.w (W kind)),(3,.w (.c (.jc (zu [a,b,c,d])))),(9,.w (Pt 1))],bx 5 [I 0,.je,I 0,I 0,.je]::bxv v 5 [I kind,S,I 1500,I lim,.jc (zu next)]::M') /\
   (∀x y:Option Blk,zdR (x::y::M') S=some (.jc [[I a,I b],[I c,I d]])):=by
  refine⟨[some (own 2 [[I a,I b]]),some (own 2 [[I a,I b],[I c,I d]]),some (own 2 [[I c,I d]])],.slice 3 2 2 0 2 none,3,?_,?_⟩
  ·rw[zj zco.eq_1];simp[hw1,hw2,hw3,hw4,hw5,zg,zH];rw[zj zco.eq_1];simp[hw1,hw2,hw3,hw4,hw5,zg,zH];rw[zj zco.eq_1];simp[hw1,hw2,hw3,hw4,hw5,zg,zH]
  ·intro x y;simp[zdR,look]
 obtain⟨M',S,v,h1,h2⟩:=hy;simp only[zaP,zay]at h1;have hf:∀(M:Mem) (x y:Option Blk) (k2 h2 l2:Int),M=x::y::M'->zoS M (.w (.a [I k2,S,I h2,I l2,.jc (zu next)]))=some (.w (.a [I k2,.jc [[I a,I b],[I c,I d]],I h2,I l2,.jc (zu next)])):=by
  intro M x y k2 h2' l2 hM;subst hM;simp only[zoS,zn7,v8,h2 x y];rfl
 by_cases hk:kind=3
 ·subst hk;simp[zee,h1,-leave];exact zid (hf _ _ _ _ _ _ rfl) rfl
 ·have hb:(kind==3)=false:=by simp[hk]
  simp[zee,h1,hk,hb,-leave];have e:zo (zQ kind lim next a b c d len)=[I kind,.jc [[I a,I b],[I c,I d]],I 1500,I lim,.jc (zu next)]:=by simp[zo,zQ,hk]
  rw[e];exact zid (hf _ _ _ _ _ _ rfl) rfl
theorem zj1(o a b:Int):R L Cs zlr [W o,W a,W b] []=some (.w (.a (zaY o a b)),[]):=by
 rw[zUa zlH rfl];simp[ze2,zaY,zg,zX]
theorem zhR(n:Int):R L Cs zny [W n,W 16777216] []=some (.w (W (n % 16777216)),[]):=by
 rw[zUa znH rfl];have h1:0<=n->n.tmod 16777216=n % 16777216:=kN;have h2:n<0->n.tmod 16777216=-((-n) % 16777216):=fun hn=>by
  have e1:(-n).tmod 16777216=(-n) % 16777216:=kN (by omega);have e2:=Int.neg_tmod (-n) 16777216;rw[Int.neg_neg,e1]at e2;exact e2
 by_cases h:n.tmod 16777216<0
 ·have e:IntKind.i64.wrap (n.tmod 16777216+16777216)=n % 16777216:=by
   rw[zTd _ (by omega) (by omega)];omega
  simp[zeK,h,e]
 ·have e:n.tmod 16777216=n % 16777216:=by omega
  have h3:¬n % 16777216<0:=by omega
  simp[zeK,h3,e]
theorem zn{N d:Int}(hN:0<=N/\N<16777216)(hd:0<d):IntKind.i64.wrap (N.tdiv d)=N.tdiv d:=by
 rw[qd hN.1];have h1:0<=N / d:=Int.ediv_nonneg hN.1 (by omega);have h2:N / d<=N:=Int.ediv_le_self _ hN.1;exact zTd _ (by omega) (by omega)
theorem zE(N d e:Int)(hN:0<=N/\N<16777216)(hd:0<d)(he:0<e):0<=(N.tdiv d).tmod e/\(N.tdiv d).tmod e<e:=by
 rw[qd hN.1];have h1:0<=N / d:=Int.ediv_nonneg hN.1 (by omega);rw[kN h1];exact⟨kG _ (by omega),kr _ he⟩
def zdK(l a b r:Int):List Cl:=[I l,I a,I b,I r]
def zfa(ps:List (List Cl))(s:Int):List Cl:=[.jc ps,I s]
def zy(k:Nat)(lim:Int):List zfn:=match k with
 |0=>[zQ 1 lim [] 0 0 60000 0 60000]
 |1 |2=>[zQ 1 lim [] 0 0 50000 0 50000,zQ 1 1500 [] 30000 (-20000) 30000 20000 40000]
 |3=>[zQ 1 lim [1,2] 0 0 30000 0 30000,zQ 1 1500 [] 30000 0 60000 0 30000,zQ 1 800 [] 30000 0 54000 10000 26000]
 |4=>[zQ 1 lim [2] 0 0 30000 0 30000,zQ 1 1500 [2] 6000 (-10000) 30000 0 26000,zQ 1 1500 [] 30000 0 60000 0 30000]
 |5=>[zQ 1 lim [1] 0 0 20000 0 20000,zQ 1 lim [] 20000 0 50000 0 30000,zQ 3 200 [] 35000 (-8000) 35000 8000 16000]
 |_=>[zQ 1 lim [1,2] 0 0 20000 0 20000,zQ 1 1500 [] 20000 0 50000 0 30000,zQ 1 1000 [] 20000 0 44000 10000 26000,zQ 2 700 [] 36000 (-12000) 36000 18000 30000]
def zO(k:Nat)(r:Int):List (List Cl):=match k with
 |0=>[]
 |1=>[zfa [zdK 0 28000 32000 r,zdK 1 18000 22000 (2-2*r)] 0]
 |2=>[zfa [zdK 0 28000 32000 r,zdK 1 18000 22000 (2-2*r)] 1]
 |3=>[]
 |4=>[zfa [zdK 0 25000 30000 1,zdK 1 20000 26000 0,zdK 2 0 5000 0] 0]
 |5=>[zfa [zdK 1 14000 16000 0,zdK 2 6000 10000 3] 0]
 |_=>[zfa [zdK 1 14000 18000 1,zdK 3 10000 14000 0] (if r=1 then 1 else 0),zfa [zdK 2 14000 21000 1,zdK 3 14500 23000 0] (if r=1 then 2 else 0)]
def zt(k:Nat)(r o1 o2 o3:Int):List (List Cl):=match k with
 |2=>[zaY o1 0 1]
 |6=>if r=1 then [zaY o2 1 3,zaY o3 2 3] else []
 |_=>[]
def zak(w b t:Int):List zCP:=if w=1 then [⟨0,10000,15000,b,b+20,t*200⟩] else []
def zq(k:Nat)(lim r o1 o2 o3 v:Int)(ws:List zCP):zD:={ version:=v,jf:=zy k lim,k9:=zO k r,signals:=zt k r o1 o2 o3,uf:=ws }
def zeC(j:Nat):Int:=match j with |0=>1500 |1=>600 |2=>1000 |_=>300
theorem zea(j:Nat)(hj:j<4):([[I 1500],[I 600],[I 1000],[I 300]]:List (List Cl))[j]?=some [I (zeC j)]:=by
 match j,hj with
 |0,_=>rfl
 |1,_=>rfl
 |2,_=>rfl
 |3,_=>rfl
theorem zdd(j:Nat)(h:j<([[I 1500],[I 600],[I 1000],[I 300]]:List (List Cl)).length):([[I 1500],[I 600],[I 1000],[I 300]]:List (List Cl))[j]=[I (zeC j)]:=by
 match j,h with
 |0,_=>rfl
 |1,_=>rfl
 |2,_=>rfl
 |3,_=>rfl
theorem zTw(k:Nat)(n:Int)(h7:(n % 16777216).tmod 7=k)(hk:k<7) :
  R L Cs zY [W n] []=some (.w (.a (zf (zq k (zeC (((n % 16777216).tdiv 7).tmod 4).toNat) (((n % 16777216).tdiv 28).tmod 2) (((n % 16777216).tdiv 28).tmod 31) (((n % 16777216).tdiv 56).tmod 31) (((n % 16777216).tdiv 56).tmod 17) (((n % 16777216).tdiv 28).tmod 5) (zak (((n % 16777216).tdiv 1736).tmod 3) (((n % 16777216).tdiv 5208).tmod 40) (((n % 16777216).tdiv 208320).tmod 3))))),[]):=by
 have hM:=zhR n;have hN:0<=n % 16777216/\n % 16777216<16777216:=by omega
 generalize n % 16777216=N at *;have wd:=fun(d:Int) (h:0<d)=>zn (N:=N) (d:=d) hN h
 have w7:=wd 7 (by decide);have w28:=wd 28 (by decide);have w56:=wd 56 (by decide);have w1736:=wd 1736 (by decide);have w5208:=wd 5208 (by decide);have Cg:=wd 208320 (by decide);have hj:=zE N 7 4 hN (by decide) (by decide);obtain⟨j,hje⟩:=jC hj.1;have hj4:j<4:=by omega
 have hj4':(j:Int)<4:=by omega
 have r2:=zE N 28 2 hN (by decide) (by decide);have b40:=zE N 5208 40 hN (by decide) (by decide);have t3:=zE N 208320 3 hN (by decide) (by decide);have hlg:=zea j hj4;have q0:=fun k lim a b c d=>zaZ k lim [] a b c d 0
 have q1:=fun k lim a b c d=>zaZ k lim [1] a b c d 0
 have q2:=fun k lim a b c d=>zaZ k lim [2] a b c d 0
 have q3:=fun k lim a b c d=>zaZ k lim [1,2] a b c d 0
 have s1:=fun o a b=>zj1 o a b
 simp only[zaP,zay,zo,zQ,ki,qK,zaY]at q0 q1 q2 q3 s1;have wr1:=kQ (2*(N.tdiv 28).tmod 2);have wr2:=kQ (2-2*(N.tdiv 28).tmod 2);have wb:=kQ ((N.tdiv 5208).tmod 40+20);have wt:=kQ ((N.tdiv 208320).tmod 3*200);have hw:(((N.tdiv 1736).tmod 3==1)=true/\(N.tdiv 1736).tmod 3=1)\/(((N.tdiv 1736).tmod 3==1)=false/\¬(N.tdiv 1736).tmod 3=1):=by by_cases e:(N.tdiv 1736).tmod 3=1<;>simp[e]
 have hc:(k=0/\k<7)\/(k=1/\k<7)\/(k=2/\k<7)\/(k=3/\k<7)\/(k=4/\k<7)\/(k=5/\k<7)\/(k=6/\(N.tdiv 28).tmod 2=0)\/(k=6/\(N.tdiv 28).tmod 2=1):=by omega
 rw[zUa zUq rfl];rcases hc with⟨rfl,hr⟩ |⟨rfl,hr⟩ |⟨rfl,hr⟩ |⟨rfl,hr⟩ |⟨rfl,hr⟩ |⟨rfl,hr⟩ |⟨rfl,hr⟩ |⟨rfl,hr⟩<;>rcases hw with⟨hwb,hw⟩ |⟨hwb,hw⟩ <;>
  simp (config:={ maxSteps:=1000000 }) [zZ,hM,h7,hje,hlg,zdd,hj4,hj4',w7,w28,w56,w1736,w5208,Cg,wr1,wr2,wb,wt,hr,hwb,hw,q0,q1,q2,q3,s1,zg,zX,zH,zcl,zf,zq,zy,zO,zt,zak,zo,zQ,zaL,zfa,zdK,zaY]
theorem ziD(n lo hi:Int):R L Cs zre [W n,W lo,W hi] []=some (.w (Bo (decide (lo<=n)&&decide (n<=hi))),[]):=by
 rw[zUa zrU rfl];by_cases h:lo<=n
 ·simp[zgL,h]
 ·simp[zgL,h]
theorem zmm(n lo hi:Int):R L Cs zjO [W n,W lo,W hi] []=some (.w (Bo (decide (lo<=n)&&decide (n<=hi))),[]):=by
 rw[zUa zj9 rfl];by_cases h:lo<=n
 ·simp[zc9,h]
 ·simp[zc9,h]
structure zon(m:zD):Prop where
 v1:0<=m.version
 v2:m.version<=1099511627776
 l1:0<m.jf.length
 l2:m.jf.length<=12
 z:m.k9.length<=12
 s:m.signals.length<=4
 w:m.uf.length<=8
theorem zhb{m:zD}(h:zon m):R L Cs zdG [.a (zf m)] []=some (.w (W 0),[]):=by
 have hW:=ziD m.version 0 1099511627776;have a1:=h.v1;have a2:=h.v2;have l0:((m.jf.length:Int)==0)=false:=by have:=h.l1;exact beq_false_of_ne (by omega)
 have l1:¬(12:Int)<(m.jf.length:Int):=by have:=h.l2;omega
 have l2:¬(12:Int)<(m.k9.length:Int):=by have:=h.z;omega
 have l3:¬(4:Int)<(m.signals.length:Int):=by have:=h.s;omega
 have l4:¬(8:Int)<(m.uf.length:Int):=by have:=h.w;omega
 have l5:¬12<m.jf.length:=by have:=h.l2;omega
 have l6:¬12<m.k9.length:=by have:=h.z;omega
 have l7:¬4<m.signals.length:=by have:=h.s;omega
 have l8:¬8<m.uf.length:=by have:=h.w;omega
 have l9:¬m.jf=[]:=by have:=h.l1;intro e;rw[e]at this;simp at this
 rw[zUa zlw rfl];simp[zeY,zf,hW,a1,a2,l0,l1,l2,l3,l4,l5,l6,l7,l8,l9]
theorem zgb{m:zD}(h1:R L Cs zdG [.a (zf m)] []=some (.w (W 0),[]))(h2:R L Cs zaU [.a (zf m)] []=some (.w (W 0),[]))
  (h3:R L Cs zaM [.a (zf m)] []=some (.w (W 0),[])) (h4:R L Cs zao [.a (zf m)] []=some (.w (W 0),[]))
  (h5:R L Cs zR [.a (zf m)] []=some (.w (W 0),[])) (h6:R L Cs zec [.a (zf m)] []=some (.w (W 0),[])):R L Cs zjl [.a (zf m)] []=some (.w (W 0),[]):=by
 simp only[zf]at h1 h2 h3 h4 h5 h6;have e1:IntKind.i64.wrap 1=1:=rfl;have e2:IntKind.i64.wrap 2=2:=rfl;have e3:IntKind.i64.wrap 3=3:=rfl;have e4:IntKind.i64.wrap 4=4:=rfl;have e5:IntKind.i64.wrap 5=5:=rfl;have e6:IntKind.i64.wrap 6=6:=rfl;have hl:Y L Cs zbP (some [7,6,1,8]) 2 [(7,.w (W 6)),(6,.w (.c (.slice 1 6 1 0 6 none))),(1,.w (Pt 0)),(8,.w (W 0))] [bx 5 (zf m),some { box:=true,esz:=1,rows:=[[.fn zdG [] []],[.fn zaU [] []],[.fn zaM [] []],[.fn zao [] []],[.fn zR [] []],[.fn zec [] []]],gen:=6,fz:=false,ver:=6 }] =
   some (.exit 0,[(9,.w (Bo false)),(1,.w (Pt 0)),(6,.w (.c (.slice 1 6 1 0 6 none))),(7,.w (W 6)),(8,.w (W 6))],[bx 5 (zf m),some { box:=true,esz:=1,rows:=[[.fn zdG [] []],[.fn zaU [] []],[.fn zaM [] []],[.fn zao [] []],[.fn zR [] []],[.fn zec [] []]],gen:=6,fz:=false,ver:=6 }]):=by
  rw[zj zbP.eq_1];simp[zf,h1,e1];rw[zj zbP.eq_1];simp[h2,e2];rw[zj zbP.eq_1];simp[h3,e3];rw[zj zbP.eq_1];simp[h4,e4];rw[zj zbP.eq_1];simp[h5,e5];rw[zj zbP.eq_1];simp[h6,e6];rw[zj zbP.eq_1];simp
 simp only[zf]at hl;rw[zUa zsu rfl];simp[zjp,zf,hl,zg,zcl,zi2,zr,okW]
theorem zd1{m:zD}(h:zon m)(h2:∀i:Nat,i<m.jf.length->R L Cs zav [.a (zf m),W i] []=some (.w (W 0),[]))(h3:R L Cs zau [.a (zf m)] []=some (.w (W 0),[]))
  (hsp:∀s∈m.signals,∃o ps,s=[I o,.jc ps]) (hzp:∀s∈m.k9,∃ps o,s=[.jc ps,I o])
  (h4:∀s∈m.signals,R L Cs zV [.a (zf m),.a s] []=some (.w (W 0),[]))
  (h5:∀z∈m.k9,R L Cs zJ [.a (zf m),.a z] []=some (.w (W 0),[]))
  (e:Int) (h6:(∀w∈m.uf,R L Cs zfh [.a (zf m),.a (zaL w)] []=some (.w (W 0),[]))/\e=0\/∃w,m.uf=[w]/\R L Cs zfh [.a (zf m),.a (zaL w)] []=some (.w (W e),[])):R L Cs zeE [.a (zf m)] []=some (.w (W e),[]):=by
 have hW:=zmm m.version 0 1099511627776;have a1:=h.v1;have a2:=h.v2;have b1:=h.l1;have b2:=h.l2;have b3:=h.z;have b4:=h.s;have b5:=h.w;have l0:((m.jf.length:Int)==0)=false:=beq_false_of_ne (by omega);have l1:¬(12:Int)<(m.jf.length:Int):=by omega
 have l2:¬(12:Int)<(m.k9.length:Int):=by omega
 have l3:¬(4:Int)<(m.signals.length:Int):=by omega
 have l4:¬(8:Int)<(m.uf.length:Int):=by omega
 have l9:¬m.jf=[]:=by intro e;rw[e]at b1;simp at b1
 have k1:Y L Cs zbZ (some [1,3]) 1 [(1,.w (Pt 0)),(3,.w (W (0:Nat)))] [bx 5 (zf m)]=some (.exit 0,[(43,.w (Bo false)),(1,.w (Pt 0)),(3,.w (W m.jf.length))],[bx 5 (zf m)]):=by
  have q:=zpE (L:=L) (Cs:=Cs) (b:=zbZ) (live:=some [1,3]) (n0:=1) m.jf (fun i=>[(1,.w (Pt 0)),(3,.w (W i))]) [bx 5 (zf m)] (fun _=>false) (.ret,[],[]) (.exit 0,[(43,.w (Bo false)),(1,.w (Pt 0)),(3,.w (W m.jf.length))],[bx 5 (zf m)]) ?_ ?_ ?_
  ·simpa using q
  ·intro i hi _;have hw:=zB (i:=i) (by omega);have hc:=h2 i hi;simp only[zf]at hc;rw[zj zbZ.eq_1];simp[zf,hi,hw,hc]
  ·intro i hi hp;cases hp
  ·rw[zj zbZ.eq_1];simp[zf]
 have k2:Y L Cs zbY (some [5,6,1]) 1 [(5,.w (W 0)),(6,.w (W (0:Nat))),(1,.w (Pt 0))] [bx 5 (zf m)]=some (.exit 2,[(62,.w (Bo false)),(5,.w (W 0)),(6,.w (W m.signals.length)),(1,.w (Pt 0))],[bx 5 (zf m)]):=by
  have q:=zpE (L:=L) (Cs:=Cs) (b:=zbY) (live:=some [5,6,1]) (n0:=1) m.signals (fun i=>[(5,.w (W 0)),(6,.w (W i)),(1,.w (Pt 0))]) [bx 5 (zf m)] (fun _=>false) (.ret,[],[]) (.exit 2,[(62,.w (Bo false)),(5,.w (W 0)),(6,.w (W m.signals.length)),(1,.w (Pt 0))],[bx 5 (zf m)]) ?_ ?_ ?_
  ·simpa using q
  ·intro i hi _;have hw:=zB (i:=i) (by omega);have hc:=h4 m.signals[i] (jb hi);obtain⟨a,b,hxy⟩:=hsp _ (jb hi);rw[hxy]at hc;simp only[zf]at hc;rw[zj zbY.eq_1];simp[zf,hi,hw,hc,hxy]
  ·intro i hi hp;cases hp
  ·rw[zj zbY.eq_1];simp[zf]
 have k3:Y L Cs zbX (some [5,7,1]) 1 [(5,.w (W 0)),(7,.w (W (0:Nat))),(1,.w (Pt 0))] [bx 5 (zf m)]=some (.exit 4,[(80,.w (Bo false)),(5,.w (W 0)),(7,.w (W m.k9.length)),(1,.w (Pt 0))],[bx 5 (zf m)]):=by
  have q:=zpE (L:=L) (Cs:=Cs) (b:=zbX) (live:=some [5,7,1]) (n0:=1) m.k9 (fun i=>[(5,.w (W 0)),(7,.w (W i)),(1,.w (Pt 0))]) [bx 5 (zf m)] (fun _=>false) (.ret,[],[]) (.exit 4,[(80,.w (Bo false)),(5,.w (W 0)),(7,.w (W m.k9.length)),(1,.w (Pt 0))],[bx 5 (zf m)]) ?_ ?_ ?_
  ·simpa using q
  ·intro i hi _;have hw:=zB (i:=i) (by omega);have hc:=h5 m.k9[i] (jb hi);obtain⟨a,b,hxy⟩:=hzp _ (jb hi);rw[hxy]at hc;simp only[zf]at hc;rw[zj zbX.eq_1];simp[zf,hi,hw,hc,hxy]
  ·intro i hi hp;cases hp
  ·rw[zj zbX.eq_1];simp[zf]
 have k4:Y L Cs zbW (some [5,8,1]) 1 [(5,.w (W 0)),(8,.w (W (0:Nat))),(1,.w (Pt 0))] [bx 5 (zf m)]=some (.exit 6,[(98,.w (Bo false)),(5,.w (W e)),(8,.w (W m.uf.length)),(1,.w (Pt 0))],[bx 5 (zf m)]):=by
  rcases h6 with⟨h6,rfl⟩ |⟨w,e1,h6⟩
  ·have q:=zpE (L:=L) (Cs:=Cs) (b:=zbW) (live:=some [5,8,1]) (n0:=1) m.uf (fun i=>[(5,.w (W 0)),(8,.w (W i)),(1,.w (Pt 0))]) [bx 5 (zf m)] (fun _=>false) (.ret,[],[]) (.exit 6,[(98,.w (Bo false)),(5,.w (W 0)),(8,.w (W m.uf.length)),(1,.w (Pt 0))],[bx 5 (zf m)]) ?_ ?_ ?_
   ·simpa using q
   ·intro i hi _;have hw:=zB (i:=i) (by omega);have hc:=h6 m.uf[i] (jb hi);simp only[zf,zaL]at hc;rw[zj zbW.eq_1];simp[zf,hi,hw,hc,zaL]
   ·intro i hi hp;cases hp
   ·rw[zj zbW.eq_1];simp[zf]
  ·simp only[zf,e1,ki,qK,zaL]at h6;have w1:IntKind.i64.wrap 1=1:=rfl;rw[zj zbW.eq_1];simp[zf,e1,h6,zaL,w1];rw[zj zbW.eq_1];by_cases he:e=0
   ·simp[e1,he]
   ·have he':(e==0)=false:=by simp[he]
    simp[e1,he,he']
 simp only[zf,ji]at k1 k2 k3 k4 h3;rw[zUa zk7 rfl];simp[zeJ,zf,hW,a1,a2,l0,l1,l2,l3,l4,l9,k1,k2,k3,k4,h3]
def okI(r:Option (AV×Mem))(n:Int):Bool:=match r with
 |some (.w (.c (.int .i64 x)),[])=>x==n
 |_=>false
theorem zaq{f:FuncId}{a:List WV}{n:Int}(h:okI (zaH L Cs 400 f a []) n=true):R L Cs f a []=some (.w (W n),[]):=by
 refine zah.2 ⟨400,?_⟩;unfold okI at h;split at h
 ·rename_i x e;have:x=n:=by simpa using h
  rw[e,this]
 ·cases h
def Be:List Int:=[1500,600,1000,300]
def zdD(v:Int)(k:Nat)(lim:Int)(Z S Wk:List (List Cl)):WV:=.a [I v,.jc ((zy k lim).map zo),.jc Z,.jc S,.jc Wk]
theorem rs2(v lim:Int)(Z S Wk:List (List Cl)):((List.range 31).all fun o=>okI (zaH L Cs 400 zV [zdD v 2 lim Z S Wk,.a (zaY o 0 1)] []) 0)=true:=by kernel_rfl
theorem kz2(v lim:Int)(s:List Cl)(Wk:List (List Cl)):((List.range 2).all fun r=>okI (zaH L Cs 400 zR [zdD v 2 lim (zO 2 r) [s] Wk] []) 0&&(zO 2 r).all fun z=>okI (zaH L Cs 400 zJ [zdD v 2 lim (zO 2 r) [s] Wk,.a z] []) 0)=true:=by kernel_rfl
theorem rs6(v lim:Int)(Z S Wk:List (List Cl)):((List.range 31).all fun o=>okI (zaH L Cs 400 zV [zdD v 6 lim Z S Wk,.a (zaY o 1 3)] []) 0&&okI (zaH L Cs 400 zV [zdD v 6 lim Z S Wk,.a (zaY o 2 3)] []) 0)=true:=by kernel_rfl
theorem kz6(v lim:Int)(Wk:List (List Cl)):(okI (zaH L Cs 400 zR [zdD v 6 lim (zO 6 0) [] Wk] []) 0&&(zO 6 0).all fun z=>okI (zaH L Cs 400 zJ [zdD v 6 lim (zO 6 0) [] Wk,.a z] []) 0)=true:=by kernel_rfl
theorem kz6b(v lim:Int)(s s':List Cl)(Wk:List (List Cl)):(okI (zaH L Cs 400 zR [zdD v 6 lim (zO 6 1) [s,s'] Wk] []) 0&&(zO 6 1).all fun z=>okI (zaH L Cs 400 zJ [zdD v 6 lim (zO 6 1) [s,s'] Wk,.a z] []) 0)=true:=by kernel_rfl
theorem klP(k:Nat)(hk:k<7)(v:Int)(Z S Wk:List (List Cl)):(Be.all fun lim=>okI (zaH L Cs 400 zaU [zdD v k lim Z S Wk] []) 0)=true:=match k,hk with
 |0,_=>by kernel_rfl
 |1,_=>by kernel_rfl
 |2,_=>by kernel_rfl
 |3,_=>by kernel_rfl
 |4,_=>by kernel_rfl
 |5,_=>by kernel_rfl
 |6,_=>by kernel_rfl
theorem kjP(k:Nat)(hk:k<7)(v lim:Int)(Z S Wk:List (List Cl)):okI (zaH L Cs 400 zaM [zdD v k lim Z S Wk] []) 0=true:=match k,hk with
 |0,_=>by kernel_rfl
 |1,_=>by kernel_rfl
 |2,_=>by kernel_rfl
 |3,_=>by kernel_rfl
 |4,_=>by kernel_rfl
 |5,_=>by kernel_rfl
 |6,_=>by kernel_rfl
theorem kcP(k:Nat)(hk:k<7)(lim:Int):((zy k lim).all fun l=>okI (zaH L Cs 400 zaw [.a [zeT l]] []) l.len&&okI (zaH L Cs 400 zN [.a [zeT l]] []) l.len)=true:=match k,hk with
 |0,_=>by kernel_rfl
 |1,_=>by kernel_rfl
 |2,_=>by kernel_rfl
 |3,_=>by kernel_rfl
 |4,_=>by kernel_rfl
 |5,_=>by kernel_rfl
 |6,_=>by kernel_rfl
theorem rlP(k:Nat)(hk:k<7)(v:Int)(Z S Wk:List (List Cl)):(Be.all fun lim=>(List.range (zy k lim).length).all fun i=>okI (zaH L Cs 400 zav [zdD v k lim Z S Wk,W i] []) 0)=true:=match k,hk with
 |0,_=>by kernel_rfl
 |1,_=>by kernel_rfl
 |2,_=>by kernel_rfl
 |3,_=>by kernel_rfl
 |4,_=>by kernel_rfl
 |5,_=>by kernel_rfl
 |6,_=>by kernel_rfl
theorem rjP(k:Nat)(hk:k<7)(v lim:Int)(Z S Wk:List (List Cl)):okI (zaH L Cs 400 zau [zdD v k lim Z S Wk] []) 0=true:=match k,hk with
 |0,_=>by kernel_rfl
 |1,_=>by kernel_rfl
 |2,_=>by kernel_rfl
 |3,_=>by kernel_rfl
 |4,_=>by kernel_rfl
 |5,_=>by kernel_rfl
 |6,_=>by kernel_rfl
theorem kzP(k:Nat)(hk:k<6)(h2:k≠2)(v lim:Int)(Wk:List (List Cl)):((List.range 2).all fun r=>okI (zaH L Cs 400 zR [zdD v k lim (zO k r) [] Wk] []) 0&&(zO k r).all fun z=>okI (zaH L Cs 400 zJ [zdD v k lim (zO k r) [] Wk,.a z] []) 0)=true:=match k,hk with
 |0,_=>by kernel_rfl
 |1,_=>by kernel_rfl
 |2,_=>absurd rfl h2
 |3,_=>by kernel_rfl
 |4,_=>by kernel_rfl
 |5,_=>by kernel_rfl
def zhU(a b:Int):List (List Cl):=[[I 12,.jc [[I a]]],[I 5,.jc []],[I 9,.jc [[I b]]],[I 4,.jc []]]
abbrev zsZ(v:Int)(k:Nat)(lim:Int)(Z S Wk:List (List Cl)):List Cl:=[I v,.jc ((zy k lim).map zo),.jc Z,.jc S,.jc Wk]
theorem cf1:zaH L Cs 400 zap [.c (.jc (zhU 0 1)),.c (.fn zc0 [] [])] []=some (.w (Bo false),[])/\zaH L Cs 400 zap [.c (.jc (zhU 1 3)),.c (.fn zc0 [] [])] []=some (.w (Bo false),[])/\zaH L Cs 400 zap [.c (.jc (zhU 2 3)),.c (.fn zc0 [] [])] []=some (.w (Bo false),[]):=⟨by kernel_rfl,by kernel_rfl,by kernel_rfl⟩
theorem cf2a(v lim:Int)(Z S Wk:List (List Cl)):zaH L Cs 400 zap [.c (.jc (zhU 0 1)),.c (.fn zcZ [] [.ptr 0 0 0 0])] [bx 5 (zsZ v 2 lim Z S Wk)]=some (.w (Bo false),[bx 5 (zsZ v 2 lim Z S Wk)]):=by kernel_rfl
theorem cf2b(v lim:Int)(Z S Wk:List (List Cl)):zaH L Cs 400 zap [.c (.jc (zhU 1 3)),.c (.fn zcZ [] [.ptr 0 0 0 0])] [bx 5 (zsZ v 6 lim Z S Wk)]=some (.w (Bo false),[bx 5 (zsZ v 6 lim Z S Wk)]):=by kernel_rfl
theorem cf2c(v lim:Int)(Z S Wk:List (List Cl)):zaH L Cs 400 zap [.c (.jc (zhU 2 3)),.c (.fn zcZ [] [.ptr 0 0 0 0])] [bx 5 (zsZ v 6 lim Z S Wk)]=some (.w (Bo false),[bx 5 (zsZ v 6 lim Z S Wk)]):=by kernel_rfl
theorem zha{m:zD}(hn:m.signals.length<=10)(h:∀s∈m.signals,∃o a b,s=zaY o a b/\0<=o/\o<=1099511627776 /\
   R L Cs zap [.c (.jc (zhU a b)),.c (.fn zc0 [] [])] []=some (.w (Bo false),[]) /\
   R L Cs zap [.c (.jc (zhU a b)),.c (.fn zcZ [] [.ptr 0 0 0 0])] [bx 5 (zf m)]=some (.w (Bo false),[bx 5 (zf m)])) :
  R L Cs zao [.a (zf m)] []=some (.w (W 0),[]):=by
 have q:=zpE (L:=L) (Cs:=Cs) (b:=zcM) (live:=some [9,8,1,10]) (n0:=1) m.signals (fun i=>[(9,.w (W m.signals.length)),(8,.w (.c (.jc m.signals))),(1,.w (Pt 0)),(10,.w (W i))]) [bx 5 (zf m)] (fun _=>false) (.ret,[],[]) (.exit 0,[(11,.w (Bo false)),(1,.w (Pt 0)),(8,.w (.c (.jc m.signals))),(9,.w (W m.signals.length)),(10,.w (W m.signals.length))],[bx 5 (zf m)]) ?_ ?_ ?_
 ·simp only[zf,ji]at q;simp at q;rw[zUa zlv rfl];simp[zeX,zf,q]
 ·intro i hi _;have hw:=zB (i:=i) (by omega);obtain⟨o,a,b,hs,o1,o2,c1,c2⟩:=h _ (jb hi);have hW:=ziD o 0 1099511627776;simp only[zf,zhU]at c1 c2;rw[zj zcM.eq_1];simp[zf,hi,hw,hs,zaY,hW,o1,o2,c1,c2]
 ·intro i hi hp;cases hp
 ·rw[zj zcM.eq_1];simp[zf]
theorem zBY{m:zD}{n:Nat}(hn:n<m.jf.length)(hlen:R L Cs zaw [.a [zeT m.jf[n]]] []=some (.w (W m.jf[n].len),[])):R L Cs zkE [.a (zf m),W n] []=some (.w (W m.jf[n].len),[]):=by
 simp only[zeT]at hlen;rw[zUa zou rfl];simp[zh5,zf,hn,zo,hlen]
def WkV(m:zD)(w:zCP):Prop:=∃(j:Nat) (h:j<m.jf.length),w.lane=j/\0<=w.lo/\w.lo<=w.hi/\w.hi<=m.jf[j].len/\0<=w.Bp/\w.Bp<w.ends/\w.ends<=1099511627776/\0<=w.yu/\w.yu<=zeR m.jf[j].kind
theorem zkY{m:zD}(hlen:∀l∈m.jf,R L Cs zaw [.a [zeT l]] []=some (.w (W l.len),[]))(hk:∀l∈m.jf,l.kind=1\/l.kind=2\/l.kind=3)(hwl:m.uf.length<=8)(hw:∀w∈m.uf,WkV m w):R L Cs zec [.a (zf m)] []=some (.w (W 0),[]):=by
 have q:=zpE (L:=L) (Cs:=Cs) (b:=zdm) (live:=some [12,11,10,1]) (n0:=1) m.uf (fun i=>[(12,.w (W i)),(11,.w (W m.uf.length)),(10,.w (.c (.jc (m.uf.map zaL)))),(1,.w (Pt 0))]) [bx 5 (zf m)] (fun _=>false) (.ret,[],[]) (.exit 0,[(13,.w (Bo false)),(12,.w (W m.uf.length)),(11,.w (W m.uf.length)),(10,.w (.c (.jc (m.uf.map zaL)))),(1,.w (Pt 0))],[bx 5 (zf m)]) ?_ ?_ ?_
 ·simp only[zf,ji]at q;simp at q;rw[zUa zmZ rfl];simp[zfE,zf,q]
 ·intro i hi _;obtain⟨j,hj,e,x1,x2,x3,x4,x5,x6,x7,x8⟩:=hw _ (jb hi);have hww:=zB (i:=i) (by omega);have hB:=zmo (hk _ (jb hj));have hL:=zBY hj (hlen _ (jb hj));have hW:=ziD m.uf[i].yu 0 (zeR m.jf[j].kind);simp only[zf]at hL;generalize hwi:m.uf[i]=w at *;obtain⟨w1,w2,w3,w4,w5,w6⟩:=w;simp only at e x1 x2 x3 x4 x5 x6 x7 x8 hW;subst e;generalize zeR m.jf[j].kind=tv at *;have y0:¬(m.jf.length:Int)<=(j:Int):=by omega
  have yj:¬(j:Int)<0:=by omega
  have y1:¬w2<0:=by omega
  have y2:¬w3<w2:=by omega
  have y3:¬m.jf[j].len<w3:=by omega
  have y4:¬w4<0:=by omega
  have y5:¬w5<=w4:=by omega
  have y6:¬(1099511627776:Int)<w5:=by omega
  rw[zj zdm.eq_1];simp[zf,hi,hww,hwi,zaL,hj,zo,hB,hL,hW,yj,y0,y1,y2,y3,y4,y5,y6,x7,x8]
 ·intro i hi hp;cases hp
 ·rw[zj zdm.eq_1];simp[zf]
theorem zga{m:zD}(hlen:∀l∈m.jf,R L Cs zN [.a [zeT l]] []=some (.w (W l.len),[]))(hk:∀l∈m.jf,l.kind=1\/l.kind=2\/l.kind=3){w:zCP}(hw:WkV m w) :
  R L Cs zfh [.a (zf m),.a (zaL w)] []=some (.w (W 0),[]):=by
 obtain⟨j,hj,e,x1,x2,x3,x4,x5,x6,x7,x8⟩:=hw;have hB:=zhv (hk _ (jb hj));have hL:=hlen _ (jb hj);have hW:=zmm w.yu 0 (zeR m.jf[j].kind);simp only[zeT]at hL;obtain⟨w1,w2,w3,w4,w5,w6⟩:=w;simp only at e x1 x2 x3 x4 x5 x6 x7 x8 hW;subst e;generalize zeR m.jf[j].kind=tv at *;have y0:¬(m.jf.length:Int)<=(j:Int):=by omega
 have yj:¬(j:Int)<0:=by omega
 have y1:¬w2<0:=by omega
 have y2:¬w3<w2:=by omega
 have y3:¬m.jf[j].len<w3:=by omega
 have y4:¬w4<0:=by omega
 have y5:¬w5<=w4:=by omega
 have y6:¬(1099511627776:Int)<w5:=by omega
 rw[zUa ziH rfl];simp[zdF,zf,zaL,hj,zo,hB,hL,hW,yj,y0,y1,y2,y3,y4,y5,y6,x7,x8]
structure NumsO(k:Nat)(lim r o1 o2 o3 v:Int)(ws:List zCP):Prop where
 lim:lim∈Be
 r:r=0\/r=1
 o1:0<=o1/\o1<31
 o2:0<=o2/\o2<31
 o3:0<=o3/\o3<17
 v:0<=v/\v<5
 wl:ws.length<=1
structure zp2(k:Nat)(li rr p1 p2 p3 vv:Int)(ws:List zCP):Prop extends NumsO k li rr p1 p2 p3 vv ws where
 wv:∀x∈ws,WkV (zq k li rr p1 p2 p3 vv ws) x
structure zWf(m:zD):Prop where
 vG:(∀x∈m.uf,WkV m x)->zcp m
 bad:∀w e,m.uf=[w]->R L Cs zfh [.a (zf m),.a (zaL w)] []=some (.w (W e),[])->R L Cs zeE [.a (zf m)] []=some (.w (W e),[])
theorem zky{lim:Int}(h:lim∈Be):1<=lim/\lim<=2000:=by simp[Be]at h;omega
theorem zTr(k:Nat)(hk:k<7){lim r o1 o2 o3 v:Int}{ws:List zCP}(h:NumsO k lim r o1 o2 o3 v ws)(hz:R L Cs zR [.a (zf (zq k lim r o1 o2 o3 v ws))] []=some (.w (W 0),[])/\∀z∈(zq k lim r o1 o2 o3 v ws).k9,R L Cs zJ [.a (zf (zq k lim r o1 o2 o3 v ws)),.a z] []=some (.w (W 0),[]))(hs:R L Cs zao [.a (zf (zq k lim r o1 o2 o3 v ws))] []=some (.w (W 0),[]))(hrs:∀s∈(zq k lim r o1 o2 o3 v ws).signals,R L Cs zV [.a (zf (zq k lim r o1 o2 o3 v ws)),.a s] []=some (.w (W 0),[]))(hsp:∀s∈(zq k lim r o1 o2 o3 v ws).signals,∃o ps,s=[I o,.jc ps]):zWf (zq k lim r o1 o2 o3 v ws):=by
 have hlim:=zky h.lim;have hv:=h.v;have hsz:zon (zq k lim r o1 o2 o3 v ws):={
  v1:=hv.1
  v2:=by show v<=_;omega
  l1:=by match k,hk with |0,_ |1,_ |2,_ |3,_ |4,_ |5,_ |6,_=>simp[zq,zy]
  l2:=by match k,hk with |0,_ |1,_ |2,_ |3,_ |4,_ |5,_ |6,_=>simp[zq,zy]
  z:=by match k,hk with |0,_ |1,_ |2,_ |3,_ |4,_ |5,_ |6,_=>simp[zq,zO]
  s:=by match k,hk with |0,_ |1,_ |2,_ |3,_ |4,_ |5,_ |6,_=>(simp only[zq,zt];first |(split<;>simp) |simp)
  w:=by have:=h.wl;show ws.length<=8;omega }
 have hlen:∀l∈(zq k lim r o1 o2 o3 v ws).jf,R L Cs zaw [.a [zeT l]] []=some (.w (W l.len),[]):=fun l hl=>by
  have:=jx.1 (kcP k hk lim) l hl;rw[jg]at this;exact zaq this.1
 have hrlen:∀l∈(zq k lim r o1 o2 o3 v ws).jf,R L Cs zN [.a [zeT l]] []=some (.w (W l.len),[]):=fun l hl=>by
  have:=jx.1 (kcP k hk lim) l hl;rw[jg]at this;exact zaq this.2
 have hkd:∀l∈(zq k lim r o1 o2 o3 v ws).jf,l.kind=1\/l.kind=2\/l.kind=3:=by match k,hk with |0,_ |1,_ |2,_ |3,_ |4,_ |5,_ |6,_=>simp[zq,zy,zQ]
 have h0:0<(zq k lim r o1 o2 o3 v ws).jf.length:=hsz.l1;have hzp:∀s∈(zq k lim r o1 o2 o3 v ws).k9,∃ps o,s=[.jc ps,I o]:=by
  match k,hk with
  |0,_ |1,_ |2,_ |3,_ |4,_ |5,_ |6,_ =>
   intro s hs;simp[zq,zO]at hs
   try(first |(rcases hs with hs |hs<;>(subst hs;exact⟨_,_,rfl⟩)) |(subst hs;exact⟨_,_,rfl⟩))
 have hR:=fun e=>zd1 hsz (fun i hi=>zaq (jx.1 (jx.1 (rlP k hk v (zO k r) (zt k r o1 o2 o3) ((ws).map zaL)) lim h.lim) i (kL.2 hi))) (zaq (rjP k hk v lim (zO k r) (zt k r o1 o2 o3) ((ws).map zaL))) hsp hzp hrs hz.2 e
 refine⟨fun hwv=>{
  small:=⟨by match k,hk with |0,_ |1,_ |2,_ |3,_ |4,_ |5,_ |6,_=>simp[zq,zy],by match k,hk with |0,_ |1,_ |2,_ |3,_ |4,_ |5,_ |6,_=>simp[zq,zy,zQ],by match k,hk with |0,_ |1,_ |2,_ |3,_ |4,_ |5,_ |6,_=>simp[zq,zy,zQ]⟩
  chk:=zgb (zhb hsz) (zaq (jx.1 (klP k hk v (zO k r) (zt k r o1 o2 o3) ((ws).map zaL)) lim h.lim)) (zaq (kjP k hk v lim (zO k r) (zt k r o1 o2 o3) ((ws).map zaL))) hs hz.1
   (zkY hlen hkd hsz.w hwv)
  yQ:=hR 0 (.inl ⟨fun x hx=>zga hrlen hkd (hwv x hx),rfl⟩)
  len:=hlen
  rlen:=hrlen
  Bf:=by match k,hk with |0,_ |1,_ |2,_ |3,_ |4,_ |5,_ |6,_=>simp[zq,zy,zQ]
  kind:=hkd
  yu:=by match k,hk with |0,_ |1,_ |2,_ |3,_ |4,_ |5,_ |6,_=>(simp[zq,zy,zQ];try omega) },fun w e e1 e2=>hR e (.inr ⟨w,e1,e2⟩)⟩
theorem zTo(k:Nat)(hk:k<7){lim r o1 o2 o3 v:Int}{ws:List zCP}(h:NumsO k lim r o1 o2 o3 v ws)(hn:zt k r o1 o2 o3=[])(kz:∀Wk:List (List Cl),((List.range 2).all fun r=>okI (zaH L Cs 400 zR [zdD v k lim (zO k r) [] Wk] []) 0&&(zO k r).all fun z=>okI (zaH L Cs 400 zJ [zdD v k lim (zO k r) [] Wk,.a z] []) 0)=true):zWf (zq k lim r o1 o2 o3 v ws):=by
 have e:(zq k lim r o1 o2 o3 v ws).signals=[]:=hn;refine zTr k hk h ?_ (zha (by rw[e];simp) (fun s hs=>by rw[e]at hs;cases hs)) (fun s hs=>by rw[e]at hs;cases hs) (fun s hs=>by rw[e]at hs;cases hs);have em:zf (zq k lim r o1 o2 o3 v ws)=[I v,.jc ((zy k lim).map zo),.jc (zO k r),.jc [],.jc ((ws).map zaL)]:=by rw[<-hn];rfl
 rw[em];have q0:=jx.1 (kz ((ws).map zaL));rcases h.r with hr|hr
 ·subst hr;have q:=q0 0 (by simp);rw[jg]at q;exact⟨zaq q.1,fun z hz=>zaq (jx.1 q.2 z hz)⟩
 ·subst hr;have q:=q0 1 (by simp);rw[jg]at q;exact⟨zaq q.1,fun z hz=>zaq (jx.1 q.2 z hz)⟩
theorem good2{lim r o1 o2 o3 v:Int}{ws:List zCP}(h:NumsO 2 lim r o1 o2 o3 v ws):zWf (zq 2 lim r o1 o2 o3 v ws):=by
 have hz:R L Cs zR [.a (zf (zq 2 lim r o1 o2 o3 v ws))] []=some (.w (W 0),[])/\∀z∈(zq 2 lim r o1 o2 o3 v ws).k9,R L Cs zJ [.a (zf (zq 2 lim r o1 o2 o3 v ws)),.a z] []=some (.w (W 0),[]):=by
  have q0:=jx.1 (kz2 v lim (zaY o1 0 1) ((ws).map zaL));rcases h.r with hr|hr
  ·subst hr;have q:=q0 0 (by simp);rw[jg]at q;exact⟨zaq q.1,fun z hz=>zaq (jx.1 q.2 z hz)⟩
  ·subst hr;have q:=q0 1 (by simp);rw[jg]at q;exact⟨zaq q.1,fun z hz=>zaq (jx.1 q.2 z hz)⟩
 have hs:R L Cs zao [.a (zf (zq 2 lim r o1 o2 o3 v ws))] []=some (.w (W 0),[]):=zha (by simp[zq,zt]) (fun s hs=>by
  simp[zq,zt]at hs;subst hs;exact⟨o1,0,1,rfl,h.o1.1,by have:=h.o1.2;omega,zah.2 ⟨400,cf1.1⟩,zah.2 ⟨400,cf2a v lim _ _ _⟩⟩)
 have hrs:∀s∈(zq 2 lim r o1 o2 o3 v ws).signals,R L Cs zV [.a (zf (zq 2 lim r o1 o2 o3 v ws)),.a s] []=some (.w (W 0),[]):=fun s hs=>by
  simp[zq,zt]at hs;subst hs;obtain⟨n,hn⟩:=jC h.o1.1;subst hn;exact zaq (jx.1 (rs2 v lim _ _ _) n (kL.2 (by have:=h.o1.2;omega)))
 have hsp:∀s∈(zq 2 lim r o1 o2 o3 v ws).signals,∃o ps,s=[I o,.jc ps]:=fun s hs=>by
  simp[zq,zt]at hs;subst hs;exact⟨_,_,rfl⟩
 exact zTr 2 (by decide) h hz hs hrs hsp
theorem good6{lim r o1 o2 o3 v:Int}{ws:List zCP}(h:NumsO 6 lim r o1 o2 o3 v ws):zWf (zq 6 lim r o1 o2 o3 v ws):=by
 have hv:=h.v;have hsz:zon (zq 6 lim r o1 o2 o3 v ws):={
  v1:=hv.1
  v2:=by show v<=_;omega
  l1:=by simp[zq,zy]
  l2:=by simp[zq,zy]
  z:=by simp[zq,zO]
  s:=by simp only[zq,zt];first |(split<;>simp) |simp
  w:=by have:=h.wl;show ws.length<=8;omega }
 have hz:R L Cs zR [.a (zf (zq 6 lim r o1 o2 o3 v ws))] []=some (.w (W 0),[])/\∀z∈(zq 6 lim r o1 o2 o3 v ws).k9,R L Cs zJ [.a (zf (zq 6 lim r o1 o2 o3 v ws)),.a z] []=some (.w (W 0),[]):=by
  rcases h.r with hr|hr
  ·subst hr;have q:=kz6 v lim ((ws).map zaL);rw[jg]at q;exact⟨zaq q.1,fun z hz=>zaq (jx.1 q.2 z hz)⟩
  ·subst hr;have q:=kz6b v lim (zaY o2 1 3) (zaY o3 2 3) ((ws).map zaL);rw[jg]at q;exact⟨zaq q.1,fun z hz=>zaq (jx.1 q.2 z hz)⟩
 have hs:R L Cs zao [.a (zf (zq 6 lim r o1 o2 o3 v ws))] []=some (.w (W 0),[]):=zha (by have:=hsz.s;omega) (fun s hs=>by
  rcases h.r with hr|hr
  ·subst hr;simp[zq,zt]at hs
  ·subst hr;simp[zq,zt]at hs;rcases hs with hs|hs
   ·subst hs;exact⟨o2,1,3,rfl,h.o2.1,by have:=h.o2.2;omega,zah.2 ⟨400,cf1.2.1⟩,zah.2 ⟨400,cf2b v lim _ _ _⟩⟩
   ·subst hs;exact⟨o3,2,3,rfl,h.o3.1,by have:=h.o3.2;omega,zah.2 ⟨400,cf1.2.2⟩,zah.2 ⟨400,cf2c v lim _ _ _⟩⟩)
 have hrs:∀s∈(zq 6 lim r o1 o2 o3 v ws).signals,R L Cs zV [.a (zf (zq 6 lim r o1 o2 o3 v ws)),.a s] []=some (.w (W 0),[]):=fun s hs=>by
  rcases h.r with hr|hr
  ·subst hr;simp[zq,zt]at hs
  ·subst hr;simp[zq,zt]at hs;rcases hs with hs|hs
   ·subst hs;obtain⟨n,hn⟩:=jC h.o2.1;subst hn;have q:=jx.1 (rs6 v lim (zO 6 1) (zt 6 1 o1 n o3) ((ws).map zaL)) n (kL.2 (by have:=h.o2.2;omega));rw[jg]at q;exact zaq q.1
   ·subst hs;obtain⟨n,hn⟩:=jC h.o3.1;subst hn;have q:=jx.1 (rs6 v lim (zO 6 1) (zt 6 1 o1 o2 n) ((ws).map zaL)) n (kL.2 (by have:=h.o3.2;omega));rw[jg]at q;exact zaq q.2
 have hsp:∀s∈(zq 6 lim r o1 o2 o3 v ws).signals,∃o ps,s=[I o,.jc ps]:=fun s hs=>by
  rcases h.r with hr|hr
  ·subst hr;simp[zq,zt]at hs
  ·subst hr;simp[zq,zt]at hs;rcases hs with hs|hs
   ·subst hs;exact⟨_,_,rfl⟩
   ·subst hs;exact⟨_,_,rfl⟩
 exact zTr 6 (by decide) h hz hs hrs hsp
theorem zV9(k:Nat)(hk:k<7){lim r o1 o2 o3 v:Int}{ws:List zCP}(h:NumsO k lim r o1 o2 o3 v ws):zWf (zq k lim r o1 o2 o3 v ws):=match k,hk with
 |0,_=>zTo 0 (by decide) h rfl (kzP 0 (by decide) (by decide) v lim)
 |1,_=>zTo 1 (by decide) h rfl (kzP 1 (by decide) (by decide) v lim)
 |2,_=>good2 h
 |3,_=>zTo 3 (by decide) h rfl (kzP 3 (by decide) (by decide) v lim)
 |4,_=>zTo 4 (by decide) h rfl (kzP 4 (by decide) (by decide) v lim)
 |5,_=>zTo 5 (by decide) h rfl (kzP 5 (by decide) (by decide) v lim)
 |6,_=>good6 h
theorem zTy(k:Nat)(hk:k<7){lim r o1 o2 o3 v:Int}{ws:List zCP}(h:zp2 k lim r o1 o2 o3 v ws):zcp (zq k lim r o1 o2 o3 v ws):=(zV9 k hk h.toNumsO).vG h.wv
theorem zz4(j:Nat):zeC j∈Be:=by
 unfold zeC Be;split<;>simp
theorem zV6(k:Nat)(hk:k<7)(lim r o1 o2 o3 v w b t:Int)(hb:0<=b/\b<40)(ht:0<=t/\t<3):∀x∈zak w b t,WkV (zq k lim r o1 o2 o3 v (zak w b t)) x:=by
 intro x hx;unfold zak at hx;split at hx
 ·obtain rfl:=jh.1 hx;have hL:∃h0:0<(zq k lim r o1 o2 o3 v (zak w b t)).jf.length,(zq k lim r o1 o2 o3 v (zak w b t)).jf[0].kind=1/\15000<=(zq k lim r o1 o2 o3 v (zak w b t)).jf[0].len:=by match k,hk with |0,_ |1,_ |2,_ |3,_ |4,_ |5,_ |6,_=>simp[zq,zy,zQ]
  obtain⟨h0,h1,h2⟩:=hL;refine⟨0,h0,rfl,(by show(0:Int)<=10000;decide),(by show(10000:Int)<=15000;decide),h2,hb.1,by simp only;omega,by simp only;omega,by simp only;omega,?_⟩;rw[h1];show t*200<=2000;omega
 ·cases hx
theorem zWg(w b t:Int):(zak w b t).length<=1:=by unfold zak;split<;>simp
theorem zBA(n:Int)(k:Nat)(hk:k<7):zp2 k (zeC (((n % 16777216).tdiv 7).tmod 4).toNat) (((n % 16777216).tdiv 28).tmod 2) (((n % 16777216).tdiv 28).tmod 31) (((n % 16777216).tdiv 56).tmod 31) (((n % 16777216).tdiv 56).tmod 17) (((n % 16777216).tdiv 28).tmod 5) (zak (((n % 16777216).tdiv 1736).tmod 3) (((n % 16777216).tdiv 5208).tmod 40) (((n % 16777216).tdiv 208320).tmod 3)):=by
 have hN:0<=n % 16777216/\n % 16777216<16777216:=by omega
 have hr:=zE _ 28 2 hN (by decide) (by decide);exact⟨⟨zz4 _,by omega,zE _ 28 31 hN (by decide) (by decide),zE _ 56 31 hN (by decide) (by decide),zE _ 56 17 hN (by decide) (by decide),zE _ 28 5 hN (by decide) (by decide),zWg _ _ _⟩,zV6 k hk _ _ _ _ _ _ _ _ _ (zE _ 5208 40 hN (by decide) (by decide)) (zE _ 208320 3 hN (by decide) (by decide))⟩
structure Prt where
 lane:Int
 lo:Int
 hi:Int
 v6:Int
structure Zon where
 parts:List Prt
 yi:Int
structure Phs where
 ut:Int
 green:List Int
structure Sgn where
 offset:Int
 kT:List Phs
def zeB(p:Prt):List Cl:=[I p.lane,I p.lo,I p.hi,I p.v6]
def zkl(l:List Prt):List (List Cl):=l.map zeB
def zdP(z:Zon):List Cl:=[.jc (zkl z.parts),I z.yi]
def zk8(l:List Zon):List (List Cl):=l.map zdP
def zr6(p:Phs):List Cl:=[I p.ut,.jc (zu p.green)]
def zje(l:List Phs):List (List Cl):=l.map zr6
def zeq(s:Sgn):List Cl:=[I s.offset,.jc (zje s.kT)]
def zjd(l:List Sgn):List (List Cl):=l.map zeq
@[simp] theorem zCq(l:List Prt):(zkl l).length=l.length:=by simp[zkl]
@[simp] theorem zzy{l:List Prt}{i:Nat}(h:i<(zkl l).length):(zkl l)[i]=zeB (l[i]'(by simpa using h)):=by simp[zkl]
@[simp] theorem zC7(l:List Zon):(zk8 l).length=l.length:=by simp[zk8]
@[simp] theorem zA9{l:List Zon}{i:Nat}(h:i<(zk8 l).length):(zk8 l)[i]=zdP (l[i]'(by simpa using h)):=by simp[zk8]
@[simp] theorem zCr(l:List Phs):(zje l).length=l.length:=by simp[zje]
@[simp] theorem zzz{l:List Phs}{i:Nat}(h:i<(zje l).length):(zje l)[i]=zr6 (l[i]'(by simpa using h)):=by simp[zje]
@[simp] theorem zCp(l:List Sgn):(zjd l).length=l.length:=by simp[zjd]
@[simp] theorem zzx{l:List Sgn}{i:Nat}(h:i<(zjd l).length):(zjd l)[i]=zeq (l[i]'(by simpa using h)):=by simp[zjd]
structure zvY(l:List Phs):Prop where
 ne:0<l.length
 few:l.length<=6
 ut:∀p∈l,1<=p.ut/\p.ut<=10000
 green:∀p∈l,p.green.length<=100
def zdg(l:List Phs):Int:=(l.map Phs.ut).foldl (· + ·) 0
def zpQ(lane:Int):Int->List Phs->Bool
 |_,[]=>false
 |at',p::r=>if p.ut<=at' then zpQ lane (at'-p.ut) r else decide (lane∈p.green)
def zfA(s:Sgn)(lane tick:Int):Bool:=zpQ lane ((s.offset.tmod (zdg s.kT)+tick.tmod (zdg s.kT)).tmod (zdg s.kT)) s.kT
theorem zyV(l:List Int)(a:Int):l.foldl (· + ·) a=a+l.foldl (· + ·) 0:=by
 induction l generalizing a with
 |nil=>simp
 |cons x l ih=>simp only[jK];rw[ih (a+x),ih (0+x)];omega
theorem zoy(p:Phs)(l:List Phs):zdg (p::l)=p.ut+zdg l:=by
 unfold zdg;simp only[ki,jK];rw[zyV];omega
theorem ztt:∀(l:List Phs),(∀p∈l,1<=p.ut/\p.ut<=10000)->(l.length:Int)<=zdg l/\zdg l<=10000*l.length
 |[],_=>by simp[zdg]
 |p::l,h=>by
  have:=ztt l fun q hq=>h q (jp _ hq)
  have hp:=h p (jr ..);rw[zoy,jw];omega
theorem zmy(a b:Int)(h:0<b):-b<a.tmod b/\a.tmod b<b:=by
 have h1:=Int.tmod_lt_of_pos a h;have h2:=Int.lt_tmod_of_pos a h;omega
theorem ztD(s:Sgn)(lane tick:Int)(hl:zvY s.kT):∀(r:List Phs) (i:Nat) (a:Int),s.kT.drop i=r->i<=s.kT.length->0<=a/\a<=10000*i ->
  Y L Cs zcw (some [7,8,1,2,3]) 1 [(7,.w (W a)),(8,.w (W i)),(1,.w (W lane)),(2,.w (W tick)),(3,.w (Pt 0))] [bx 2 (zeq s)] =
    some (.exit 0,[(15,.w (Bo false)),(7,.w (W (a+zdg r))),(8,.w (W s.kT.length)),(1,.w (W lane)),(2,.w (W tick)),(3,.w (Pt 0))],[bx 2 (zeq s)]):=by
 have hf:=hl.few;intro r;induction r with
 |nil =>
  intro i a hd hi ha;obtain rfl:=zUb hd hi;rw[zj zcw.eq_1];simp[zdg,zeq]
 |cons p r ih =>
  intro i a hd hi ha;obtain⟨hil,hp,hd'⟩:=zL hd;have ht:=hl.ut p (hp ▸ jb hil);have hw:=zB (i:=i) (by omega);have hwa:=kQ (a+p.ut);rw[zoy,show a+(p.ut+zdg r)=(a+p.ut)+zdg r by omega,<-ih (i+1) (a+p.ut) hd' hil (by omega),zj zcw.eq_1];clear ih;simp[hil,hp,hw,hwa,zr6,zeq,zg,zH]
theorem ztC(s:Sgn)(lane:Int)(hl:zvY s.kT):∀(r:List Phs) (i:Nat) (a:Int),s.kT.drop i=r->i<=s.kT.length->-1000000<=a/\a<=100000->∃ex E M,
  Y L Cs zbV (some [9,3,10,1]) 1 [(9,.w (W a)),(3,.w (Pt 0)),(10,.w (W i)),(1,.w (W lane))] [bx 2 (zeq s)]=some (ex,E,M) /\
    ((ex=.ret/\E=[(6,.w (Bo (zpQ lane a r)))])\/(ex=.exit 2/\zpQ lane a r=false)):=by
 have hf:=hl.few;intro r;induction r with
 |nil =>
  intro i a hd hi ha;obtain rfl:=zUb hd hi;rw[zj zbV.eq_1];simp[zpQ,zeq];exact⟨_,_,⟨rfl,rfl⟩,.inr rfl⟩
 |cons p r ih =>
  intro i a hd hi ha;obtain⟨hil,hp,hd'⟩:=zL hd;have ht:=hl.ut p (hp ▸ jb hil);have hg:=hl.green p (hp ▸ jb hil);have hw:=zB (i:=i) (by omega);have hC:=zAX p.green lane (by omega);rw[zpQ];by_cases c:p.ut<=a
  ·have hwa:=kQ (a-p.ut);obtain⟨ex,E,M,h1,h2⟩:=ih (i+1) (a-p.ut) hd' hil (by omega);refine⟨ex,E,M,?_,by rw[if_pos c];exact h2⟩;have c':¬a<p.ut:=by omega
   rw[<-h1,zj zbV.eq_1];clear ih h1 h2;simp[hil,hp,hw,hwa,c,c',zr6,zeq,zg,zH]
  ·rw[if_neg c];clear ih;have c':a<p.ut:=by omega
   refine⟨.ret,[(6,.w (Bo (decide (lane∈p.green))))],[bx 2 (zeq s)],?_,.inl ⟨rfl,rfl⟩⟩;rw[zj zbV.eq_1];simp[hil,hp,hw,c,c',hC,zr6,zeq,zg,zH]
theorem zrO(s:Sgn)(lane tick:Int)(hl:zvY s.kT):R L Cs zkG [.a (zeq s),W lane,W tick] []=some (.w (Bo (zfA s lane tick)),[]):=by
 have hb:=ztt s.kT hl.ut;have hne:=hl.ne;have hf:=hl.few;have h1:=ztD s lane tick hl s.kT 0 0 rfl (jE _) (by omega);rw[Int.zero_add]at h1;have m1:=zmy s.offset (zdg s.kT) (by omega);have m2:=zmy tick (zdg s.kT) (by omega);have m3:=zmy (s.offset.tmod (zdg s.kT)+tick.tmod (zdg s.kT)) (zdg s.kT) (by omega);obtain⟨ex,E,M,h2,h3⟩:=ztC s lane hl s.kT 0 ((s.offset.tmod (zdg s.kT)+tick.tmod (zdg s.kT)).tmod (zdg s.kT)) rfl (jE _) (by omega);have hw:=kQ (s.offset.tmod (zdg s.kT)+tick.tmod (zdg s.kT));have hz:zdg s.kT≠0:=by omega
 unfold zfA;generalize zpQ lane ((s.offset.tmod (zdg s.kT)+tick.tmod (zdg s.kT)).tmod (zdg s.kT)) s.kT=q at *;rw[zUa zk5 rfl];simp only[ji,zeq]at h1 h2;rcases h3 with⟨rfl,rfl⟩ |⟨rfl,rfl⟩
 ·simp[zdq,h1,h2,hw,hz,zeq]
 ·simp[zdq,h1,h2,hw,hz,zeq]
structure Zd(m:zD)(zs:List Zon)(ss:List Sgn):Prop where
 z:m.k9=zk8 zs
 s:m.signals=zjd ss
 few:zs.length<=12
 sfew:ss.length<=4
 sig:∀z∈zs,0<=z.yi/\z.yi<=ss.length
 pfew:∀z∈zs,z.parts.length<=6
 ph:∀s∈ss,zvY s.kT
abbrev ztn:Sgn:=⟨0,[]⟩
abbrev Asc(l:List Int):Prop:=l.Pairwise (· < ·)
abbrev zto:Prt:=⟨0,0,0,0⟩
def zjF(z:Zon)(lane:Int):Option Prt:=z.parts.find? fun p=>decide (p.lane=lane)
theorem zyl(z:Zon)(lane:Int)(hp:z.parts.length<=1000):∀(r:List Prt) (i:Nat),z.parts.drop i=r->i<=z.parts.length->∃ex E M,
  Y L Cs zcc (some [1,2,6,4]) 2 [(1,.w (W lane)),(2,.w (Pt 0)),(6,.w (W i)),(4,.w (Pt 1))] [bx 2 (zdP z),bx 4 (zeB zto)]=some (ex,E,M) /\
    ((∃p,r.find? (fun p=>decide (p.lane=lane))=some p/\ex=.ret/\E=[(4,.w (Pt 1)),(5,.w (Bo true))]/\M=[bx 2 (zdP z),bxv 1 4 (zeB p)]) \/
     (r.find? (fun p=>decide (p.lane=lane))=none/\ex=.exit 0/\E=[(11,.w (Bo false)),(1,.w (W lane)),(2,.w (Pt 0)),(6,.w (W z.parts.length)),(4,.w (Pt 1))]/\M=[bx 2 (zdP z),bx 4 (zeB zto)])):=by
 intro r;induction r with
 |nil =>
  intro i hd hi;obtain rfl:=zUb hd hi;refine⟨_,_,_,?_,.inr ⟨rfl,rfl,rfl,rfl⟩⟩;rw[zj zcc.eq_1];simp[zdP]
 |cons p r ih =>
  intro i hd hi;obtain⟨hil,hq,hd'⟩:=zL hd;have hw:=zB (i:=i) (by omega);by_cases c:p.lane=lane
  ·refine⟨_,_,_,?_,.inl ⟨p,by simp[c],rfl,rfl,rfl⟩⟩;rw[zj zcc.eq_1];simp[hil,hq,c,zdP,zeB]
  ·have c':(p.lane==lane)=false:=by simp[c]
   obtain⟨ex,E,M,h1,h2⟩:=ih (i+1) hd' hil;refine⟨ex,E,M,?_,by rw[List.find?_cons_of_neg (by simp[c])];exact h2⟩;rw[<-h1,zj zcc.eq_1];clear ih h1 h2;simp[hil,hq,hw,c,c',zdP,zeB]
theorem zxM(z:Zon)(lane:Int)(hp:z.parts.length<=1000):R L Cs zlp [.a (zdP z),W lane] []=some (.t [.a (zeB ((zjF z lane).getD zto)),Bo (zjF z lane).isSome],[]):=by
 obtain⟨ex,E,M,h1,h2⟩:=zyl z lane hp z.parts 0 rfl (jE _);unfold zjF;rw[zUa zlF rfl];simp only[ji,zdP]at h1;rcases h2 with⟨p,e,rfl,rfl,rfl⟩ |⟨e,rfl,rfl,rfl⟩
 ·rw[e];simp only[zeB]at h1;simp[zdJ,h1,zdP,zeB]
 ·rw[e];simp only[zeB]at h1;simp[zdJ,h1,zdP,zeB]
def zff(ss:List Sgn)(lane tick:Int)(z:Zon):List Int:=if z.yi=0 then [] else match zjF z lane with
 |none=>[]
 |some p=>if zfA (ss.getD (z.yi-1).toNat ztn) lane tick=true then [] else [p.lo]
theorem wr{x:Int}(h1:-9000000000000000000<=x)(h2:x<=9000000000000000000):IntKind.i64.wrap x=x:=zTd _ (by omega) (by omega)
theorem ztS{a b A B:Int}(h1:-A<=a)(h2:a<=A)(h3:-B<=b)(h4:b<=B):-(A*B)<=a*b/\a*b<=A*B:=by
 have e1:0<=(A-a)*(B+b):=uY (by omega) (by omega);have e2:0<=(A+a)*(B-b):=uY (by omega) (by omega);have e3:0<=(A-a)*(B-b):=uY (by omega) (by omega);have e4:0<=(A+a)*(B+b):=uY (by omega) (by omega);simp only[Int.sub_mul,Int.add_mul,Int.mul_sub,Int.mul_add]at e1 e2 e3 e4;omega
structure Vw(vx vy wx wy:Int):Prop where
 a1:-1000000<=vx/\vx<=1000000
 a2:-1000000<=vy/\vy<=1000000
 a3:-20000000<=wx/\wx<=20000000
 a4:-20000000<=wy/\wy<=20000000
theorem z01(x0 y0 x y:Int)(h:(-16777216<=x0/\x0<=16777216)/\(-16777216<=y0/\y0<=16777216)/\(-16777216<=x/\x<=16777216)/\(-16777216<=y/\y<=16777216)) :
  R L Cs zXu [.a [I x0,I y0],.a [I x,I y]] []=some (.w (.a [I (x-x0),I (y-y0)]),[]):=by
 have h1:=wr (x:=x-x0) (by omega) (by omega);have h2:=wr (x:=y-y0) (by omega) (by omega);rw[zUa zZA rfl];simp[zun,zg,h1,h2]
theorem zZw(x0 y0 x y:Int)(h:(-16777216<=x0/\x0<=16777216)/\(-16777216<=y0/\y0<=16777216)/\(-16777216<=x/\x<=16777216)/\(-16777216<=y/\y<=16777216)) :
  R L Cs zXV [.a [I x,I y],.a [I x0,I y0]] []=some (.w (.a [I (x-x0),I (y-y0)]),[]):=by
 have h1:=wr (x:=x-x0) (by omega) (by omega);have h2:=wr (x:=y-y0) (by omega) (by omega);rw[zUa zX2 rfl];simp[zkT,zg,h1,h2]
theorem Vw.m{vx vy wx wy:Int}(h:Vw vx vy wx wy):(-20000000000000<=vx*wx/\vx*wx<=20000000000000)/\(-20000000000000<=vy*wy/\vy*wy<=20000000000000)/\(-20000000000000<=vx*wy/\vx*wy<=20000000000000)/\(-20000000000000<=vy*wx/\vy*wx<=20000000000000):=by
 obtain⟨⟨a1,a2⟩,⟨b1,b2⟩,⟨c1,c2⟩,⟨d1,d2⟩⟩:=h;have h1:=ztS (by omega:-1000000<=vx) a2 (by omega:-20000000<=wx) c2;have h2:=ztS (by omega:-1000000<=vy) b2 (by omega:-20000000<=wy) d2;have h3:=ztS (by omega:-1000000<=vx) a2 (by omega:-20000000<=wy) d2;have h4:=ztS (by omega:-1000000<=vy) b2 (by omega:-20000000<=wx) c2;omega
theorem z03{vx vy wx wy:Int}(h:Vw vx vy wx wy):R L Cs zWU [.a [I vx,I vy],.a [I wx,I wy]] []=some (.w (W (vx*wx+vy*wy)),[]):=by
 have hm:=h.m;have h1:=wr (x:=vx*wx) (by omega) (by omega);have h2:=wr (x:=vy*wy) (by omega) (by omega);have h3:=wr (x:=vx*wx+vy*wy) (by omega) (by omega);rw[zUa zYt rfl];simp[znB,zg,h1,h2,h3]
theorem z1s{vx vy wx wy:Int}(h:Vw vx vy wx wy):R L Cs zXp [.a [I vx,I vy],.a [I wx,I wy]] []=some (.w (W (vx*wy-vy*wx)),[]):=by
 have hm:=h.m;have h1:=wr (x:=vx*wy) (by omega) (by omega);have h2:=wr (x:=vy*wx) (by omega) (by omega);have h3:=wr (x:=vx*wy-vy*wx) (by omega) (by omega);rw[zUa zYe rfl];simp[zW1,zg,h1,h2,h3]
theorem z1z{vx vy wx wy:Int}(h:Vw vx vy wx wy):R L Cs zXo [.a [I wx,I wy],.a [I vx,I vy]] []=some (.w (W (vx*wx+vy*wy)),[]):=by
 have hm:=h.m;have h1:=wr (x:=vx*wx) (by omega) (by omega);have h2:=wr (x:=vy*wy) (by omega) (by omega);have h3:=wr (x:=vx*wx+vy*wy) (by omega) (by omega);rw[zUa zYd rfl];simp[zmg,zg,ur wx,ur wy,h1,h2,h3]
theorem z1y{vx vy wx wy:Int}(h:Vw vx vy wx wy):R L Cs z1S [.a [I vx,I vy],.a [I wx,I wy]] []=some (.w (W (vx*wy-vy*wx)),[]):=by
 have hm:=h.m;have h1:=wr (x:=vx*wy) (by omega) (by omega);have h2:=wr (x:=vy*wx) (by omega) (by omega);have h3:=wr (x:=vx*wy-vy*wx) (by omega) (by omega);rw[zUa z15 rfl];simp[z1R,zg,h1,h2,h3]
def zZ7(n:Int):Int:=if -n>n then -n else n
theorem z1N{n:Int}(h1:-9000000000000000000<=n)(h2:n<=9000000000000000000):R L Cs zYH [W n] []=some (.w (W (zZ7 n)),[]):=by
 have e:=wr (x:=-n) (by omega) (by omega);rw[zUa zZU rfl];simp[zYa,e,zZ7,zoU,zyw]
def zXz(a b:Int):Int:=if a.tmod b<0 then a.tdiv b-1 else a.tdiv b
theorem z0g{a b:Int}(hb:0<b)(h1:-9000000000000000<=a)(h2:a<=9000000000000000):-9000000000000000<=a.tdiv b/\a.tdiv b<=9000000000000000:=by
 have h:=Int.natAbs_tdiv_le_natAbs a b;omega
theorem z1q{a b:Int}(hb:0<b)(h1:-9000000000000000<=a)(h2:a<=9000000000000000):R L Cs zYl [W a,W b] []=some (.w (W (zXz a b)),[]):=by
 have hd:=z0g hb h1 h2;have e1:=wr (x:=a.tdiv b) (by omega) (by omega);have e2:=wr (x:=a.tdiv b-1) (by omega) (by omega);have hb0:b≠0:=by omega
 rw[zUa zY9 rfl];by_cases c:a.tmod b<0<;>simp[zXI,e1,e2,hb0,c,zXz]
theorem z0Y{a b:Int}(hb:0<b)(h1:-9000000000000000<=a)(h2:a<=9000000000000000):R L Cs z12 [W a,W b] []=some (.w (W (zXz a b)),[]):=by
 have hd:=z0g hb h1 h2;have e1:=wr (x:=a.tdiv b) (by omega) (by omega);have e2:=wr (x:=a.tdiv b-1) (by omega) (by omega);have hb0:b≠0:=by omega
 rw[zUa z14 rfl];by_cases c:a.tmod b<0<;>simp[z1Q,e1,e2,hb0,c,zXz]
def zXn(x y:Int):Bool:=decide (-16777216<=x)&&decide (x<=16777216)&&decide (-16777216<=y)&&decide (y<=16777216)
theorem z0T(x y:Int):Y L Cs zpY (some [6,5,7]) 0 [(6,.w (W 1)),(5,.w (.c (.jc [[I x,I y]]))),(7,.w (W 1))] []=some (.exit 0,[(8,.w (Bo false)),(5,.w (.c (.jc [[I x,I y]]))),(6,.w (W 1)),(7,.w (W 1))],[]):=by
 rw[zj zpY.eq_1];simp
theorem z02(x y:Int):R L Cs zZr [.c (.jc [[I x,I y]])] []=some (.w (Bo (zXn x y)),[]):=by
 have e:IntKind.i64.wrap 1=1:=rfl;have h2:=z0T x y;have hy:∃E',Y L Cs zpY (some [6,5,7]) 0 [(6,.w (W 1)),(5,.w (.c (.jc [[I x,I y]]))),(7,.w (W 0))] []=some (if zXn x y then(.exit 0,[(8,.w (Bo false)),(5,.w (.c (.jc [[I x,I y]]))),(6,.w (W 1)),(7,.w (W 1))],[]) else(.ret,[(2,.w (Bo false))],E')):=by
  refine⟨[some { box:=true,esz:=2,rows:=[[I x,I y]],gen:=0,fz:=false,ver:=1 }],?_⟩;rw[zj zpY.eq_1];unfold zXn;rcases Int.lt_trichotomy x y with c|c|c
  ·by_cases c1:x < -16777216
   ·have c2:¬(-16777216<=x):=by omega
    have c3:¬y<x:=by omega
    simp[zg,zoU,zyw,c,c3,c1,c2]
   ·have c2:-16777216<=x:=by omega
    have c3:¬y<x:=by omega
    by_cases c4:16777216<y
    ·have c5:¬(y<=16777216):=by omega
     simp[zg,zoU,zyw,c,c3,c1,c2,c4,c5]
    ·have c5:y<=16777216:=by omega
     have c6:-16777216<=y:=by omega
     have c7:x<=16777216:=by omega
     simp[zg,zoU,zyw,c,c3,c1,c2,c4,c5,c6,c7,e,h2]
  ·subst c;by_cases c1:x < -16777216
   ·have c2:¬(-16777216<=x):=by omega
    simp[zg,zoU,zyw,c1,c2]
   ·have c2:-16777216<=x:=by omega
    by_cases c4:16777216<x
    ·have c5:¬(x<=16777216):=by omega
     simp[zg,zoU,zyw,c1,c2,c4,c5]
    ·have c5:x<=16777216:=by omega
     simp[zg,zoU,zyw,c1,c2,c4,c5,e,h2]
  ·have c':¬x<y:=by omega
   by_cases c1:y < -16777216
   ·have c2:¬(-16777216<=y):=by omega
    simp[zg,zoU,zyw,c,c',c1,c2]
   ·have c2:-16777216<=y:=by omega
    by_cases c4:16777216<x
    ·have c5:¬(x<=16777216):=by omega
     simp[zg,zoU,zyw,c,c',c1,c2,c4,c5]
    ·have c5:x<=16777216:=by omega
     have c6:-16777216<=x:=by omega
     have c7:y<=16777216:=by omega
     simp[zg,zoU,zyw,c,c',c1,c2,c4,c5,c6,c7,e,h2]
 obtain⟨E',hy⟩:=hy;rw[zUa zZB rfl];by_cases c:zXn x y=true
 ·rw[if_pos c]at hy;simp[zuo,hy,c]
 ·rw[if_neg c]at hy;simp[zuo,hy,c]
theorem z1t(x y:Int):R L Cs zXU [.a [I x,I y]] []=some (.w (Bo (zXn x y)),[]):=by
 rw[zUa zX1 rfl];unfold zXn;by_cases c1:-16777216<=x
 ·by_cases c2:x<=16777216
  ·by_cases c3:-16777216<=y
   ·simp[zkS,zg,c1,c2,c3]
   ·simp[zkS,zg,c1,c2,c3]
  ·simp[zkS,zg,c1,c2]
 ·simp[zkS,zg,c1]
abbrev nsh:List (Nat×Bool×Nat):=[(4,false,1),(5,false,1),(7,false,1)]
abbrev ghN(s:Int)(v:Nat):Option Blk:=some { box:=true,esz:=4,rows:=[[I s,Cl.ptr 1 0 0 0,Cl.ptr 2 0 0 0,Cl.ptr 3 0 0 0]],gen:=0,fz:=false,ver:=v }
abbrev pcb(x0 y0 vx vy len:Int):Option Blk:=some { box:=true,esz:=6,rows:=[[I x0,I y0,I vx,I vy,I len,I 0]],gen:=0,fz:=false,ver:=1 }
theorem zZI(x0 y0 vx vy len px py:Int):X L Cs (rG 1 [o1 0 9 (.box 0 6 (.k (.a [(I 0),(I 0),(I 0),(I 0),(I 0),(I 0)]))),o0 1 (.store 6 (.s 9) (.s 32))] [4,5,7,9]) (zv3 [31,32] [W 0,.a [I x0,I y0,I vx,I vy,I len,I 0]]++[(4,.w (Pt 1)),(5,.w (Pt 2)),(7,.w (Pt 3))]) [ghN 0 0,bx 2 [I px,I py],bx 1 [I 100],bx 1 [.je]] =
  some (.normal,[(4,.w (Pt 1)),(5,.w (Pt 2)),(7,.w (Pt 3)),(9,.w (Pt 4))],[ghN 0 0,bx 2 [I px,I py],bx 1 [I 100],bx 1 [.je],pcb x0 y0 vx vy len]):=by
 simp[zv3,zg,zH]
structure Rnd(x0 y0 vx vy len px py wx wy c d q:Int):Prop where
 hl:IntKind.i64.wrap (100*len)=100*len
 hl2:IntKind.i64.wrap (-100*len)=-100*len
 hl3:IntKind.i64.wrap (len+100)=len+100
 hl4:IntKind.i64.wrap ((len+100)*len)=(len+100)*len
 yc:R L Cs zXu [.a [I x0,I y0],.a [I px,I py]] []=some (.w (.a [I wx,I wy]),[])
 yC:R L Cs zXp [.a [I vx,I vy],.a [I wx,I wy]] []=some (.w (W c),[])
 AD:R L Cs zWU [.a [I vx,I vy],.a [I wx,I wy]] []=some (.w (W d),[])
 Bn:R L Cs zYH [W c] []=some (.w (W (zZ7 c)),[])
 hfl:R L Cs zYl [W d,W len] []=some (.w (W q),[])
def zXi(len c d:Int):Bool:=decide (100*len<zZ7 c)||decide (d < -100*len)||decide ((len+100)*len<d)
theorem z0t{x0 y0 vx vy len px py wx wy c d q:Int}(h:Rnd x0 y0 vx vy len px py wx wy c d q)(hm:zXi len c d=true) :
  ∃E M,X L Cs zWF.code [(4,.w (Pt 1)),(5,.w (Pt 2)),(7,.w (Pt 3)),(9,.w (Pt 4))] [ghN 1 1,bx 2 [I px,I py],bx 1 [I 100],bx 1 [.je],pcb x0 y0 vx vy len]=some (.normal,E,[ghN 1 1,bx 2 [I px,I py],bx 1 [I 100],bx 1 [.je],M,some { box:=true,esz:=2,rows:=[[I wx,I wy]],gen:=0,fz:=false,ver:=1 }]):=by
 obtain⟨hl,hl2,hl3,hl4,yc,yC,AD,Bn,hfl⟩:=h;have e1:IntKind.i64.wrap (-100)=-100:=rfl;refine⟨[(70,.w (Bo true)),(7,.w (Pt 3)),(9,.w (Pt 4)),(11,.w (W d))],pcb x0 y0 vx vy len,?_⟩;unfold zXi at hm;by_cases h1:100*len<zZ7 c
 ·simp[zWF,zg,zH,yc,yC,AD,Bn,hl,h1]
 ·by_cases h2:d < -100*len
  ·simp[zWF,zg,zH,yc,yC,AD,Bn,hl,hl2,e1,h1,h2]
  ·have h3:(len+100)*len<d:=by simpa [h1,h2]using hm
   simp[zWF,zg,zH,yc,yC,AD,Bn,hl,hl2,hl3,hl4,e1,h1,h2,h3]
abbrev zYh(q len:Int):Int:=if 0<if len<q then len else q then if len<q then len else q else 0
abbrev zZH(v:Int):Option Blk:=some { box:=false,esz:=1,rows:=[[I v]],gen:=1,fz:=false,ver:=1 }
abbrev z0s(id:Nat):Option Blk:=some { box:=true,esz:=1,rows:=[[Cl.slice id 1 1 0 1 none]],gen:=0,fz:=false,ver:=1 }
theorem z0N{x0 y0 vx vy len px py wx wy c d q:Int}(h:Rnd x0 y0 vx vy len px py wx wy c d q)(hm:zXi len c d=false)(hw:IntKind.i64.wrap (zYh q len)=zYh q len) :
  X L Cs zWF.code [(4,.w (Pt 1)),(5,.w (Pt 2)),(7,.w (Pt 3)),(9,.w (Pt 4))] [ghN 1 1,bx 2 [I px,I py],bx 1 [I 100],bx 1 [.je],pcb x0 y0 vx vy len] =
    some (.normal,[],[ghN 1 1,bx 2 [I px,I py],bx 1 [I 100],z0s 7,pcb x0 y0 vx vy len,some { box:=true,esz:=2,rows:=[[I wx,I wy]],gen:=0,fz:=false,ver:=1 },zZH (zYh q len),zZH (zYh q len)]):=by
 obtain⟨hl,hl2,hl3,hl4,yc,yC,AD,Bn,hfl⟩:=h;have e1:IntKind.i64.wrap (-100)=-100:=rfl;simp only[zXi,uk,decide_eq_false_iff_not]at hm;obtain⟨⟨h1,h2⟩,h3⟩:=hm;simp[zWF,zg,zH,yc,yC,AD,Bn,hl,hl2,hl3,hl4,e1,h1,h2,h3,hfl,zoU,zyw,hw]
theorem zZ0{x0 y0 vx vy len px py wx wy c d q:Int}(h:Rnd x0 y0 vx vy len px py wx wy c d q)(hm:zXi len c d=true) :
  R L Cs zWv [.c (.yld 0 zWv nsh),W 0,.a [I x0,I y0,I vx,I vy,I len,I 0]] [ghN 0 0,bx 2 [I px,I py],bx 1 [I 100],bx 1 [.je]] =
    some (.w (Bo true),[ghN 0 2,bx 2 [I px,I py],bx 1 [I 100],bx 1 [.je]]):=by
 obtain⟨E,M,hc⟩:=z0t h hm;exact zOg (cells:=[.ptr 1 0 0 0,.ptr 2 0 0 0,.ptr 3 0 0 0]) (M2:=[ghN 1 1,bx 2 [I px,I py],bx 1 [I 100],bx 1 [.je],pcb x0 y0 vx vy len]) (M4:=[ghN 0 2,bx 2 [I px,I py],bx 1 [I 100],bx 1 [.je],M,some { box:=true,esz:=2,rows:=[[I wx,I wy]],gen:=0,fz:=false,ver:=1 }]) zX3 rfl rfl (by simp[zb4]) (by simp[zxb]) (by rfl) (zZI x0 y0 vx vy len px py) (by simp[zsR]) hc (by simp[zsR,zxZ]) (by simp[finish,zH])
theorem z0q{x0 y0 vx vy len px py wx wy c d q:Int}(h:Rnd x0 y0 vx vy len px py wx wy c d q)(hm:zXi len c d=false)(hw:IntKind.i64.wrap (zYh q len)=zYh q len) :
  R L Cs zWv [.c (.yld 0 zWv nsh),W 0,.a [I x0,I y0,I vx,I vy,I len,I 0]] [ghN 0 0,bx 2 [I px,I py],bx 1 [I 100],bx 1 [.je]] =
    some (.w (Bo true),[ghN 0 2,bx 2 [I px,I py],bx 1 [I 100],z0s 4,zZH (zYh q len)]):=by
 have hc:=z0N h hm hw;exact zOg (cells:=[.ptr 1 0 0 0,.ptr 2 0 0 0,.ptr 3 0 0 0]) (M2:=[ghN 1 1,bx 2 [I px,I py],bx 1 [I 100],bx 1 [.je],pcb x0 y0 vx vy len]) (M4:=[ghN 0 2,bx 2 [I px,I py],bx 1 [I 100],z0s 7,pcb x0 y0 vx vy len,some { box:=true,esz:=2,rows:=[[I wx,I wy]],gen:=0,fz:=false,ver:=1 },zZH (zYh q len),zZH (zYh q len)]) zX3 rfl rfl (by simp[zb4]) (by simp[zxb]) (by rfl) (zZI x0 y0 vx vy len px py) (by simp[zsR]) hc (by simp[zsR,zxZ]) (by simp[zH,List.range,List.range.loop])
abbrev crv(x0 y0 x1 y1:Int):Cl:=.jc [[I x0,I y0],[I x1,I y1]]
theorem zZ1{x0 y0 x1 y1 vx vy len px py a v:Int}(hw:IntKind.i64.wrap len=len)
  (yc:R L Cs zXu [.a [I x0,I y0],.a [I x1,I y1]] []=some (.w (.a [I vx,I vy]),[]))
  (AD:R L Cs zWU [.a [I vx,I vy],.a [I vx,I vy]] []=some (.w (W a),[]))
  (BX:R L Cs zud [W a] []=some (.t [W len,Bo true],[]))
  (yl:R L Cs zWv [.c (.yld 0 zWv nsh),W 0,.a [I x0,I y0,I vx,I vy,I len,I 0]] [ghN 0 0,bx 2 [I px,I py],bx 1 [I 100],bx 1 [.je]] =
    some (.w (Bo true),[ghN 0 2,bx 2 [I px,I py],bx 1 [I 100],z0s 4,zZH v])) :
  R L Cs zWM [.c (.yld 0 zWv nsh),.c (.ptr 4 0 0 0)] [ghN 0 0,bx 2 [I px,I py],bx 1 [I 100],bx 1 [.je],bx 1 [crv x0 y0 x1 y1]]=some (.t [],[ghN 0 2,bx 2 [I px,I py],bx 1 [I 100],z0s 5,bx 1 [crv x0 y0 x1 y1],zZH v]):=by
 have e:IntKind.i64.wrap 1=1:=rfl;rw[zUa zXP rfl];simp[zo2,zg,zH,e];rw[zj zmW.eq_1];simp[zg,zH,yc,AD,BX,yl,e,hw];rw[zj zmW.eq_1];simp[zg,zH,List.range,List.range.loop]
theorem zZG{x0 y0 x1 y1 vx vy len px py a:Int}(hw:IntKind.i64.wrap len=len)
  (yc:R L Cs zXu [.a [I x0,I y0],.a [I x1,I y1]] []=some (.w (.a [I vx,I vy]),[]))
  (AD:R L Cs zWU [.a [I vx,I vy],.a [I vx,I vy]] []=some (.w (W a),[]))
  (BX:R L Cs zud [W a] []=some (.t [W len,Bo true],[]))
  (yl:R L Cs zWv [.c (.yld 0 zWv nsh),W 0,.a [I x0,I y0,I vx,I vy,I len,I 0]] [ghN 0 0,bx 2 [I px,I py],bx 1 [I 100],bx 1 [.je]] =
    some (.w (Bo true),[ghN 0 2,bx 2 [I px,I py],bx 1 [I 100],bx 1 [.je]])) :
  R L Cs zWM [.c (.yld 0 zWv nsh),.c (.ptr 4 0 0 0)] [ghN 0 0,bx 2 [I px,I py],bx 1 [I 100],bx 1 [.je],bx 1 [crv x0 y0 x1 y1]]=some (.t [],[ghN 0 2,bx 2 [I px,I py],bx 1 [I 100],bx 1 [.je],bx 1 [crv x0 y0 x1 y1]]):=by
 have e:IntKind.i64.wrap 1=1:=rfl;rw[zUa zXP rfl];simp[zo2,zg,zH,e];rw[zj zmW.eq_1];simp[zg,zH,yc,AD,BX,yl,e,hw];rw[zj zmW.eq_1];simp[zg,zH,List.range,List.range.loop]
theorem z0Z(c:Cl)(hc:∃rows,c=.jc rows):R L Cs zYX [.a [c]] []=some (.w (.c (.fn zWM [] [.ptr 0 0 0 0])),[bx 1 [c]]):=by
 obtain⟨rows,rfl⟩:=hc;rw[zUa zY1 rfl];simp[zrE,zg]
theorem z1h{x0 y0 x1 y1 px py:Int}{out:List Int}{M1:Mem}
  (hk:R L Cs zsk [.a [crv x0 y0 x1 y1]] []=some (.w (W 0),[]))
  (hf:zXn px py=true)
  (hp:(out=[]/\R L Cs zWM [.c (.yld 0 zWv nsh),.c (.ptr 4 0 0 0)] [ghN 0 0,bx 2 [I px,I py],bx 1 [I 100],bx 1 [.je],bx 1 [crv x0 y0 x1 y1]]=some (.t [],[ghN 0 2,bx 2 [I px,I py],bx 1 [I 100],bx 1 [.je],bx 1 [crv x0 y0 x1 y1]])) \/
   ∃v,out=[v]/\R L Cs zWM [.c (.yld 0 zWv nsh),.c (.ptr 4 0 0 0)] [ghN 0 0,bx 2 [I px,I py],bx 1 [I 100],bx 1 [.je],bx 1 [crv x0 y0 x1 y1]]=some (.t [],[ghN 0 2,bx 2 [I px,I py],bx 1 [I 100],z0s 5,bx 1 [crv x0 y0 x1 y1],zZH v])) :
  R L Cs zXv [.a [crv x0 y0 x1 y1],.a [I px,I py],W 100] []=some (.w (.c (.jc (zu out))),[]):=by
 have hF:=z02 px py;rw[hf]at hF;have hq:=z0Z (crv x0 y0 x1 y1) ⟨_,rfl⟩;have hne:¬(zWv=zWM):=by decide
 rw[zUa zYA rfl];rcases hp with⟨rfl,hp⟩ |⟨v,rfl,hp⟩
 ·simp[zXh,zg,zH,hk,hF,hq,zNb,zeN,ghost,hp,zX,zb4,znr,zsR,hne]
 ·simp[zXh,zg,zH,hk,hF,hq,zNb,zeN,ghost,hp,zX,zb4,znr,zsR,hne]
theorem z0O{x0 y0 x1 y1 px py:Int}(hk:R L Cs zsk [.a [crv x0 y0 x1 y1]] []=some (.w (W 0),[]))
  (hf:zXn px py=false):R L Cs zXv [.a [crv x0 y0 x1 y1],.a [I px,I py],W 100] []=some (.w (.c (.jc [])),[]):=by
 have hF:=z02 px py;rw[hf]at hF;rw[zUa zYA rfl];simp[zXh,zg,zH,hk,hF,zX]
structure Pc(x0 y0 x1 y1 len:Int):Prop where
 b:(-400000<=x0/\x0<=400000)/\(-400000<=y0/\y0<=400000)/\(-400000<=x1/\x1<=400000)/\(-400000<=y1/\y1<=400000)
 l:1000<=len/\len<=1000000
 chk:R L Cs zsk [.a [crv x0 y0 x1 y1]] []=some (.w (W 0),[])
 yQ:R L Cs zkH [.a [crv x0 y0 x1 y1]] []=some (.w (W 0),[])
 root:R L Cs zud [W ((x1-x0)*(x1-x0)+(y1-y0)*(y1-y0))] []=some (.t [W len,Bo true],[])
 rroot:R L Cs zlq [W ((x1-x0)*(x1-x0)+(y1-y0)*(y1-y0))] []=some (.w (W len),[])
def zX9(x0 y0 x1 y1 px py:Int):Int:=(x1-x0)*(py-y0)-(y1-y0)*(px-x0)
def zYq(x0 y0 x1 y1 px py:Int):Int:=(x1-x0)*(px-x0)+(y1-y0)*(py-y0)
def zZc(x0 y0 x1 y1 len px py:Int):List Int :=
 if zXn px py then(if zXi len (zX9 x0 y0 x1 y1 px py) (zYq x0 y0 x1 y1 px py) then [] else [zYh (zXz (zYq x0 y0 x1 y1 px py) len) len]) else []
theorem zZn{x y:Int}(h:zXn x y=true):(-16777216<=x/\x<=16777216)/\(-16777216<=y/\y<=16777216):=by
 simp[zXn]at h;omega
theorem zZi{q len:Int}(h:0<=len):0<=zYh q len/\zYh q len<=len:=by
 unfold zYh;split<;>split<;>omega
theorem Pc.vw{x0 y0 x1 y1 len px py:Int}(h:Pc x0 y0 x1 y1 len)(hf:zXn px py=true):Vw (x1-x0) (y1-y0) (px-x0) (py-y0):=by
 have:=h.b;have:=zZn hf;exact⟨by omega,by omega,by omega,by omega⟩
theorem Pc.nums{x0 y0 x1 y1 len px py:Int}(h:Pc x0 y0 x1 y1 len)(hf:zXn px py=true) :
  (-40000000000000<=zX9 x0 y0 x1 y1 px py/\zX9 x0 y0 x1 y1 px py<=40000000000000)/\(-40000000000000<=zYq x0 y0 x1 y1 px py/\zYq x0 y0 x1 y1 px py<=40000000000000):=by
 have:=(h.vw hf).m;unfold zX9 zYq;omega
theorem Pc.rnd{x0 y0 x1 y1 len px py:Int}(h:Pc x0 y0 x1 y1 len)(hf:zXn px py=true) :
  Rnd x0 y0 (x1-x0) (y1-y0) len px py (px-x0) (py-y0) (zX9 x0 y0 x1 y1 px py) (zYq x0 y0 x1 y1 px py) (zXz (zYq x0 y0 x1 y1 px py) len):=by
 have hb:=h.b;have hl:=h.l;have hp:=zZn hf;have hn:=h.nums hf;have hm:=ztS (a:=len+100) (b:=len) (A:=2000000) (B:=1000000) (by omega) (by omega) (by omega) (by omega);exact⟨wr (by omega) (by omega),wr (by omega) (by omega),wr (by omega) (by omega),wr (by omega) (by omega),z01 _ _ _ _ (by omega),z1s (h.vw hf),z03 (h.vw hf),z1N (by omega) (by omega),z1q (by omega) (by omega) (by omega)⟩
theorem z1G{x0 y0 x1 y1 len:Int}(h:Pc x0 y0 x1 y1 len)(px py:Int):R L Cs zXv [.a [crv x0 y0 x1 y1],.a [I px,I py],W 100] []=some (.w (.c (.jc (zu (zZc x0 y0 x1 y1 len px py)))),[]):=by
 unfold zZc;by_cases hf:zXn px py=true
 ·rw[if_pos hf];have hb:=h.b;have hl:=h.l;have hv:Vw (x1-x0) (y1-y0) (x1-x0) (y1-y0):=⟨by omega,by omega,by omega,by omega⟩;have yc:=z01 x0 y0 x1 y1 (by omega);have hval:=zZi (q:=zXz (zYq x0 y0 x1 y1 px py) len) (len:=len) (by omega);refine z1h (M1:=[]) h.chk hf ?_;by_cases hm:zXi len (zX9 x0 y0 x1 y1 px py) (zYq x0 y0 x1 y1 px py)=true
  ·rw[if_pos hm];exact .inl ⟨rfl,zZG (wr (by omega) (by omega)) yc (z03 hv) h.root (zZ0 (h.rnd hf) hm)⟩
  ·rw[if_neg hm];exact .inr ⟨_,rfl,zZ1 (wr (by omega) (by omega)) yc (z03 hv) h.root (z0q (h.rnd hf) (by simpa using hm) (wr (by omega) (by omega)))⟩
 ·rw[if_neg hf];exact z0O h.chk (by simpa using hf)
theorem z0y{x0 y0 x1 y1 len:Int}(h:Pc x0 y0 x1 y1 len):R L Cs zXM [.a [crv x0 y0 x1 y1]] []=some (.w (.c (.jc [[I len]])),[]):=by
 have e:IntKind.i64.wrap 1=1:=rfl;have e2:IntKind.i64.wrap 2=2:=rfl;have hb:=h.b;have hv:Vw (x1-x0) (y1-y0) (x1-x0) (y1-y0):=⟨by omega,by omega,by omega,by omega⟩;have h1:=zZw x0 y0 x1 y1 (by omega);have h2:=z1z hv;have h3:=h.rroot;have h4:=h.yQ;rw[zUa zXO rfl];simp[zjZ,zg,zH,h4];rw[zj ziz.eq_1];simp[zg,zH,e,h1,h2,h3];rw[zj ziz.eq_1];simp[zg,zH,e,e2,zX]
theorem z0r{x0 y0 x1 y1 len px py st:Int}{o:Cl}{M:Mem}:Y L Cs z1O (some [7,9,10,3,4,2,8]) 4 [(7,.w (.c o)),(9,.w (W st)),(10,.w (W 1)),(3,.w (Pt 0)),(4,.w (Pt 1)),(2,.w (W 100)),(8,.w (.c (.jc [[I len]])))] M =
  some (.exit 0,[(31,.w (Bo false)),(7,.w (.c o)),(9,.w (W st)),(10,.w (W 1)),(3,.w (Pt 0)),(4,.w (Pt 1)),(2,.w (W 100)),(8,.w (.c (.jc [[I len]])))],M):=by
 rw[zj z1O.eq_1];simp
theorem z1p{x0 y0 x1 y1 len:Int}(h:Pc x0 y0 x1 y1 len)(px py:Int):R L Cs z1T [.a [crv x0 y0 x1 y1],.a [I px,I py],W 100] []=some (.w (.c (.jc (zu (zZc x0 y0 x1 y1 len px py)))),[]):=by
 have hV:=z1t px py;unfold zZc;rw[zUa z17 rfl];by_cases hf:zXn px py=true
 ·rw[if_pos hf];rw[hf]at hV;have hb:=h.b;have hl:=h.l;have hp:=zZn hf;have hn:=h.nums hf;have hvw:=h.vw hf;have hP:=z0y h;have h1:=zZw x0 y0 x1 y1 (by omega);have h2:=zZw x0 y0 px py (by omega);have h3:=z1z hvw;have h4:=z1y hvw;have hm:=ztS (a:=len+100) (b:=len) (A:=2000000) (B:=1000000) (by omega) (by omega) (by omega) (by omega);have h5:=z0Y (a:=zYq x0 y0 x1 y1 px py) (b:=len) (by omega) (by omega) (by omega);have e1:IntKind.i64.wrap (100*len)=100*len:=wr (by omega) (by omega);have e2:IntKind.i64.wrap (-100*len)=-100*len:=wr (by omega) (by omega);have e3:IntKind.i64.wrap (len+100)=len+100:=wr (by omega) (by omega);have e4:IntKind.i64.wrap ((len+100)*len)=(len+100)*len:=wr (by omega) (by omega);have e5:IntKind.i64.wrap (-100)=-100:=rfl;have e6:IntKind.i64.wrap len=len:=wr (by omega) (by omega);have e7:IntKind.i64.wrap 1=1:=rfl;have hval:=zZi (q:=zXz (zYq x0 y0 x1 y1 px py) len) (len:=len) (by omega);have e8:IntKind.i64.wrap (zYh (zXz (zYq x0 y0 x1 y1 px py) len) len)=zYh (zXz (zYq x0 y0 x1 y1 px py) len) len:=wr (by omega) (by omega);simp[z1P,zg,zH,hV,hP];rw[zj z1O.eq_1];change R L Cs zXo _ _=some (.w (W (zYq x0 y0 x1 y1 px py)),[])at h3;change R L Cs z1S _ _=some (.w (W (zX9 x0 y0 x1 y1 px py)),[])at h4;generalize zX9 x0 y0 x1 y1 px py=c at *;generalize zYq x0 y0 x1 y1 px py=d at *;generalize zXz d len=q at *;have AC:=fun(st:Int) (o:Cl) (M:Mem)=>@z0r x0 y0 x1 y1 len px py st o M
  have Bn:(zZ7 c>100*len)<->¬(c<=100*len/\-100*len<=c):=by unfold zZ7;split<;>omega
  by_cases c1:c<=100*len
  ·by_cases c2:-100*len<=c
   ·by_cases c3:-100*len<=d
    ·by_cases c4:d<=(len+100)*len
     ·have hmi:zXi len c d=false:=by simp[zXi];omega
      rw[if_neg (by simp[hmi])];unfold zYh at e8;simp[zg,zH,h1,h2,h3,h4,e1,e2,e3,e4,e5,e6,e7,c1,c2,c3,c4,h5,zoU,zyw,e8,AC,zX]
     ·have hmi:zXi len c d=true:=by simp[zXi];omega
      rw[if_pos hmi];simp[zg,zH,h1,h2,h3,h4,e1,e2,e3,e4,e5,e6,e7,c1,c2,c3,c4,h5,zoU,zyw,AC,zX]
    ·have hmi:zXi len c d=true:=by simp[zXi];omega
     rw[if_pos hmi];simp[zg,zH,h1,h2,h3,h4,e1,e2,e5,e6,e7,c1,c2,c3,AC,zX]
   ·have hmi:zXi len c d=true:=by simp[zXi];omega
    rw[if_pos hmi];simp[zg,zH,h1,h2,h3,h4,e1,e2,e5,e6,e7,c1,c2,AC,zX]
  ·have hmi:zXi len c d=true:=by simp[zXi];omega
   rw[if_pos hmi];simp[zg,zH,h1,h2,h3,h4,e1,e2,e5,e6,e7,c1,AC,zX]
 ·rw[if_neg hf];have hf':zXn px py=false:=by simpa using hf
  rw[hf']at hV;simp[z1P,zg,zH,hV,zX]
theorem pc0:Pc 0 0 60000 0 60000:=⟨by decide,by decide,zah.2 ⟨400,by kernel_rfl⟩,zah.2 ⟨400,by kernel_rfl⟩,zah.2 ⟨400,by kernel_rfl⟩,zah.2 ⟨400,by kernel_rfl⟩⟩
theorem pc1:Pc 0 0 50000 0 50000:=⟨by decide,by decide,zah.2 ⟨400,by kernel_rfl⟩,zah.2 ⟨400,by kernel_rfl⟩,zah.2 ⟨400,by kernel_rfl⟩,zah.2 ⟨400,by kernel_rfl⟩⟩
theorem pc2:Pc 30000 (-20000) 30000 20000 40000:=⟨by decide,by decide,zah.2 ⟨400,by kernel_rfl⟩,zah.2 ⟨400,by kernel_rfl⟩,zah.2 ⟨400,by kernel_rfl⟩,zah.2 ⟨400,by kernel_rfl⟩⟩
theorem pc3:Pc 0 0 30000 0 30000:=⟨by decide,by decide,zah.2 ⟨400,by kernel_rfl⟩,zah.2 ⟨400,by kernel_rfl⟩,zah.2 ⟨400,by kernel_rfl⟩,zah.2 ⟨400,by kernel_rfl⟩⟩
theorem pc4:Pc 30000 0 60000 0 30000:=⟨by decide,by decide,zah.2 ⟨400,by kernel_rfl⟩,zah.2 ⟨400,by kernel_rfl⟩,zah.2 ⟨400,by kernel_rfl⟩,zah.2 ⟨400,by kernel_rfl⟩⟩
theorem pc5:Pc 30000 0 54000 10000 26000:=⟨by decide,by decide,zah.2 ⟨400,by kernel_rfl⟩,zah.2 ⟨400,by kernel_rfl⟩,zah.2 ⟨400,by kernel_rfl⟩,zah.2 ⟨400,by kernel_rfl⟩⟩
theorem pc6:Pc 6000 (-10000) 30000 0 26000:=⟨by decide,by decide,zah.2 ⟨400,by kernel_rfl⟩,zah.2 ⟨400,by kernel_rfl⟩,zah.2 ⟨400,by kernel_rfl⟩,zah.2 ⟨400,by kernel_rfl⟩⟩
theorem pc7:Pc 0 0 20000 0 20000:=⟨by decide,by decide,zah.2 ⟨400,by kernel_rfl⟩,zah.2 ⟨400,by kernel_rfl⟩,zah.2 ⟨400,by kernel_rfl⟩,zah.2 ⟨400,by kernel_rfl⟩⟩
theorem pc8:Pc 20000 0 50000 0 30000:=⟨by decide,by decide,zah.2 ⟨400,by kernel_rfl⟩,zah.2 ⟨400,by kernel_rfl⟩,zah.2 ⟨400,by kernel_rfl⟩,zah.2 ⟨400,by kernel_rfl⟩⟩
theorem pc9:Pc 35000 (-8000) 35000 8000 16000:=⟨by decide,by decide,zah.2 ⟨400,by kernel_rfl⟩,zah.2 ⟨400,by kernel_rfl⟩,zah.2 ⟨400,by kernel_rfl⟩,zah.2 ⟨400,by kernel_rfl⟩⟩
theorem pc10:Pc 20000 0 44000 10000 26000:=⟨by decide,by decide,zah.2 ⟨400,by kernel_rfl⟩,zah.2 ⟨400,by kernel_rfl⟩,zah.2 ⟨400,by kernel_rfl⟩,zah.2 ⟨400,by kernel_rfl⟩⟩
theorem pc11:Pc 36000 (-12000) 36000 18000 30000:=⟨by decide,by decide,zah.2 ⟨400,by kernel_rfl⟩,zah.2 ⟨400,by kernel_rfl⟩,zah.2 ⟨400,by kernel_rfl⟩,zah.2 ⟨400,by kernel_rfl⟩⟩
structure zmp(m:zD):Prop where
 one:∀l∈m.jf,∃x0 y0 x1 y1,l.pts=[(x0,y0),(x1,y1)]/\Pc x0 y0 x1 y1 l.len
 few:m.jf.length<=4/\0<m.jf.length
theorem zAd(lim r o1 o2 o3 v:Int)(ws:List zCP):zmp (zq 0 lim r o1 o2 o3 v ws):=by
 refine⟨fun l hl=>?_,by constructor<;>simp[zq,zy]⟩;simp only[zq,zy,js,j8,or_false]at hl;subst hl
 ·exact⟨_,_,_,_,rfl,pc0⟩
theorem zAc(lim r o1 o2 o3 v:Int)(ws:List zCP):zmp (zq 1 lim r o1 o2 o3 v ws):=by
 refine⟨fun l hl=>?_,by constructor<;>simp[zq,zy]⟩;simp only[zq,zy,js,j8,or_false]at hl;rcases hl with rfl|rfl
 ·exact⟨_,_,_,_,rfl,pc1⟩
 ·exact⟨_,_,_,_,rfl,pc2⟩
theorem zAb(lim r o1 o2 o3 v:Int)(ws:List zCP):zmp (zq 2 lim r o1 o2 o3 v ws):=by
 refine⟨fun l hl=>?_,by constructor<;>simp[zq,zy]⟩;simp only[zq,zy,js,j8,or_false]at hl;rcases hl with rfl|rfl
 ·exact⟨_,_,_,_,rfl,pc1⟩
 ·exact⟨_,_,_,_,rfl,pc2⟩
theorem zAa(lim r o1 o2 o3 v:Int)(ws:List zCP):zmp (zq 3 lim r o1 o2 o3 v ws):=by
 refine⟨fun l hl=>?_,by constructor<;>simp[zq,zy]⟩;simp only[zq,zy,js,j8,or_false]at hl;rcases hl with rfl|rfl|rfl
 ·exact⟨_,_,_,_,rfl,pc3⟩
 ·exact⟨_,_,_,_,rfl,pc4⟩
 ·exact⟨_,_,_,_,rfl,pc5⟩
theorem zz9(lim r o1 o2 o3 v:Int)(ws:List zCP):zmp (zq 4 lim r o1 o2 o3 v ws):=by
 refine⟨fun l hl=>?_,by constructor<;>simp[zq,zy]⟩;simp only[zq,zy,js,j8,or_false]at hl;rcases hl with rfl|rfl|rfl
 ·exact⟨_,_,_,_,rfl,pc3⟩
 ·exact⟨_,_,_,_,rfl,pc6⟩
 ·exact⟨_,_,_,_,rfl,pc4⟩
theorem zz8(lim r o1 o2 o3 v:Int)(ws:List zCP):zmp (zq 5 lim r o1 o2 o3 v ws):=by
 refine⟨fun l hl=>?_,by constructor<;>simp[zq,zy]⟩;simp only[zq,zy,js,j8,or_false]at hl;rcases hl with rfl|rfl|rfl
 ·exact⟨_,_,_,_,rfl,pc7⟩
 ·exact⟨_,_,_,_,rfl,pc8⟩
 ·exact⟨_,_,_,_,rfl,pc9⟩
theorem zz7(lim r o1 o2 o3 v:Int)(ws:List zCP):zmp (zq 6 lim r o1 o2 o3 v ws):=by
 refine⟨fun l hl=>?_,by constructor<;>simp[zq,zy]⟩;simp only[zq,zy,js,j8,or_false]at hl;rcases hl with rfl|rfl|rfl|rfl
 ·exact⟨_,_,_,_,rfl,pc7⟩
 ·exact⟨_,_,_,_,rfl,pc8⟩
 ·exact⟨_,_,_,_,rfl,pc10⟩
 ·exact⟨_,_,_,_,rfl,pc11⟩
theorem zTT{m:zD}(h:zcp m)(t:Int)(e:Ego)(j:Nat):∀(r:List zfn) (i:Nat) (out:List zk) (v:Nat) (G:Mem),m.jf.drop i=r->i<=m.jf.length->out.length=i->G[j]?=some (some (own 6 (zI out))) ->
  ∃v' G',G'[j]?=some (some (own 6 (zI (out++zTA i r))))/\Y L Cs z7N (some [8,6,3,7]) 4 [(8,.w (W i)),(6,.w (Pt 2)),(3,.w (Pt 0)),(7,.w (Pt 3))] (bx 5 (zf m)::bx 4 (zch e)::bx 6 zFA::bxv v 6 (zTL t (.slice (j+4) out.length 6 0 out.length none) e)::G) =
   some (.exit 0,[(24,.w (Bo false)),(8,.w (W m.jf.length)),(6,.w (Pt 2)),(3,.w (Pt 0)),(7,.w (Pt 3))],(bx 5 (zf m)::bx 4 (zch e)::bx 6 zFA::bxv v' 6 (zTL t (.slice (j+4) (out++zTA i r).length 6 0 (out++zTA i r).length none) e)::G')):=by
 have hk:=h.yQ;simp only[zf]at hk;intro r;induction r with
 |nil =>
  intro i out v G hd hi ho hG;obtain rfl:=zUb hd hi;refine⟨v,G,by simpa [zTA]using hG,?_⟩;rw[zj z7N.eq_1];simp[zTA,zf]
 |cons l r ih =>
  intro i out v G hd hi ho hG;subst ho;obtain⟨hil,hl,hd'⟩:=zL hd;have yb:l∈m.jf:=by rw[<-hl];exact jb _
  have hw:=zB (i:=out.length) (by have:=h.small.jf;omega);have hjG:j<G.length:=(ku.1 hG).1;have hg:∀N:Mem,(G++N)[j]?=some (some (own 6 (zI out))):=fun N=>by rw[jq hjG,hG]
  have yx:∀(N:Mem) (x:Option Blk),(G++N).set j x=G.set j x++N:=fun N x=>qI _ _ hjG
  have hb:=zhv (h.kind l yb);have hL:=zEQ h hil;rw[hl]at hL;have jU:(out.length+1)*48<=140737488355328:=by have:=h.small.jf;omega
  obtain⟨v',G',h1,h2⟩:=ih (out.length+1) (out++[zTF out.length l]) (v+1) (G.set j (some (own 6 (zI (out++[zTF out.length l]))))++[some (own 6 [ze (zTF out.length l)])]) hd' hil (by simp) (by rw[jq (by simpa using hjG),j6 hjG]);have e1:out++zTA out.length (l::r)=(out++[zTF out.length l])++zTA (out.length+1) r:=by simp[zTA]
  refine⟨v',G',by rw[e1];exact h1,?_⟩;rw[e1,<-h2,zj z7N.eq_1];simp only[own,zgg,zf]at hg hL;have hdr:∀(E:Env) (x y z:Option Blk) (w g len:Nat) (N:Mem),kj 4 E (x::y::z::bxv w 6 (zTL t (.slice (j+4) g 6 0 len none) e)::N)=(x::y::z::bxv w 6 (zTL t (.slice (j+4) g 6 0 len none) e)::N):=by
   intro E x y z w g len N;unfold kj;split
   ·rfl
   ·rw[if_neg];simp[zH,Blk.below,Eng.below,uJ]
  simp only[bxv,zTL]at hdr;simp[hil,hl,zo,hb,hL,zf,hw,hg,yx,jU,zg,hdr,zTF,ze,hk,-kj]
theorem zT0{m:zD}(h:zcp m)(t:Int)(e:Ego):R L Cs zTI [.a (zf m),W t,.a (zch e)] []=some (.w (.a (zG ⟨t,zTA 0 m.jf,e⟩)),[]):=by
 have hk:=h.yQ;rw[zUa zTJ rfl];have hmain:∃M' S v,Y L Cs z7N (some [8,6,3,7]) 4 [(8,.w (W 0)),(6,.w (Pt 2)),(3,.w (Pt 0)),(7,.w (Pt 3))] [bx 5 (zf m),bx 4 (zch e),bx 6 zFA,bxv 1 6 (zTL t .je e)] =
   some (.exit 0,[(24,.w (Bo false)),(8,.w (W m.jf.length)),(6,.w (Pt 2)),(3,.w (Pt 0)),(7,.w (Pt 3))],bx 5 (zf m)::bx 4 (zch e)::bx 6 zFA::bxv v 6 (zTL t S e)::M') /\
   zdR (bx 5 (zf m)::bx 4 (zch e)::bxv 1 6 (zTL t S e)::bxv v 6 (zTL t S e)::M') S=some (.jc (zI (zTA 0 m.jf))):=by
  by_cases hne:m.jf=[]
  ·refine⟨[],.je,1,?_,by simp[zdR,zTA,hne]⟩;rw[zj z7N.eq_1];simp[zf,hne]
  ·obtain⟨l,r,hl⟩:=List.exists_cons_of_ne_nil hne;have hlen:0<m.jf.length:=by rw[hl];simp
   have h0:m.jf[0]=l:=by simp[hl]
   have yb:l∈m.jf:=by rw[hl];simp
   have hb:=zhv (h.kind l yb);have hL:=zEQ h hlen;rw[h0]at hL;obtain⟨v',G',h1,h2⟩:=zTT h t e 1 r 1 [zTF 0 l] 2 [some (own 6 [ze (zTF 0 l)]),some (own 6 [ze (zTF 0 l)])] (by rw[hl];rfl) (by omega) rfl rfl;have uj:zTA 0 m.jf=[zTF 0 l]++zTA 1 r:=by rw[hl];rfl
   refine⟨G',.slice 5 ([zTF 0 l]++zTA 1 r).length 6 0 ([zTF 0 l]++zTA 1 r).length none,v',?_,?_⟩
   ·simp only[kO,ji,jw,jB,own,zf]at hL h2 hk ⊢;rw[<-h2,zj z7N.eq_1];have hw:IntKind.i64.wrap 1=1:=rfl;have hr:(0:Int)<(m.jf.length:Int):=by omega
    simp[hlen,h0,zo,hb,hL,hw,zg,zTF,ze,hr,hk]
   ·rw[uj];simp[zdR,look,h1]
 obtain⟨M',S,v,h1,h3⟩:=hmain;simp only[zf]at hk h1 h3;simp[zTE,zf,hk,h1,-leave];exact zTV h3 rfl
theorem zCX(b:zk)(i v:Nat)(M:Mem)(h:M[i]?=some (bxv v 6 (ze b))):R L Cs znx [Pt i] M=some (.t [W b.lane,.c (.ptr i 0 0 1),.c (.ptr i 0 0 2)],M):=by
 rw[zUa znG rfl];simp only[ze]at h;simp[zf9,h,ze,p1F]
def zoX(x fr to:Int)(b:zk):List zk :=
 if b.lane≠x\/fr>to\/fr>b.hi\/to<b.lo then [b] else
 (if b.lo<fr then [{ b with hi:=fr-1 }] else [])++(if to<b.hi then [{ b with lo:=to+1 }] else [])
def zhn(x fr to:Int):List zk->List zk
 |[]=>[]
 |b::r=>zoX x fr to b++zhn x fr to r
theorem zrn(x fr to:Int)(b:zk):(zoX x fr to b).length<=2:=by
 unfold zoX;split
 ·simp
 ·split<;>split<;>simp
theorem zod(x fr to:Int):∀(r:List zk),(zhn x fr to r).length<=2*r.length
 |[]=>by simp[zhn]
 |b::r=>by
  have:=zrn x fr to b;have:=zod x fr to r;simp only[zhn,jt,jw];omega
def Mid(n:Int):Prop:=-4000000000000000000<=n/\n<=4000000000000000000
theorem zAu(x fr to:Int)(hfr:Mid fr)(hto:Mid to)(l:List zk)(hl:l.length<=100000000000):∀(r:List zk) (i:Nat) (out:List zk),l.drop i=r->i<=l.length->out.length<=2*i ->
  Y L Cs zdV (some [5,21,20,19,3]) 3 [(5,.w (.c (sl 2 6 (zI out)))),(21,.w (W i)),(20,.w (W l.length)),(19,.w (.c (.jc (zI l)))),(3,.w (Pt 0))] [bx 3 [I x,I fr,I to],gb 6,some (own 6 (zI out))] =
    some (.exit 0,[(22,.w (Bo false)),(5,.w (.c (sl 2 6 (zI (out++zhn x fr to r))))),(21,.w (W l.length)),(20,.w (W l.length)),(19,.w (.c (.jc (zI l)))),(3,.w (Pt 0))],[bx 3 [I x,I fr,I to],gb 6,some (own 6 (zI (out++zhn x fr to r)))]):=by
 intro r;induction r with
 |nil =>
  intro i out hd hi ho;obtain rfl:=zUb hd hi;rw[zj zdV.eq_1];simp[zhn]
 |cons b r ih =>
  intro i out hd hi ho;obtain⟨hil,hb,hd'⟩:=zL hd;have hw:=zB (i:=i) (by omega);have hcl:(out++zoX x fr to b).length<=2*(i+1):=by
   have:=zrn x fr to b;rw[jt];omega
  obtain⟨f1,f2⟩:=hfr;obtain⟨t1,t2⟩:=hto;have hw1:=kQ (fr-1);have hw2:=kQ (to+1);have jU:(out.length+1)*48<=140737488355328:=by omega
  have An:(out.length+2)*48<=140737488355328:=by clear hcl hd hb hd' ih;omega
  have he:=zCX b 0 1 [bxv 1 6 (ze b)] rfl;have e1:out++zhn x fr to (b::r)=(out++zoX x fr to b)++zhn x fr to r:=by simp[zhn]
  rw[e1,<-ih (i+1) (out++zoX x fr to b) hd' hil hcl,zj zdV.eq_1];clear ih e1 hcl;clear f1 f2 t1 t2;obtain⟨bl,lo,hi',vlo,vhi,hold⟩:=b;simp only[ze,zoX]at *;by_cases c1:bl=x
  ·subst c1;by_cases c2:to<fr
   ·simp[hil,hb,ze,hw,jU,zg,zH,he,c2]
   ·by_cases c3:hi'<fr
    ·simp[hil,hb,ze,hw,jU,zg,zH,he,c2,c3]
    ·by_cases c4:to<lo
     ·simp[hil,hb,ze,hw,jU,zg,zH,he,c2,c3,c4]
     ·by_cases c5:lo<fr
      ·by_cases c6:to<hi'
       ·have htk:∀y:List Cl,List.take (out.length+1) (zI out++[y])=zI out++[y]:=fun y=>jF (by simp)
        simp[hil,hb,ze,hw,hw1,hw2,jU,An,zg,zH,he,c2,c3,c4,c5,c6,htk]
       ·simp[hil,hb,ze,hw,hw1,hw2,jU,zg,zH,he,c2,c3,c4,c5,c6]
      ·by_cases c6:to<hi'
       ·simp[hil,hb,ze,hw,hw1,hw2,jU,zg,zH,he,c2,c3,c4,c5,c6]
       ·simp[hil,hb,ze,hw,hw1,hw2,jU,zg,zH,he,c2,c3,c4,c5,c6]
  ·have b1:(bl==x)=false:=by simp[c1]
   have b2:(bl !=x)=true:=by simp[c1]
   simp[hil,hb,ze,hw,jU,zg,zH,he,c1,b1,b2]
theorem zDp(x fr to:Int)(hfr:Mid fr)(hto:Mid to)(l:List zk)(hl:l.length<=100000000000):R L Cs zoa [.c (.jc (zI l)),.a [I x,I fr,I to]] []=some (.w (.c (.jc (zI (zhn x fr to l)))),[]):=by
 have hc:=zAu x fr to hfr hto l hl l 0 [] rfl (jE _) (jE _);simp only[ji,jH,zic,sl,own,jB,zgg]at hc;rw[zUa zov rfl];simp[zgM,hc,zg]
theorem zyg(x fr to:Int)(hfr:Mid fr)(hto:Mid to)(l:List zk)(hl:l.length<=100000000000):∀(r:List zk) (i:Nat) (out:List zk),l.drop i=r->i<=l.length->out.length<=2*i ->
  Y L Cs zc8 (some [5,6,0,3]) 3 [(5,.w (.c (sl 2 6 (zI out)))),(6,.w (W i)),(0,.w (.c (.jc (zI l)))),(3,.w (Pt 0))] [bx 3 [I x,I fr,I to],gb 6,some (own 6 (zI out))] =
    some (.exit 0,[(13,.w (Bo false)),(5,.w (.c (sl 2 6 (zI (out++zhn x fr to r))))),(6,.w (W l.length)),(0,.w (.c (.jc (zI l)))),(3,.w (Pt 0))],[bx 3 [I x,I fr,I to],gb 6,some (own 6 (zI (out++zhn x fr to r)))]):=by
 intro r;induction r with
 |nil =>
  intro i out hd hi ho;obtain rfl:=zUb hd hi;rw[zj zc8.eq_1];simp[zhn]
 |cons b r ih =>
  intro i out hd hi ho;obtain⟨hil,hb,hd'⟩:=zL hd;have hw:=zB (i:=i) (by omega);have hcl:(out++zoX x fr to b).length<=2*(i+1):=by
   have:=zrn x fr to b;rw[jt];omega
  obtain⟨f1,f2⟩:=hfr;obtain⟨t1,t2⟩:=hto;have hw1:=kQ (fr-1);have hw2:=kQ (to+1);have jU:(out.length+1)*48<=140737488355328:=by omega
  have An:(out.length+2)*48<=140737488355328:=by clear hcl hd hb hd' ih;omega
  have e1:out++zhn x fr to (b::r)=(out++zoX x fr to b)++zhn x fr to r:=by simp[zhn]
  rw[e1,<-ih (i+1) (out++zoX x fr to b) hd' hil hcl,zj zc8.eq_1];clear ih e1 hcl;clear f1 f2 t1 t2;obtain⟨bl,lo,hi',vlo,vhi,hold⟩:=b;simp only[ze,zoX]at *;by_cases c1:bl=x
  ·subst c1;by_cases c2:to<fr
   ·by_cases c3:hi'<fr
    ·simp[hil,hb,ze,hw,jU,zg,zH,c2,c3]
    ·by_cases c4:to<lo
     ·simp[hil,hb,ze,hw,jU,zg,zH,c2,c3,c4]
     ·simp[hil,hb,ze,hw,jU,zg,zH,c2,c3,c4]
   ·by_cases c3:hi'<fr
    ·simp[hil,hb,ze,hw,jU,zg,zH,c2,c3]
    ·by_cases c4:to<lo
     ·simp[hil,hb,ze,hw,jU,zg,zH,c2,c3,c4]
     ·by_cases c5:lo<fr
      ·have c5':lo<=fr-1:=by omega
       by_cases c6:to<hi'
       ·have htk:∀y:List Cl,List.take (out.length+1) (zI out++[y])=zI out++[y]:=fun y=>jF (by simp)
        have c6':to+1<=hi':=by omega
        simp[hil,hb,ze,hw,hw1,hw2,jU,An,zg,zH,c2,c3,c4,c5,c6,htk,c5',c6']
       ·have c6':¬(to+1<=hi'):=by omega
        simp[hil,hb,ze,hw,hw1,hw2,jU,zg,zH,c2,c3,c4,c5,c6,c5',c6']
      ·have c5':¬(lo<=fr-1):=by omega
       by_cases c6:to<hi'
       ·have c6':to+1<=hi':=by omega
        simp[hil,hb,ze,hw,hw1,hw2,jU,zg,zH,c2,c3,c4,c5,c6,c5',c6']
       ·have c6':¬(to+1<=hi'):=by omega
        simp[hil,hb,ze,hw,hw1,hw2,jU,zg,zH,c2,c3,c4,c5,c6,c5',c6']
  ·have b1:(bl==x)=false:=by simp[c1]
   have b2:(bl !=x)=true:=by simp[c1]
   simp[hil,hb,ze,hw,jU,zg,zH,c1,b1,b2]
theorem zCR(x fr to:Int)(hfr:Mid fr)(hto:Mid to)(l:List zk)(hl:l.length<=100000000000):R L Cs zma [.c (.jc (zI l)),.a [I x,I fr,I to]] []=some (.w (.c (.jc (zI (zhn x fr to l)))),[]):=by
 have hc:=zyg x fr to hfr hto l hl l 0 [] rfl (jE _) (jE _);simp only[ji,jH,zic,sl,own,jB,zgg]at hc;rw[zUa zmt rfl];simp[zfm,hc,zg]
def zj2(m:zD)(r:List Int):Prop:=∀x∈r,0<=x/\x<m.jf.length
def zW(m:zD):Int->List Int->List Int
 |_,[]=>[]
 |a,x::r=>a::zW m (a+z8 m x) r
def zmd(m:zD):Int->List Int->Int
 |a,[]=>a
 |a,x::r=>zmd m (a+z8 m x) r
theorem zcX{m:zD}(h:zcp m){x:Int}(hx:0<=x/\x<m.jf.length):1000<=z8 m x/\z8 m x<=1000000:=by
 obtain⟨n,rfl⟩:=jC hx.1;have hn:n<m.jf.length:=by omega
 have:=h.Bf _ (jb hn);simpa [z8,hn]using this
theorem zxg{m:zD}(h:zcp m){x:Int}(hx:0<=x/\x<m.jf.length):R L Cs zgl [.a (zf m),W x] []=some (.w (W (z8 m x)),[]):=by
 obtain⟨n,rfl⟩:=jC hx.1;have hn:n<m.jf.length:=by omega
 have e:z8 m n=m.jf[n].len:=by simp[z8,hn]
 rw[e];exact ztk h hn
theorem zcO(m:zD):∀(r:List Int) (a:Int),(zW m a r).length=r.length
 |[],_=>rfl
 |x::r,a=>by simp[zW,zcO m r]
theorem zg1{m:zD}(h:zcp m){l:List Int}(hr:zdA m l=0):zj2 m l/\l≠[]/\l.length<=8:=by
 cases l with
 |nil=>simp[zdA]at hr
 |cons x t =>
  simp only[zdA]at hr;split at hr
  ·cases hr
  split at hr
  ·cases hr
  split at hr
  ·cases hr
  split at hr
  ·cases hr
  split at hr
  ·rename_i h1 h2 h3 h4 h5;refine⟨?_,by simp,by simp;omega⟩;have key:∀(t:List Int) (a:Int),0<=a->a<m.jf.length->goF m a t=true->zj2 m t:=by
    intro t;induction t with
    |nil=>intro a _ _ _ y hy;cases hy
    |cons y t ih =>
     intro a ha1 ha2 hg;simp only[goF,jg,decide_eq_true_eq]at hg;have hal:a.toNat<m.jf.length:=by omega
     have qr:((m.jf[a.toNat]?).map zfn.next).getD []=(m.jf[a.toNat]).next:=by rw[ju hal];rfl
     rw[qr]at hg;have hv:=h.small.valid _ (jb hal) y hg.1;intro z hz;rcases js.1 hz with rfl|hz
     ·exact hv
     ·exact ih y hv.1 hv.2 hg.2 z hz
   intro z hz;rcases js.1 hz with rfl|hz
   ·exact⟨by omega,by omega⟩
   ·exact key t x (by omega) (by omega) h5 z hz
  ·cases hr
theorem zvF{m:zD}(h:zcp m)(l:List Int)(hl:l.length<=1000)(hon:zj2 m l):∀(r:List Int) (i:Nat) (out:List Int) (a:Int),l.drop i=r->i<=l.length->out.length=i->0<=a->a<=i*1000000 ->
  Y L Cs zcn (some [6,7,8,1,2]) 3 [(6,.w (.c (sl 2 1 (zu out)))),(7,.w (W a)),(8,.w (W i)),(1,.w (.c (.jc (zu l)))),(2,.w (Pt 0))] [bx 5 (zf m),gb 1,some (own 1 (zu out))] =
    some (.exit 0,[(12,.w (Bo false)),(6,.w (.c (sl 2 1 (zu (out++zW m a r))))),(7,.w (W (zmd m a r))),(8,.w (W l.length)),(1,.w (.c (.jc (zu l)))),(2,.w (Pt 0))],[bx 5 (zf m),gb 1,some (own 1 (zu (out++zW m a r)))]):=by
 intro r;induction r with
 |nil =>
  intro i out a hd hi ho ha1 ha2;obtain rfl:=zUb hd hi;rw[zj zcn.eq_1];simp[zW,zmd]
 |cons x r ih =>
  intro i out a hd hi ho ha1 ha2;subst ho;obtain⟨hil,hx,hd'⟩:=zL hd;have hxm:=hon x (by rw[<-hx];exact jb _);have hw:=zB (i:=out.length) (by omega);have hL:=zxg h hxm;have hle:=zcX h hxm;have jU:(out.length+1)*8<=140737488355328:=by omega
  have hwa:=kQ (a+z8 m x);have e1:out++zW m a (x::r)=(out++[a])++zW m (a+z8 m x) r:=by simp[zW]
  rw[e1,zmd,<-ih (out.length+1) (out++[a]) (a+z8 m x) hd' hil (by simp) (by omega) (by omega),zj zcn.eq_1];simp only[zf]at hL;simp[hil,hx,hL,zf,hw,jU,hwa,zg,zH]
theorem zvX{m:zD}(h:zcp m){l:List Int}(hl:l.length<=1000)(hon:zj2 m l):R L Cs zjQ [.a (zf m),.c (.jc (zu l))] []=some (.t [.c (.jc (zu (zW m 0 l))),W (zmd m 0 l)],[]):=by
 have hb:=zvF h l hl hon l 0 [] 0 rfl (jE _) rfl (by omega) (by omega);simp only[zf,ji,jH,zay,sl,own,jB,zfq]at hb;rw[zUa zkc rfl];simp[zep,zf,hb,zg]
theorem zEp{m:zD}(h:zcp m){l:List Int}(hr:zdA m l=0):R L Cs zDU [.a (zf m),.c (.jc (zu l))] []=some (.w (W (zmd m 0 l)),[]):=by
 obtain⟨hon,hne,hlen⟩:=zg1 h hr;have hb:=zvX h (by omega) hon;have hck:=zp0 m h.small h.yQ l (by omega);rw[hr]at hck;simp only[zf]at hb hck;rw[zUa zDV rfl];simp[zDG,zf,hb,hck]
def zbK(m:zD):Nat->List zfn->List Int
 |_,[]=>[]
 |i,_::r=>if zes i 0 m.jf=[] then(i:Int)::zbK m (i+1) r else zbK m (i+1) r
theorem zp8(m:zD):∀(r:List zfn) (i:Nat),i+r.length<=m.jf.length->zj2 m (zbK m i r)
 |[],_,_=>by intro x hx;cases hx
 |l::r,i,h=>by
  intro x hx;simp at h;unfold zbK at hx;split at hx
  ·rcases js.1 hx with rfl|hx
   ·omega
   ·exact zp8 m r (i+1) (by omega) x hx
  ·exact zp8 m r (i+1) (by omega) x hx
theorem zlK(m:zD):∀(r:List zfn) (i:Nat),(zbK m i r).length<=r.length
 |[],_=>by simp[zbK]
 |l::r,i=>by
  have:=zlK m r (i+1);unfold zbK;split<;>simp<;>omega
def zaK(m:zD)(i:Int):Int:=((m.jf[i.toNat]?).map zfn.kind).getD 0
abbrev zqY:zk:=⟨-1,0,0,0,0,0⟩
def u0(m:zD)(b:zk):Prop:=b.lo<0\/b.hi<b.lo\/z8 m b.lane<b.hi\/b.vlo<0\/b.vhi<b.vlo\/zeR (zaK m b.lane)<b.vhi\/b.hold<0\/z8 m b.lane<b.hold
instance(m:zD)(b:zk):Decidable (u0 m b):=by unfold u0;infer_instance
def zmM(p b:zk):Prop:=b.lane<p.lane\/(b.lane=p.lane/\b.lo<=p.hi+1)
instance(p b:zk):Decidable (zmM p b):=by unfold zmM;infer_instance
def zer(m:zD)(p b:zk):Int:=if b.lane<0\/(m.jf.length:Int)<=b.lane then 7 else if u0 m b then 2 else if zmM p b then 11 else 0
def zls(m:zD):zk->List zk->Int
 |_,[]=>0
 |p,b::r=>if zer m p b≠0 then zer m p b else zls m b r
theorem ziC(n lo hi:Int):R L Cs zrd [W n,W lo,W hi] []=some (.w (Bo (decide (lo<=n)&&decide (n<=hi))),[]):=by
 rw[zUa zrT rfl];by_cases h:lo<=n
 ·simp[zgJ,h]
 ·simp[zgJ,h]
section
variable{m:zD}(h:zcp m)(k:zci)
abbrev ckM(m:zD)(k:zci)(v:Nat)(p:zk):Mem:=[bx 5 (zf m),bx 6 (zG k),bxv 1 4 (zch k.ego),bxv v 6 (ze p)]
abbrev ckE(k:zci)(i:Nat):Env:=[(62,.w (W k.jJ.length)),(61,.w (.c (.jc (zI k.jJ)))),(7,.w (Pt 3)),(2,.w (Pt 0)),(63,.w (W i))]
include h in
theorem zw8(hk:k.jJ.length<=100000000000)(i:Nat)(hi:i<k.jJ.length)(p:zk)(v:Nat)(hp:-1<=p.lane/\0<=p.hi/\p.hi<=1000000) :
  (zer m p k.jJ[i]=0->Y L Cs zTe (some [62,61,7,2,63]) 4 (ckE k i) (ckM m k v p)=Y L Cs zTe (some [62,61,7,2,63]) 4 (ckE k (i+1)) (ckM m k (v+1) k.jJ[i])) /\
  (zer m p k.jJ[i]≠0->Y L Cs zTe (some [62,61,7,2,63]) 4 (ckE k i) (ckM m k v p)=some (.ret,[(4,.w (W (zer m p k.jJ[i])))],ckM m k v p++[bxv 1 6 (ze k.jJ[i])])):=by
 have hw:=zB (i:=i) (by omega);generalize hb:k.jJ[i]=b;obtain⟨bl,lo,hi',vlo,vhi,hold⟩:=b;have hpw:=kQ (p.hi+1);by_cases c1:bl<0
 ·have e:zer m p ⟨bl,lo,hi',vlo,vhi,hold⟩=7:=by simp[zer,c1]
  rw[e];refine⟨fun h=>(by cases h),fun _=>?_⟩;rw[zj zTe.eq_1];simp[hi,hb,ze,c1]
 by_cases c2:(m.jf.length:Int)<=bl
 ·have e:zer m p ⟨bl,lo,hi',vlo,vhi,hold⟩=7:=by simp[zer,c2]
  rw[e];refine⟨fun h=>(by cases h),fun _=>?_⟩;rw[zj zTe.eq_1];simp[hi,hb,ze,c1,c2,zf]
 obtain⟨n,rfl⟩:=jC (show 0<=bl by omega);have hn:n<m.jf.length:=by omega
 have hL:=zrQ h hn;have hB:=zmo (h.kind _ (jb hn));have eL:z8 m (n:Int)=m.jf[n].len:=by simp[z8,hn]
 have eK:zaK m (n:Int)=m.jf[n].kind:=by simp[zaK,hn]
 have hl1:=h.Bf _ (jb hn);have hW:=ziC hold 0 m.jf[n].len;generalize qG:m.jf[n]=ln at *;simp only[zf]at hL;have c1':¬((n:Int)<0):=by omega
 have yE:u0 m ⟨(n:Int),lo,hi',vlo,vhi,hold⟩->zer m p ⟨(n:Int),lo,hi',vlo,vhi,hold⟩=2:=fun ho=>by
  unfold zer;rw[if_neg (by simp;omega),if_pos ho]
 by_cases d1:lo<0
 ·have e:=yE (by simp only[u0,eL,eK];omega);rw[e];refine⟨fun h=>(by cases h),fun _=>?_⟩;rw[zj zTe.eq_1];simp[hi,hb,ze,c1',c2,hn,qG,zf,zo,zG,hL,hB,hW,d1]
 by_cases d2:hi'<lo
 ·have e:=yE (by simp only[u0,eL,eK];omega);rw[e];refine⟨fun h=>(by cases h),fun _=>?_⟩;rw[zj zTe.eq_1];simp[hi,hb,ze,c1',c2,hn,qG,zf,zo,zG,hL,hB,hW,d1,d2]
 by_cases d3:ln.len<hi'
 ·have e:=yE (by simp only[u0,eL,eK];omega);rw[e];refine⟨fun h=>(by cases h),fun _=>?_⟩;rw[zj zTe.eq_1];simp[hi,hb,ze,c1',c2,hn,qG,zf,zo,zG,hL,hB,hW,d1,d2,d3]
 by_cases d4:vlo<0
 ·have e:=yE (by simp only[u0,eL,eK];omega);rw[e];refine⟨fun h=>(by cases h),fun _=>?_⟩;rw[zj zTe.eq_1];simp[hi,hb,ze,c1',c2,hn,qG,zf,zo,zG,hL,hB,hW,d1,d2,d3,d4]
 by_cases d5:vhi<vlo
 ·have e:=yE (by simp only[u0,eL,eK];omega);rw[e];refine⟨fun h=>(by cases h),fun _=>?_⟩;rw[zj zTe.eq_1];simp[hi,hb,ze,c1',c2,hn,qG,zf,zo,zG,hL,hB,hW,d1,d2,d3,d4,d5]
 by_cases d6:zeR ln.kind<vhi
 ·have e:=yE (by simp only[u0,eL,eK];omega);rw[e];refine⟨fun h=>(by cases h),fun _=>?_⟩;rw[zj zTe.eq_1];simp[hi,hb,ze,c1',c2,hn,qG,zf,zo,zG,hL,hB,hW,d1,d2,d3,d4,d5,d6]
 by_cases d7:hold<0
 ·have e:=yE (by simp only[u0,eL,eK];omega);rw[e];refine⟨fun h=>(by cases h),fun _=>?_⟩;rw[zj zTe.eq_1];simp[hi,hb,ze,c1',c2,hn,qG,zf,zo,zG,hL,hB,hW,d1,d2,d3,d4,d5,d6,d7]
 by_cases d8:ln.len<hold
 ·have e:=yE (by simp only[u0,eL,eK];omega);rw[e];refine⟨fun h=>(by cases h),fun _=>?_⟩;rw[zj zTe.eq_1];simp[hi,hb,ze,c1',c2,hn,qG,zf,zo,zG,hL,hB,hW,d1,d2,d3,d4,d5,d6,d7,d8]
 have e0:¬u0 m ⟨(n:Int),lo,hi',vlo,vhi,hold⟩:=by simp only[u0,eL,eK];omega
 have g1:(0:Int)<=hold:=by omega
 have g2:hold<=ln.len:=by omega
 by_cases o1:(n:Int)<p.lane
 ·have e:zer m p ⟨(n:Int),lo,hi',vlo,vhi,hold⟩=11:=by
   unfold zer;rw[if_neg (by simp;omega),if_neg e0,if_pos (by unfold zmM;simp;omega)]
  rw[e];refine⟨fun h=>(by cases h),fun _=>?_⟩;rw[zj zTe.eq_1];simp[hi,hb,ze,c1',c2,hn,qG,zf,zo,zG,hL,hB,hW,d1,d2,d3,d4,d5,d6,d7,d8,g1,g2,o1]
 by_cases o2:(n:Int)=p.lane
 ·have o2':p.lane=(n:Int):=o2.symm;by_cases o3:lo<=p.hi+1
  ·have e:zer m p ⟨(n:Int),lo,hi',vlo,vhi,hold⟩=11:=by
    unfold zer;rw[if_neg (by simp;omega),if_neg e0,if_pos (by unfold zmM;simp;omega)]
   rw[e];refine⟨fun h=>(by cases h),fun _=>?_⟩;rw[zj zTe.eq_1];simp[hi,hb,ze,c1',c2,hn,qG,zf,zo,zG,hL,hB,hW,d1,d2,d3,d4,d5,d6,d7,d8,g1,g2,o2',o3,hpw]
  ·have e:zer m p ⟨(n:Int),lo,hi',vlo,vhi,hold⟩=0:=by
    unfold zer;rw[if_neg (by simp;omega),if_neg e0,if_neg (by unfold zmM;simp;omega)]
   rw[e];refine⟨fun _=>?_,fun h=>(absurd rfl h)⟩;rw[zj zTe.eq_1];simp[hi,hb,ze,c1',c2,hn,qG,zf,zo,zG,hL,hB,hW,d1,d2,d3,d4,d5,d6,d7,d8,g1,g2,o2',o3,hpw,hw,ckE,ckM]
 ·have e:zer m p ⟨(n:Int),lo,hi',vlo,vhi,hold⟩=0:=by
   unfold zer;rw[if_neg (by simp;omega),if_neg e0,if_neg (by unfold zmM;simp;omega)]
  rw[e];have b2:((n:Int)==p.lane)=false:=by simp[o2]
  refine⟨fun _=>?_,fun h=>(absurd rfl h)⟩;rw[zj zTe.eq_1];simp[hi,hb,ze,c1',c2,hn,qG,zf,zo,zG,hL,hB,hW,d1,d2,d3,d4,d5,d6,d7,d8,g1,g2,o1,o2,b2,hw,ckE,ckM]
end
abbrev zsa:Int:=1099511627776
def ziI(k:zci):Prop:=k.tick<0\/zsa<k.tick\/k.ego.slo<0\/k.ego.shi<k.ego.slo\/zsa<k.ego.shi\/k.ego.vlo<0\/k.ego.vhi<k.ego.vlo\/2000<k.ego.vhi
instance(k:zci):Decidable (ziI k):=by unfold ziI;infer_instance
def zdf(m:zD)(k:zci):Int:=if ziI k then 2 else zls m zqY k.jJ
theorem zui{m:zD}(h:zcp m){p b:zk}(hc:zer m p b=0):0<=b.lane/\b.lane<m.jf.length/\0<=b.lo/\b.lo<=b.hi/\b.hi<=z8 m b.lane/\0<=b.vlo/\b.vlo<=b.vhi/\b.vhi<=zeR (zaK m b.lane)/\0<=b.hold/\b.hold<=z8 m b.lane/\z8 m b.lane<=1000000/\¬zmM p b:=by
 unfold zer at hc;split at hc
 ·cases hc
 rename_i h1;split at hc
 ·cases hc
 rename_i h2;split at hc
 ·cases hc
 rename_i h3;unfold u0 at h2;obtain⟨n,hn⟩:=jC (show 0<=b.lane by omega);have hl:n<m.jf.length:=by omega
 have hl1:=h.Bf _ (jb hl);have e:z8 m b.lane=m.jf[n].len:=by rw[hn];simp[z8,hl]
 refine⟨by omega,by omega,by omega,by omega,by omega,by omega,by omega,by omega,by omega,by omega,by omega,h3⟩
theorem zw9{m:zD}(h:zcp m)(k:zci)(hk:k.jJ.length<=100000000000):∀(r:List zk) (i:Nat) (p:zk) (v:Nat),k.jJ.drop i=r->i<=k.jJ.length->(-1<=p.lane/\0<=p.hi/\p.hi<=1000000) ->
  ∃M' E',Y L Cs zTe (some [62,61,7,2,63]) 4 (ckE k i) (ckM m k v p)=some (if zls m p r=0 then(.exit 0,E',M') else(.ret,[(4,.w (W (zls m p r)))],M')):=by
 intro r;induction r with
 |nil =>
  intro i p v hd hi hp;obtain rfl:=zUb hd hi;refine⟨ckM m k v p,[(64,.w (Bo false)),(2,.w (Pt 0)),(7,.w (Pt 3)),(61,.w (.c (.jc (zI k.jJ)))),(62,.w (W k.jJ.length)),(63,.w (W k.jJ.length))],?_⟩;rw[zj zTe.eq_1];simp[zls]
 |cons b r ih =>
  intro i p v hd hi hp;obtain⟨hil,hb,hd'⟩:=zL hd;obtain⟨s1,s2⟩:=zw8 h k hk i hil p v hp;rw[hb]at s1 s2;by_cases hc:zer m p b=0
  ·have ho:=zui h hc;obtain⟨M',E',h4⟩:=ih (i+1) b (v+1) hd' hil (by omega);refine⟨M',E',?_⟩;rw[s1 hc,h4];simp[zls,hc]
  ·refine⟨ckM m k v p++[bxv 1 6 (ze b)],[],?_⟩;rw[s2 hc];simp[zls,hc]
theorem zuu{m:zD}(h:zcp m)(k:zci)(hk:k.jJ.length<=100000000000):R L Cs zsg [.a (zf m),.a (zG k)] []=some (.w (W (zdf m k)),[]):=by
 have hck:=h.chk;obtain⟨M',E',hl⟩:=zw9 h k hk k.jJ 0 zqY 1 rfl (jE _) (by decide);have hW:=ziC k.tick 0 zsa;simp only[ckE,ckM,zf,zG,ze,ji,bx,bxv,zch]at hl hck;rw[zUa zss rfl];by_cases d1:k.tick<0
 ·have e:zdf m k=2:=by rw[zdf,if_pos (by unfold ziI;omega)]
  have d1':¬(0:Int)<=k.tick:=by omega
  simp[zbJ,zf,zG,hck,hW,e,d1,d1']
 by_cases d2:zsa<k.tick
 ·have e:zdf m k=2:=by rw[zdf,if_pos (by unfold ziI;omega)]
  have d2':¬k.tick<=zsa:=by omega
  simp[zbJ,zf,zG,hck,hW,e,d1,d2,d2']
 have g1:(0:Int)<=k.tick:=by omega
 have g2:k.tick<=zsa:=by omega
 by_cases d3:k.ego.slo<0
 ·have e:zdf m k=2:=by rw[zdf,if_pos (by unfold ziI;omega)]
  simp[zbJ,zf,zG,hck,hW,e,d1,d2,g1,g2,d3]
 by_cases d4:k.ego.shi<k.ego.slo
 ·have e:zdf m k=2:=by rw[zdf,if_pos (by unfold ziI;omega)]
  simp[zbJ,zf,zG,hck,hW,e,d1,d2,g1,g2,d3,d4]
 by_cases d5:zsa<k.ego.shi
 ·have e:zdf m k=2:=by rw[zdf,if_pos (by unfold ziI;omega)]
  simp[zbJ,zf,zG,hck,hW,e,d1,d2,g1,g2,d3,d4,d5]
 by_cases d6:k.ego.vlo<0
 ·have e:zdf m k=2:=by rw[zdf,if_pos (by unfold ziI;omega)]
  simp[zbJ,zf,zG,hck,hW,e,d1,d2,g1,g2,d3,d4,d5,d6]
 by_cases d7:k.ego.vhi<k.ego.vlo
 ·have e:zdf m k=2:=by rw[zdf,if_pos (by unfold ziI;omega)]
  simp[zbJ,zf,zG,hck,hW,e,d1,d2,g1,g2,d3,d4,d5,d6,d7]
 by_cases d8:2000<k.ego.vhi
 ·have e:zdf m k=2:=by rw[zdf,if_pos (by unfold ziI;omega)]
  simp[zbJ,zf,zG,hck,hW,e,d1,d2,g1,g2,d3,d4,d5,d6,d7,d8]
 have e:zdf m k=zls m zqY k.jJ:=by rw[zdf,if_neg (by unfold ziI;omega)]
 rw[e];by_cases hz:zls m zqY k.jJ=0
 ·rw[if_pos hz]at hl;rw[hz];simp[zbJ,zf,zG,hck,hW,hl,d1,d2,g1,g2,d3,d4,d5,d6,d7,d8,-leave];exact zid rfl rfl
 ·rw[if_neg hz]at hl;simp[zbJ,zf,zG,hck,hW,hl,d1,d2,g1,g2,d3,d4,d5,d6,d7,d8,-leave];exact zid rfl rfl
abbrev fn1(f:Nat):WV:=.c (.fn f [] [])
abbrev bad(b:zk):Bool:=decide (b.hi<b.lo)
abbrev blk(v:Nat)(l:List zk):Option Blk:=some { box:=false,esz:=6,rows:=zI l,gen:=l.length,fz:=false,ver:=v }
theorem zeg(l:List zk)(i:Nat)(b:zk):(zI l).set i (ze b)=zI (l.set i b):=by simp[zI,List.map_set]
theorem zwT(l:List zk)(hl:l.length<=900000000000):Y L Cs zbF (some [7,1,0,8]) 0 [(7,.w (W l.length)),(1,.w (fn1 zct)),(0,.w (.c (.jc (zI l)))),(8,.w (W (0:Nat)))] [] =
  some (match l.findIdx? bad with |some i=>(.ret,[(4,.w (W i))],[]) |none=>(.exit 0,[(9,.w (Bo false)),(0,.w (.c (.jc (zI l)))),(1,.w (fn1 zct)),(7,.w (W l.length)),(8,.w (W l.length))],[])):=by
 refine zxf l (fun i=>[(7,.w (W l.length)),(1,.w (fn1 zct)),(0,.w (.c (.jc (zI l)))),(8,.w (W i))]) _ _ _ _ ?_ ?_ ?_
 ·intro i h hp;have hw:=zB (i:=i) (by omega);have hc:=zrR l[i];simp only[bad]at hp;rw[hp]at hc;simp only[ze]at hc;rw[zj zbF.eq_1];simp[h,hw,hc,ze]
 ·intro i h hp;have hc:=zrR l[i];simp only[bad]at hp;rw[hp]at hc;simp only[ze]at hc;rw[zj zbF.eq_1];simp[h,hc,ze]
 ·rw[zj zbF.eq_1];simp
def zbe:Option Nat->Int
 |some i=>i
 |none=>-1
theorem zvV(l:List zk)(hl:l.length<=900000000000):R L Cs zjK [.c (.jc (zI l)),fn1 zct] []=some (.w (W (zbe (l.findIdx? bad))),[]):=by
 have h:=zwT l hl;simp only[ji]at h;rw[zUa zj5 rfl];cases hf:l.findIdx? bad with
 |none =>
  simp only[hf]at h;simp[zc2,h,zbe]
 |some i =>
  simp only[hf]at h;simp[zc2,h,zbe]
theorem zvq(n:Nat)(hn:n<=900000000000):∀(r:List zk) (l:List zk) (i j v:Nat),l.length=n->l.drop j=r->i<j->j<=n->∃l' i' v',v<=v'/\(v'=v->l'=l)/\l'.length=n/\i'<=n/\l'.take i'=l.take i++r.filter (fun b=>!bad b) /\
  Y L Cs zbw (some [5,6,1,0]) 2 [(5,.w (W i)),(6,.w (W j)),(1,.w (fn1 zct)),(0,.w (.c (.slice 0 n 6 0 n none)))] [blk v l,gb 6] =
    some (.exit 0,[(19,.w (Bo false)),(5,.w (W i')),(6,.w (W n)),(1,.w (fn1 zct)),(0,.w (.c (.slice 0 n 6 0 n none)))],[blk v' l',gb 6]):=by
 intro r;induction r with
 |nil =>
  intro l i j v hl hd hij hj;obtain rfl:=zUb hd (by omega);refine⟨l,i,v,jk _,fun _=>rfl,hl,by omega,by simp,?_⟩;rw[zj zbw.eq_1];simp[hl]
 |cons x r ih =>
  intro l i j v hl hd hij hj;obtain⟨hjl,hx,hd'⟩:=zL hd;have hw:=zB (i:=j) (by omega);have hw2:=zB (i:=i) (by omega);have hc:=zrR x;have hjn:j<n:=by omega
  have hin:i<n:=by omega
  by_cases hb:x.hi<x.lo
  ·obtain⟨l',i',v',g1,g2,h1,h2,h3,h4⟩:=ih l i (j+1) v hl hd' (by omega) (by omega);refine⟨l',i',v',g1,g2,h1,h2,by simp[h3,hb],?_⟩;rw[<-h4,zj zbw.eq_1];simp[hb,ze]at hc;simp[hl,hjl,hjn,hx,hc,hw,ze]
  ·obtain⟨l',i',v',g1,g2,h1,h2,h3,h4⟩:=ih (l.set i x) (i+1) (j+1) (v+1) (by simp[hl]) (by rw[List.drop_set_of_lt (by omega)];exact hd') (by omega) (by omega);have ht:(l.set i x).take (i+1)=l.take i++[x]:=by
    rw[uS (by simp;omega),List.take_set_of_le (jk _)];simp
   refine⟨l',i',v',by omega,fun hv=>by omega,h1,h2,by rw[h3,ht];simp[hb],?_⟩;rw[<-h4,zj zbw.eq_1];simp[hb,ze]at hc;have hs:=zeg l i x;simp only[ze]at hs;simp[hl,hjl,hjn,hin,hx,hc,hw,hw2,hs,ze,blk]
abbrev z9:zk:=⟨0,0,0,0,0,0⟩
@[simp] theorem zCd(l:List zk)(k:Nat):(zI l).take k=zI (l.take k):=by simp[zI,List.map_take]
@[simp] theorem zCx(l:List zk)(k:Nat):(zI l).drop k=zI (l.drop k):=by simp[zI,List.map_drop]
@[simp] theorem zCv(k:Nat):List.replicate k [I 0,I 0,I 0,I 0,I 0,I 0]=zI (List.replicate k z9):=by simp[zI,ze]
theorem zuw(l:List zk)(v:Nat)(hn:l.length<=900000000000):∃l' v',v<=v'/\(v'=v->l'=l)/\l'.length=l.length/\(l.filter (fun b=>!bad b)).length<=l.length/\l'.take (l.filter (fun b=>!bad b)).length=l.filter (fun b=>!bad b) /\
  R L Cs zjk [.c (.slice 0 l.length 6 0 l.length none),fn1 zct] [blk v l]=some (.w (.c (.slice 0 l.length 6 0 (l.filter (fun b=>!bad b)).length none)),[blk v' l']):=by
 have hi:=zvV l hn;rw[zUa zjx rfl];cases hf:l.findIdx? bad with
 |none =>
  have uj:∀b∈l,bad b=false:=fun b hb=>kp.1 hf b hb
  have hfil:l.filter (fun b=>!bad b)=l:=List.filter_eq_self.2 fun b hb=>by rw[uj b hb];rfl
  refine⟨l,v,jk _,fun _=>rfl,rfl,by rw[hfil];exact jk _,by rw[hfil];simp,?_⟩;rw[hfil];simp only[hf,zbe]at hi;simp[zb6,hi,zX]
 |some k =>
  obtain⟨hk,hbk,A9⟩:=jT.1 hf;obtain⟨l',i',v',g1,g2,h1,h2,h3,h4⟩:=zvq l.length hn (l.drop (k+1)) l k (k+1) v rfl rfl (by omega) hk;have hpre:l.filter (fun b=>!bad b)=l.take k++(l.drop (k+1)).filter (fun b=>!bad b):=by
   conv=>lhs;rw[<-jO k l,List.filter_append,kg hk,qW]
   rw[if_neg (by simp[hbk])]
   congr 1
   refine List.filter_eq_self.2 fun b hb=>?_
   obtain⟨j,hj,rfl⟩:=uv hb;simp at hj;have:=A9 j (by omega);simpa using this
  rw[<-hpre]at h3;have hlen:(l.filter (fun b=>!bad b)).length=i':=by rw[<-h3];simp;omega
  have hw:=zB (i:=k) (by omega);simp only[hf,zbe]at hi;refine⟨if l.length-i'=0 then l' else l'.take i'++List.replicate (l.length-i') z9++l'.drop (i'+(l.length-i')),if l.length-i'=0 then v' else v'+1,by split<;>omega,fun hv=>?_,?_,by omega,?_,?_⟩
  ·split at hv
   ·rename_i h0;rw[if_pos h0];exact g2 hv
   ·omega
  ·split
   ·exact h1
   ·simp;omega
  ·rw[hlen,h3.symm];split
   ·rfl
   ·rw[jA,vt (by simp;omega)];rw[List.take_take,Nat.min_self]
  ·rw[hlen];have hne:((k:Int) == -1)=false:=by simp
   have hi0:(0:Int)<=i'/\(i':Int)<=(l.length:Int):=by omega
   have hil:i'+(l.length-i')<=l'.length:=by omega
   simp only[jP,kO,blk]at h4;by_cases h0:l.length-i'=0
   ·simp[zb6,hi,zX,hne,hw,h4,h0,h2,hi0,h1,blk,zgI,zcl]
   ·simp[zb6,hi,zX,hne,hw,h4,h0,h2,hi0,h1,hil,zgI,zcl,blk]
def bub(l:List zk):Nat->List zk
 |0=>l
 |j+1=>if ziK (l.getD (j+1) z9) (l.getD j z9)<0 then bub ((l.set (j+1) (l.getD j z9)).set j (l.getD (j+1) z9)) j else l
def zq4(l:List zk)(i:Nat):Nat->List zk
 |0=>l
 |m+1=>zq4 (bub l i) (i+1) m
def zeM(a b:zk):zk:=⟨a.lane,min a.lo b.lo,max a.hi b.hi,min a.vlo b.vlo,max a.vhi b.vhi,if a.hold=0\/b.hold=0 then 0 else max a.hold b.hold⟩
theorem zCU(a b:zk):R L Cs zsi [.a (ze a),.a (ze b)] []=some (.w (.a (ze (zeM a b))),[]):=by
 rw[zUa zsw rfl];by_cases h1:a.hold=0
 ·simp[zfO,ze,zeM,h1]
 ·have b1:(a.hold==0)=false:=by simp[h1]
  by_cases h2:b.hold=0
  ·simp[zfO,ze,zeM,h1,h2,b1]
  ·have b2:(b.hold==0)=false:=by simp[h2]
   simp[zfO,ze,zeM,h1,h2,b1,b2]
def meets(a b:zk):Bool:=decide (a.lane=b.lane)&&(decide (b.lo<=a.hi)||decide (b.lo-1=a.hi))
def zaQ(out:List zk)(b:zk):List zk :=
 if 0<out.length/\meets (out.getD (out.length-1) z9) b=true then out.set (out.length-1) (zeM (out.getD (out.length-1) z9) b) else out++[b]
structure OKB(b:zk):Prop where
 lo1:-9223372036854775808<=b.lo
 lo2:b.lo<=9223372036854775807
 hi1:-9223372036854775808<=b.hi
 hi2:b.hi<=9223372036854775807
theorem zBI{a b:zk}(ha:OKB a)(hb:OKB b):OKB (zeM a b):=⟨by simp[zeM];have:=ha.lo1;have:=hb.lo1;omega,by simp[zeM];have:=ha.lo2;have:=hb.lo2;omega,by simp[zeM];have:=ha.hi1;have:=hb.hi1;omega,by simp[zeM];have:=ha.hi2;have:=hb.hi2;omega⟩
theorem zva{out:List zk}{b:zk}(h:∀x∈out,OKB x)(hb:OKB b):∀x∈zaQ out b,OKB x:=by
 intro x hx;unfold zaQ at hx;split at hx
 ·rename_i hc;rcases kE hx with h1|h1
  ·exact h x h1
  ·subst h1;refine zBI (h _ ?_) hb;have:out.length-1<out.length:=by omega
   rw[jo,ju this];exact jb this
 ·rcases jm.1 hx with h1|h1
  ·exact h x h1
  ·simp at h1;subst h1;exact hb
theorem zt3(out:List zk)(b:zk):(zaQ out b).length<=out.length+1:=by
 unfold zaQ;split<;>simp
theorem zyO(S:List zk)(k:Nat)(hk:k<=900000000000)(hS:k<=S.length)(v:Nat)(hok:∀x∈S.take k,OKB x):∀(r:List zk) (i:Nat) (out:List zk) (w:Nat),(S.take k).drop i=r->i<=k->out.length<=i->(∀x∈out,OKB x)->∃w',
  Y L Cs zfv (some [15,14,13,4]) 3 [(15,.w (W i)),(14,.w (W k)),(13,.w (.c (.slice 1 S.length 6 0 k none))),(4,.w (.c (.slice 2 out.length 6 0 out.length none)))] [gb 6,blk v S,blk w out] =
    some (.exit 0,[(16,.w (Bo false)),(15,.w (W k)),(14,.w (W k)),(13,.w (.c (.slice 1 S.length 6 0 k none))),(4,.w (.c (.slice 2 (r.foldl zaQ out).length 6 0 (r.foldl zaQ out).length none)))],[gb 6,blk v S,blk w' (r.foldl zaQ out)]):=by
 intro r;induction r with
 |nil =>
  intro i out w hd hi ho hoo;have:i=k:=by
   have:=zUb hd (by simp;omega);simp at this;omega
  subst this;refine⟨w,?_⟩;rw[zj zfv.eq_1];simp
 |cons b r ih =>
  intro i out w hd hi ho hoo;obtain⟨hil,hb,hd'⟩:=zL hd;simp at hil hb;have hik:i<k:=by omega
  have hiS:i<S.length:=by omega
  have hbok:OKB b:=hok b (qJ (i:=i) (by rw[hd];exact jr));have hw:=zB (i:=i) (by omega);obtain⟨w',h4⟩:=ih (i+1) (zaQ out b) (if 0<out.length/\meets (out.getD (out.length-1) z9) b=true then w+1 else w+1) hd' hik (by have:=zt3 out b;omega) (zva hoo hbok);refine⟨w',?_⟩;rw[jK,<-h4,zj zfv.eq_1];have jU:(out.length+1)*48<=140737488355328:=by omega
  by_cases h0:out.length=0
  ·have e:out=[]:=jN.1 h0;subst e;simp[zaQ,hik,hiS,hb,hw,ze,blk]
  have hp:0<out.length:=by omega
  have hp':(0:Int)<(out.length:Int):=by omega
  have vq:out.length-1<out.length:=by omega
  have e1:out.getD (out.length-1) z9=out[out.length-1]:=by simp[vq]
  have hw1:=kQ ((out.length:Int)-1);have i1:(1:Int)<=(out.length:Int):=by omega
  have i2:(out.length:Int)-1<(out.length:Int):=by omega
  have i3:((out.length:Int)-1).toNat=out.length-1:=by omega
  have aok:OKB out[out.length-1]:=hoo _ (jb _);have hc:=zCU out[out.length-1] b;rw[zaQ,e1];generalize ha:out[out.length-1]=a at *;have hs:=zeg out (out.length-1) (zeM a b);simp only[ze]at hc hs;by_cases h2:a.lane=b.lane
  ·rw[h2]at hc;by_cases h3:b.lo<=a.hi
   ·have hm:meets a b=true:=by simp[meets,h2,h3]
    simp[hm,hik,hiS,hb,hw,ze,blk,hp,hp',hw1,i1,i2,i3,vq,ha,h2,h3,hc,hs]
   ·have hw2:IntKind.i64.wrap (b.lo-1)=b.lo-1:=zTd _ (by have:=aok.hi1;omega) (by have:=hbok.lo2;omega);by_cases h5:b.lo-1=a.hi
    ·have hm:meets a b=true:=by simp[meets,h2,h5]
     have hw3:IntKind.i64.wrap a.hi=a.hi:=zTd _ aok.hi1 aok.hi2;simp[hw3,hm,hik,hiS,hb,hw,ze,blk,hp,hp',hw1,i1,i2,i3,vq,ha,h2,h3,hc,hs,hw2,h5]
    ·have hm:meets a b=false:=by simp[meets,h2,h3,h5]
     have b5:(b.lo-1==a.hi)=false:=by simp[h5]
     simp[hm,hik,hiS,hb,hw,ze,blk,hp,hp',hw1,i1,i2,i3,vq,ha,h2,h3,hw2,h5,b5,jU]
  ·have hm:meets a b=false:=by simp[meets,h2]
   have b2:(a.lane==b.lane)=false:=by simp[h2]
   simp[hm,hik,hiS,hb,hw,ze,blk,hp,hp',hw1,i1,i2,i3,vq,ha,h2,b2,jU]
def zzs(l:List zk):List zk:=zq4 l 1 (l.length-1)
def zAj(l:List zk):List zk:=(zzs (l.filter fun b=>!bad b)).foldl zaQ []
def ltB(a b:zk):Bool:=decide (a.lane<b.lane)||(decide (a.lane=b.lane)&&decide (a.lo<b.lo))
theorem znX(a b:zk):(ziK a b<0)<->ltB a b=true:=by
 unfold ziK ltB zgQ;by_cases h1:a.lane<b.lane
 ·simp[h1]
 ·by_cases h2:b.lane<a.lane
  ·have h3:¬a.lane=b.lane:=by omega
   simp[h1,h2,h3]
  ·have h3:a.lane=b.lane:=by omega
   by_cases h4:a.lo<b.lo
   ·simp[h3,h4]
   ·by_cases h5:b.lo<a.lo
    ·simp[h3,h4,h5]
    ·simp[h3,h4,h5]
theorem zCT(a b:zk):R L Cs zlj [.a (ze a),.a (ze b)] []=some (.w (Bo (ltB a b)),[]):=by
 rw[zUa zlz rfl];by_cases h1:a.lane<b.lane
 ·simp[zcA,ze,ltB,h1]
 ·by_cases h2:a.lane=b.lane
  ·simp[zcA,ze,ltB,h2]
  ·have b2:(a.lane==b.lane)=false:=by simp[h2]
   simp[zcA,ze,ltB,h1,h2,b2]
def zev(x:zk)(s:List zk):Nat->Nat
 |0=>0
 |a+1=>if ltB x (s.getD a z9)=true then zev x s a else a+1
theorem zl0(x:zk)(s:List zk):∀a,zev x s a<=a
 |0=>jk _
 |a+1=>by unfold zev;split;exact Nat.le_succ_of_le (zl0 x s a);exact jk _
theorem zBS(l s:List zk)(i:Nat)(hi:i<l.length)(hs:s.length<=900000000000)(M:Mem)(id:Nat)(hM:M[id]?=some (some (own 6 (zI s)))):∀(a:Nat),a<=s.length ->
  Y L Cs zca (some [5,0,4,3]) M.length [(5,.w (W a)),(0,.w (.c (.jc (zI l)))),(4,.w (W i)),(3,.w (.c (.slice id s.length 6 0 s.length none)))] M =
    some (.exit 2,[(44,.w (Bo false)),(5,.w (W (zev l[i] s a))),(0,.w (.c (.jc (zI l)))),(4,.w (W i)),(3,.w (.c (.slice id s.length 6 0 s.length none)))],M):=by
 intro a;induction a with
 |zero =>
  intro ha;rw[zj zca.eq_1];simp[zev]
 |succ a ih =>
  intro ha;have has:a<s.length:=by omega
  have e1:s.getD a z9=s[a]:=by simp[has]
  have hc:=zCT l[i] s[a];have hg:(0:Int)<(a:Int)+1:=by omega
  have hwa:IntKind.i64.wrap (a:Int)=(a:Int):=zTd _ (by omega) (by omega);simp only[ze]at hc;rw[zev,e1];have hdrop:∀E:Env,kj M.length E M=M:=fun E=>by simp[kj]
  by_cases h:ltB l[i] s[a]=true
  ·rw[h]at hc;rw[if_pos h,<-ih (by omega),zj zca.eq_1];simp[hg,hi,hM,own,has,hwa,hc,ze,hdrop]
  ·have h':ltB l[i] s[a]=false:=by simpa using h
   rw[h']at hc;rw[if_neg h,zj zca.eq_1];simp[hg,hi,hM,own,has,hwa,hc,ze]
def zfK(s:List zk)(x:zk):List zk:=s.take (zev x s s.length)++x::s.drop (zev x s s.length)
theorem zn4(s:List zk)(x:zk):(zfK s x).length=s.length+1:=by
 have:=zl0 x s s.length;simp[zfK];omega
def zs9(M:Mem):Prop:=∀x∈M,∀b,x=some b->b.box=false
def zb5(s:List zk)(x:zk):List zk:=if bad x=true then s else zfK s x
theorem zkI{M:Mem}{E:Env}{id g es off len:Nat}{c:Option Nat}(hE:(3,AV.w (.c (.slice id g es off len c)))∈E)(h:M.length<=2\/2<=id):kj 2 E M=M:=by
 unfold kj;split
 ·rfl
 ·rename_i hl;have hid:2<=id:=h.resolve_left hl;rw[if_neg];simp only[jg,jx,not_and];intro uj;have:=uj _ hE;simp[AV.below,WV.below,WV.cells,Eng.below,uJ]at this;omega
theorem zx0(l:List zk)(hl:l.length<=900000000000):∀(r:List zk) (i:Nat) (s:List zk) (M:Mem) (id:Nat),l.drop i=r->i<=l.length->s.length<=i->M[id]?=some (some (own 6 (zI s)))->(M.length<=2\/2<=id)->2<=M.length->zs9 M ->
  ∃M' id',zs9 M'/\M'[id']?=some (some (own 6 (zI (r.foldl zb5 s))))/\Y L Cs zb9 (some [4,0,3]) 2 [(4,.w (W i)),(0,.w (.c (.jc (zI l)))),(3,.w (.c (.slice id s.length 6 0 s.length none)))] M =
   some (.exit 0,[(15,.w (Bo false)),(4,.w (W l.length)),(0,.w (.c (.jc (zI l)))),(3,.w (.c (.slice id' (r.foldl zb5 s).length 6 0 (r.foldl zb5 s).length none)))],M'):=by
 intro r;induction r with
 |nil =>
  intro i s M id hd hi hs hM hid hML hfl;obtain rfl:=zUb hd hi;refine⟨M,id,hfl,hM,?_⟩;rw[zj zb9.eq_1];simp
 |cons x r ih =>
  intro i s M id hd hi hs hM hid hML hfl;obtain⟨hil,hx,hd'⟩:=zL hd;have hw:=zB (i:=i) (by omega);by_cases hb:x.hi<x.lo
  ·obtain⟨M',id',hf',h1,h2⟩:=ih (i+1) s M id hd' hil (by omega) hM hid hML hfl;have e:zb5 s x=s:=by simp[zb5,hb]
   rw[jK,e];refine⟨M',id',hf',h1,?_⟩;rw[<-h2,zj zb9.eq_1];have hdr:=fun(E:Env) (hE:(3,AV.w (.c (.slice id s.length 6 0 s.length none)))∈E)=>zkI hE hid
   simp[hil,hx,hb,ze,hw,hdr,-kj]
  ·have hidM:id<M.length:=(ku.1 hM).1;have e:zb5 s x=zfK s x:=by simp[zb5,hb]
   have hM2:(M++[some (own 6 (zI (zfK s x))),some (own 6 [ze x])])[M.length]?=some (some (own 6 (zI (zfK s x)))):=by simp
   have hl2:(2:Nat)<=M.length:=hML;have hs999:s.length<=899999999999:=by omega
   obtain⟨M',id',hf',h1,h2⟩:=ih (i+1) (zfK s x) (M++[some (own 6 (zI (zfK s x))),some (own 6 [ze x])]) M.length hd' hil (by rw[zn4];omega) hM2 (.inr hl2) (by simp) (by
    intro y hy b hb;rcases jm.1 hy with h|h
    ·exact hfl y h b hb
    ·simp at h;rcases h with rfl|rfl<;>(cases hb;rfl))
   rw[jK,e];refine⟨M',id',hf',h1,?_⟩;have hat:=zBS l s i hil (by omega) M id hM s.length (jk _);rw[hx]at hat;have hdr:∀(v v2:AV) (g len:Nat) (N:Mem),kj 2 [(4,v),(0,v2),(3,.w (.c (.slice M.length g 6 0 len none)))] (M++N)=M++N:=fun v v2 g len N=>zkI (id:=M.length) (g:=g) (es:=6) (off:=0) (len:=len) (c:=none) (by simp) (.inr hl2)
   have hle:=zl0 x s s.length;rw[<-h2,zj zb9.eq_1];simp only[zfK];generalize zev x s s.length=a at *;have hdl:∀E:Env,kj M.length E M=M:=fun E=>by simp[kj]
   have hal:(a:Int)<=(s.length:Int):=by omega
   have r1:∀n,n<=900000000000->n*48<=140737488355328:=fun n hn=>by omega
   have hta:(s.take a).length=a:=by simp;omega
   have htd:(s.drop a).length=s.length-a:=by simp
   have hsz:a+(s.length-a)=s.length:=by omega
   have hg:∀N:Mem,(M++N)[id]?=some (some (own 6 (zI s))):=fun N=>by rw[jq hidM,hM]
   simp only[own,zgg]at hg;have d1:a-s.length=0:=by omega
   cases h1:s.take a with
   |nil =>
    cases h2:s.drop a with
    |nil=>simp[hil,hx,hb,ze,hw,hdr,hat,hM,hidM,hg,own,hle,h1,h2,zg,hdl,hal,hsz,r1,-kj]
    |cons z t2 =>
     have ht2:t2.length+1+1<=900000000000:=by have:=congrArg List.length h2;simp at this;omega
     have ht3:s.length-a=t2.length+1:=by have:=congrArg List.length h2;simp at this;omega
     have ht4:(1+(t2.length+1))*48<=140737488355328:=by omega
     have ht5:1+(t2.length+1)=t2.length+1+1:=by omega
     have ht6:a+(t2.length+1)<=s.length:=by omega
     simp[hil,hx,hb,ze,hw,hdr,hat,hM,hidM,hg,own,hle,h1,h2,zg,hdl,hal,hsz,r1,ht2,ht3,ht4,ht5,ht6,-kj]
   |cons y t1 =>
    have ht1:t1.length+1=a:=by have:=congrArg List.length h1;simp at this;omega
    have hr1:=r1 (t1.length+1) (by omega);have hr2:=r1 (t1.length+1+1) (by omega);cases h2:s.drop a with
    |nil=>simp[hil,hx,hb,ze,hw,hdr,hat,hM,hidM,hg,own,hle,h1,h2,zg,hdl,hal,hsz,r1,hr1,hr2,-kj]
    |cons z t2 =>
     have hr3:=r1 (t1.length+1+1+(t2.length+1)) (by have:=congrArg List.length h2;simp at this;omega);have ht3:s.length-a=t2.length+1:=by have:=congrArg List.length h2;simp at this;omega
     have ht6:a+(t2.length+1)<=s.length:=by omega
     have ht7:t1.length+1+1+(t2.length+1)=t1.length+(t2.length+1+1)+1:=by omega
     have hr4:(t1.length+(t2.length+1+1)+1)*48<=140737488355328:=by rw[<-ht7];exact hr3
     have ht8:List.take (t1.length+1) (zI t1++[[I x.lane,I x.lo,I x.hi,I x.vlo,I x.vhi,I x.hold]])=zI t1++[[I x.lane,I x.lo,I x.hi,I x.vlo,I x.vhi,I x.hold]]:=jF (by simp);have ht2:t2.length+1+a=s.length:=by have:=congrArg List.length h2;simp at this;omega
     simp[hil,hx,hb,ze,hw,hdr,hat,hM,hidM,hg,own,hle,h1,h2,zg,hdl,hal,hsz,r1,ht2,hr1,hr2,hr3,hr4,ht3,ht6,ht7,ht8,-kj]
def glue(a b:zk):zk:=⟨b.lane,a.lo,max a.hi b.hi,min a.vlo b.vlo,max a.vhi b.vhi,if a.hold=0\/b.hold=0 then 0 else max a.hold b.hold⟩
def far(a b:zk):Bool:=!decide (a.lane=b.lane)||(decide (a.hi<b.lo)&&decide (a.hi<b.lo-1))
def zcP(out:List zk)(b:zk):List zk :=
 if 0<out.length/\far (out.getD (out.length-1) z9) b=false then out.set (out.length-1) (glue (out.getD (out.length-1) z9) b) else out++[b]
theorem zn6(out:List zk)(b:zk):(zcP out b).length<=out.length+1:=by
 unfold zcP;split<;>simp
theorem zvi{out:List zk}{b:zk}(h:∀x∈out,OKB x)(hb:OKB b):∀x∈zcP out b,OKB x:=by
 intro x hx;unfold zcP at hx;split at hx
 ·rename_i hc;rcases kE hx with h1|h1
  ·exact h x h1
  ·subst h1;have hl:out.length-1<out.length:=by omega
   have ho:OKB (out.getD (out.length-1) z9):=by
    refine h _ ?_;rw[jo,ju hl];exact jb hl
   exact⟨ho.lo1,ho.lo2,by show _<=max _ _;have:=ho.hi1;have:=hb.hi1;omega,by show max _ _<=_;have:=ho.hi2;have:=hb.hi2;omega⟩
 ·rcases jm.1 hx with h1|h1
  ·exact h x h1
  ·simp at h1;subst h1;exact hb
theorem zw2{P N:Mem}(hP:zs9 P){g len id g' len':Nat}{v:AV}{o x:Option Blk}(ho:∀b,o=some b->b.box=false)(hid:id<P.length)(hv:v.below (P.length+1)=true) :
  kj (P.length+1) [(6,.w (.c (.slice P.length g 6 0 len none))),(7,v),(3,.w (.c (.slice id g' 6 0 len' none)))] (P++o::x::N)=P++[o]:=by
 unfold kj;have ht:(P++o::x::N).take (P.length+1)=P++[o]:=by
  rw[List.take_append,jF (by omega)];simp
 rw[if_neg (by simp),ht,if_pos];simp only[jg,jx];refine⟨?_,?_⟩
 ·intro y hy;simp at hy;rcases hy with rfl|rfl|rfl
  ·simp[AV.below,WV.below,WV.cells,Eng.below,uJ]
  ·exact hv
  ·simp[AV.below,WV.below,WV.cells,Eng.below,uJ];omega
 ·simp only[zH,jx];intro y hy;have:∀b,y=some b->b.box=false:=by
   rcases jm.1 hy with h|h
   ·exact hP y h
   ·simp at h;subst h;exact ho
  cases y with
  |none=>rfl
  |some b=>simp[Blk.below,this b rfl]
theorem zyT(S:List zk)(hS:S.length<=900000000000)(P:Mem)(id:Nat)(hP:zs9 P)(hM:P[id]?=some (some (own 6 (zI S))))(hok:∀x∈S,OKB x):∀(r:List zk) (i:Nat) (out:List zk) (w:Nat),S.drop i=r->i<=S.length->out.length<=i->(∀x∈out,OKB x)->∃w',
  Y L Cs zcN (some [6,7,3]) (P.length+1) [(6,.w (.c (.slice P.length out.length 6 0 out.length none))),(7,.w (W i)),(3,.w (.c (.slice id S.length 6 0 S.length none)))] (P++[blk w out]) =
    some (.exit 4,[(65,.w (Bo false)),(6,.w (.c (.slice P.length (r.foldl zcP out).length 6 0 (r.foldl zcP out).length none))),(7,.w (W S.length)),(3,.w (.c (.slice id S.length 6 0 S.length none)))],P++[blk w' (r.foldl zcP out)]):=by
 have hidP:id<P.length:=(ku.1 hM).1;have hg:∀N:Mem,(P++N)[id]?=some (some (own 6 (zI S))):=fun N=>by rw[jq hidP,hM]
 simp only[own,zgg]at hg;intro r;induction r with
 |nil =>
  intro i out w hd hi ho hoo;obtain rfl:=zUb hd hi;refine⟨w,?_⟩;rw[zj zcN.eq_1];simp[hg]
 |cons b r ih =>
  intro i out w hd hi ho hoo;obtain⟨hil,hb,hd'⟩:=zL hd;have hbok:OKB b:=hok b (by rw[<-hb];exact jb _);have hw:=zB (i:=i) (by omega);obtain⟨w',h4⟩:=ih (i+1) (zcP out b) (w+1) hd' hil (by have:=zn6 out b;omega) (zvi hoo hbok);refine⟨w',?_⟩;rw[jK,<-h4,zj zcN.eq_1];have jU:(out.length+1)*48<=140737488355328:=by omega
  have hdt:∀(g len g' len':Nat) (k:Int) (w:Nat) (rows:List (List Cl)) (x:Option Blk) (N:Mem),kj (P.length+1) [(6,.w (.c (.slice P.length g 6 0 len none))),(7,.w (W k)),(3,.w (.c (.slice id g' 6 0 len' none)))] (P++some { box:=false,esz:=6,rows:=rows,gen:=g,fz:=false,ver:=w }::x::N)=P++[some { box:=false,esz:=6,rows:=rows,gen:=g,fz:=false,ver:=w }] :=
   fun g len g' len' k w rows x N=>zw2 hP (by intro b hb;cases hb;rfl) hidP (by simp[AV.below,WV.below,WV.cells,Eng.below,uJ])
  by_cases h0:out.length=0
  ·have e:out=[]:=jN.1 h0;subst e;have hwm:IntKind.i64.wrap (-1)=-1:=rfl;simp[zcP,hil,hb,hw,ze,blk,hg,hwm,hdt,zg,-kj]
  have hp:0<out.length:=by omega
  have vq:out.length-1<out.length:=by omega
  have e1:out.getD (out.length-1) z9=out[out.length-1]:=by simp[vq]
  have hw1:=kQ ((out.length:Int)-1);have i1:(1:Int)<=(out.length:Int):=by omega
  have i2:(out.length:Int)-1<(out.length:Int):=by omega
  have i3:¬((out.length:Int)-1<0):=by omega
  have i4:¬((out.length:Int)<1):=by omega
  have i5:¬(out.length<1):=by omega
  have aok:OKB out[out.length-1]:=hoo _ (jb _);rw[zcP,e1];generalize ha:out[out.length-1]=a at *;have hs:∀x1 x2 x3 x4 x5 x6:Int,(zI out).set (out.length-1) [.int .i64 x1,.int .i64 x2,.int .i64 x3,.int .i64 x4,.int .i64 x5,.int .i64 x6]=zI (out.set (out.length-1) ⟨x1,x2,x3,x4,x5,x6⟩):=fun x1 x2 x3 x4 x5 x6=>zeg out (out.length-1) ⟨x1,x2,x3,x4,x5,x6⟩
  by_cases h2:a.lane=b.lane
  ·by_cases h3:a.hi<b.lo
   ·have hw2:IntKind.i64.wrap (b.lo-1)=b.lo-1:=zTd _ (by have:=aok.hi1;omega) (by have:=hbok.lo2;omega);by_cases h5:a.hi<b.lo-1
    ·have hm:far a b=true:=by simp[far,h3,h5]
     simp[hm,hil,hb,hw,ze,blk,hp,hw1,i1,i2,i3,i4,i5,vq,ha,h2,h3,h5,hw2,jU,hg,hdt,zg,-kj]
    ·have hm:far a b=false:=by simp[far,h2,h5]
     by_cases h6:a.hold=0
     ·simp[hm,hil,hb,hw,ze,blk,hp,hw1,i1,i2,i3,i4,i5,vq,ha,h2,h3,h5,hw2,jU,hg,hdt,zg,h6,glue,hs,-kj]
     ·have b6:(a.hold==0)=false:=by simp[h6]
      by_cases h7:b.hold=0
      ·simp[hm,hil,hb,hw,ze,blk,hp,hw1,i1,i2,i3,i4,i5,vq,ha,h2,h3,h5,hw2,jU,hg,hdt,zg,h6,h7,b6,glue,hs,-kj]
      ·have b7:(b.hold==0)=false:=by simp[h7]
       simp[hm,hil,hb,hw,ze,blk,hp,hw1,i1,i2,i3,i4,i5,vq,ha,h2,h3,h5,hw2,jU,hg,hdt,zg,h6,h7,b6,b7,glue,hs,-kj]
   ·have hm:far a b=false:=by simp[far,h2,h3]
    by_cases h6:a.hold=0
    ·simp[hm,hil,hb,hw,ze,blk,hp,hw1,i1,i2,i3,i4,i5,vq,ha,h2,h3, hg,hdt,zg,h6,glue,hs,-kj]
    ·have b6:(a.hold==0)=false:=by simp[h6]
     by_cases h7:b.hold=0
     ·simp[hm,hil,hb,hw,ze,blk,hp,hw1,i1,i2,i3,i4,i5,vq,ha,h2,h3, hg,hdt,zg,h6,h7,b6,glue,hs,-kj]
     ·have b7:(b.hold==0)=false:=by simp[h7]
      simp[hm,hil,hb,hw,ze,blk,hp,hw1,i1,i2,i3,i4,i5,vq,ha,h2,h3, hg,hdt,zg,h6,h7,b6,b7,glue,hs,-kj]
  ·have hm:far a b=true:=by simp[far,h2]
   have b2:(a.lane==b.lane)=false:=by simp[h2]
   have b3:(a.lane !=b.lane)=true:=by simp[h2]
   simp[hm,hil,hb,hw,ze,blk,hp,hw1,i1,i2,i3,i4,i5,vq,ha,h2,b2,b3,jU,hg,hdt,zg,-kj]
theorem zAm{s:List zk}{x y:zk}:y∈zfK s x<->y=x\/y∈s:=by
 unfold zfK;generalize zev x s s.length=a
 conv=>rhs;rw[<-jO a s]
 simp only[jm,js];constructor
 ·rintro(h|h|h)
  ·exact .inr (.inl h)
  ·exact .inl h
  ·exact .inr (.inr h)
 ·rintro(h|h|h)
  ·exact .inr (.inl h)
  ·exact .inl h
  ·exact .inr (.inr h)
theorem zuL:∀(l s:List zk) (y:zk),y∈l.foldl zb5 s->y∈l\/y∈s
 |[],s,y,h=>.inr h
 |x::l,s,y,h=>by
  rcases zuL l (zb5 s x) y h with h|h
  ·exact .inl (jp _ h)
  ·unfold zb5 at h;split at h
   ·exact .inr h
   ·rcases zAm.1 h with h|h
    ·exact .inl (h ▸ jr)
    ·exact .inr h
theorem zqq:∀(l s:List zk),(l.foldl zb5 s).length<=l.length+s.length
 |[],s=>by simp
 |x::l,s=>by
  have h:=zqq l (zb5 s x);have h2:(zb5 s x).length<=s.length+1:=by unfold zb5;split;omega;rw[zn4];omega
  simp only[jK,jw];omega
def zcz(l:List zk):List zk:=(l.foldl zb5 []).foldl zcP []
theorem zy7(l:List zk)(hl:l.length<=800000000000)(hok:∀x∈l,OKB x):R L Cs zlm [.c (.jc (zI l))] []=some (.w (.c (.jc (zI (zcz l)))),[]):=by
 obtain⟨P,id,hP,hid,h2⟩:=zx0 l (by omega) l 0 [] [gb 6,gb 6] 1 rfl (jE _) (jE _) rfl (.inl (by simp)) (by simp) (by intro x hx b hb;simp at hx;subst hx;cases hb;rfl);have hl2:=zqq l [];simp at hl2;obtain⟨w',h3⟩:=zyT (l.foldl zb5 []) (by omega) P id hP hid (fun x hx=>hok x ((zuL l [] x hx).resolve_right (by simp))) _ 0 [] 0 rfl (jE _) (jE _) (by simp);rw[uT,<-zcz]at h3;generalize l.foldl zb5 []=S at *;generalize zcz l=Q at *;simp only[blk,ji,jB,zic]at h2 h3;have hidP:id<P.length:=(ku.1 hid).1;have hdp:∀(E:Env) (b:Option Blk),kj (P.length+1) E (P++[b])=P++[b]:=by
  intro E b;simp[kj]
 have hd0:∀(E:Env) (a b:Option Blk),kj 2 E [a,b]=[a,b]:=by
  intro E a b;simp[kj]
 rw[zUa zlC rfl];simp[ze0,h2,h3,zg,hdp,hd0,-kj]
def leB(a b:zk):Prop:=a.lane<b.lane\/(a.lane=b.lane/\a.lo<=b.lo)
theorem zqc(a b:zk):leB a b<->¬ltB b a=true:=by
 unfold leB ltB;simp;omega
theorem zfs{a b c:zk}(h1:leB a b)(h2:leB b c):leB a c:=by unfold leB at *;omega
theorem zxy{a b:zk}(h:ltB a b=true):leB a b:=by unfold leB;unfold ltB at h;simp at h;omega
theorem zn5(x:zk)(t u:List zk):∀a,a<=t.length->zev x (t++u) a=zev x t a
 |0,_=>rfl
 |a+1,h=>by
  have e:(t++u).getD a z9=t.getD a z9:=by simp[jo,jq (show a<t.length by omega)]
  unfold zev;rw[e,zn5 x t u a (by omega)]
theorem zup(x:zk):∀(n:Nat) (s r:List zk),s.length=n->bub (s++x::r) n=zfK s x++r
 |0,s,r,h=>by
  have e:s=[]:=jN.1 h;subst e;simp[bub,zfK,zev]
 |n+1,s,r,h=>by
  rcases ks s with e |⟨t,y,e⟩
  ·subst e;simp at h
  ·rw[ky]at e;subst e;have ht:t.length=n:=by simpa using h
   subst ht;have e1:(t++[y]++x::r).getD (t.length+1) z9=x:=by simp[jo]
   have e2:(t++[y]++x::r).getD t.length z9=y:=by simp[jo]
   have e3:((t++[y]++x::r).set (t.length+1) y).set t.length x=t++x::(y::r):=by simp
   rw[bub,e1,e2,e3];have e4:zev x (t++[y]) (t.length+1)=if ltB x y=true then zev x t t.length else t.length+1:=by
    rw[zev];have:(t++[y]).getD t.length z9=y:=by simp[jo]
    rw[this,zn5 x t [y] t.length (jk _)]
   by_cases hc:ziK x y<0
   ·have hl:=(znX x y).1 hc;rw[if_pos hc,zup x t.length t (y::r) rfl];have hle:=zl0 x t t.length;simp only[zfK,jt,jw,jB,kv];rw[e4,if_pos hl,vt hle,List.drop_append_of_le_length hle];simp
   ·have hl:¬ltB x y=true:=fun h=>hc ((znX x y).2 h)
    rw[if_neg hc];simp only[zfK,jt,jw,jB,kv];rw[e4,if_neg hl,jF (by simp),uU (by simp)];simp
theorem zvc:∀(r s:List zk),zq4 (s++r) s.length r.length=r.foldl zfK s
 |[],s=>by simp[zq4]
 |x::r,s=>by
  rw[jw,zq4,zup x s.length s r rfl,jK];have h:=zvc r (zfK s x);rw[zn4]at h;exact h
theorem zsN(l:List zk):zzs l=l.foldl zfK []:=by
 cases l with
 |nil=>rfl
 |cons x r =>
  have h:=zvc r [x];simp only[jw,jB,List.singleton_append]at h;simp only[zzs,jw,Nat.add_sub_cancel,jK];have e:zfK [] x=[x]:=by simp[zfK,zev]
  rw[e];exact h
theorem zpi:∀(l s:List zk),l.foldl zb5 s=(l.filter fun b=>!bad b).foldl zfK s
 |[],s=>rfl
 |x::l,s=>by
  rw[jK,zpi l,qW];cases h:bad x with
  |true=>simp[zb5,h]
  |false=>simp[zb5,h]
theorem zpu(x:zk)(s:List zk):∀a,a<=s.length->∀i,zev x s a<=i->i<a->ltB x (s.getD i z9)=true
 |0,_,i,_,h=>by omega
 |a+1,ha,i,h1,h2=>by
  unfold zev at h1;split at h1
  ·rename_i h;rcases kh i a with h3|h3
   ·exact zpu x s a (by omega) i h1 h3
   ·have:i=a:=by omega
    subst this;exact h
  ·omega
theorem zpt(x:zk)(s:List zk):∀a,0<zev x s a->ltB x (s.getD (zev x s a-1) z9)=false
 |0,h=>by simp[zev]at h
 |a+1,h=>by
  unfold zev at h ⊢;split at h
  ·rename_i h1;rw[if_pos h1];exact zpt x s a h
  ·rename_i h1;rw[if_neg h1];simpa using h1
theorem zvd(s:List zk)(x:zk)(h:s.Pairwise leB):(zfK s x).Pairwise leB:=by
 unfold zfK;have hab:=zpu x s s.length (jk _);have hbe:=zpt x s s.length;have hle:=zl0 x s s.length;generalize zev x s s.length=a at *;have hs:=qA.1 h;have hx1:∀y∈s.take a,leB y x:=by
  intro y hy;obtain⟨i,hi,rfl⟩:=uv hy;simp at hi;have hb:=hbe (by omega);have hsa:a-1<s.length:=by omega
  have e:s.getD (a-1) z9=s[a-1]:=by simp[hsa]
  rw[e]at hb;have h1:leB s[a-1] x:=(zqc _ _).2 (by simp[hb]);simp only[List.getElem_take];rcases kh i (a-1)with h2|h2
  ·exact zfs (hs i (a-1) (by omega) hsa h2) h1
  ·have:i=a-1:=by omega
   subst this;exact h1
 have hx2:∀y∈s.drop a,leB x y:=by
  intro y hy;obtain⟨i,hi,rfl⟩:=uv hy;simp at hi;simp only[List.getElem_drop];have hai:a+i<s.length:=by omega
  have:=hab (a+i) (by omega) (by omega);have e:s.getD (a+i) z9=s[a+i]:=by simp[hai]
  rw[e]at this;exact zxy this
 have hsp:(s.take a++s.drop a).Pairwise leB:=by rw[jO];exact h
 rw[jD]at hsp ⊢;refine⟨hsp.1,jS.2 ⟨hx2,hsp.2.1⟩,fun y hy z hz=>?_⟩;rcases js.1 hz with rfl|hz
 ·exact hx1 y hy
 ·exact hsp.2.2 y hy z hz
theorem ziR:∀(l s:List zk),s.Pairwise leB->(l.foldl zfK s).Pairwise leB
 |[],s,h=>h
 |x::l,s,h=>ziR l _ (zvd s x h)
theorem zoI(a b:zk):meets a b = !far a b:=by
 unfold meets far;by_cases h:a.lane=b.lane
 ·by_cases h1:b.lo<=a.hi
  ·have h2:¬a.hi<b.lo:=by omega
   simp[h,h1,h2]
  ·by_cases h2:b.lo-1=a.hi
   ·have h3:¬a.hi<b.lo-1:=by omega
    have h4:a.hi<b.lo:=by omega
    simp[h,h1,h2,h3,h4]
   ·have h3:a.hi<b.lo-1:=by omega
    have h4:a.hi<b.lo:=by omega
    simp[h,h1,h2,h3,h4]
 ·simp[h]
theorem zxD:∀(l out:List zk),l.Pairwise leB->(0<out.length->∀b∈l,leB (out.getD (out.length-1) z9) b)->l.foldl zaQ out=l.foldl zcP out
 |[],out,_,_=>rfl
 |b::l,out,h,ho=>by
  rw[jS]at h;have hst:zaQ out b=zcP out b:=by
   unfold zaQ zcP;rw[zoI];by_cases hc:0<out.length/\far (out.getD (out.length-1) z9) b=false
   ·have hle:=ho hc.1 b jr;rw[if_pos ⟨hc.1,by rw[hc.2];rfl⟩,if_pos hc]
    congr 1
    generalize out.getD (out.length-1) z9=a at *;have hm:=zoI a b;rw[hc.2]at hm;have qG:a.lane=b.lane:=by unfold meets at hm;simp at hm;exact hm.1
    have hlo:a.lo<=b.lo:=by unfold leB at hle;omega
    unfold zeM glue;rw[qG,show min a.lo b.lo=a.lo by omega]
   ·rw[if_neg (by simpa using hc),if_neg hc]
  rw[jK,jK,hst];refine zxD l _ h.2 fun hp c hcm=>?_
  have hbc:=h.1 c hcm;unfold zcP;split
  ·rename_i hcc;simp only[yv];have hl:out.length-1<out.length:=by omega
   have e:(out.set (out.length-1) (glue (out.getD (out.length-1) z9) b)).getD (out.length-1) z9=glue (out.getD (out.length-1) z9) b:=by simp[jo,j6 hl]
   rw[e];have h1:=ho hcc.1 b jr;generalize out.getD (out.length-1) z9=a at *;have:leB (glue a b) b:=by unfold leB glue;unfold leB at h1;simp;have:=zoI a b;rw[hcc.2]at this;unfold meets at this;simp at this;omega
   exact zfs this hbc
  ·have e:(out++[b]).getD ((out++[b]).length-1) z9=b:=by simp[jo]
   rw[e];exact hbc
theorem zAh(l:List zk):zAj l=zcz l:=by
 unfold zAj zcz;rw[zsN,zpi];exact zxD _ [] (ziR _ [] List.Pairwise.nil) (by simp)
def z9f(k:zci)(st lo hi:Int):zci×Bool :=
 if st≠k.tick then(k,true) else
 if max k.ego.vlo lo>min k.ego.vhi hi then(k,false) else({ k with ego:={ k.ego with vlo:=max k.ego.vlo lo,vhi:=min k.ego.vhi hi } },true)
def Zag(k:zci)(st lo hi:Int):zci×Bool :=
 if st≠k.tick then(k,true) else
 if max k.ego.slo lo>min k.ego.shi hi then(k,false) else({ k with ego:={ k.ego with slo:=max k.ego.slo lo,shi:=min k.ego.shi hi } },true)
def zM5(r:zci×Bool):AV:=.t [.a (zG r.1),Bo r.2]
theorem Za4(k:zci)(hl:k.jJ.length<=100000000000)(st lo hi:Int):R L Cs z9X [.a (zG k),.a [I st,I lo,I hi]] []=some (zM5 (z9f k st lo hi),[]):=by
 have hc:=z1I k hl;simp only[zG]at hc;rw[zUa z90 rfl];by_cases h:st=k.tick
 ·by_cases h2:min k.ego.vhi hi<max k.ego.vlo lo
  ·simp[z8l,zG,hc,h,h2,z9f,zM5]
  ·simp[z8l,zG,hc,h,h2,z9f,zM5]
 ·simp[z8l,zG,hc,h,z9f,zM5]
theorem Zbi(k:zci)(hl:k.jJ.length<=100000000000)(st lo hi:Int):R L Cs Zz [.a (zG k),.a [I st,I lo,I hi]] []=some (zM5 (Zag k st lo hi),[]):=by
 have hc:=z1I k hl;simp only[zG]at hc;rw[zUa ZI rfl];by_cases h:st=k.tick
 ·by_cases h2:min k.ego.shi hi<max k.ego.slo lo
  ·simp[z8p,zG,hc,h,h2,Zag,zM5]
  ·simp[z8p,zG,hc,h,h2,Zag,zM5]
 ·simp[z8p,zG,hc,h,Zag,zM5]
theorem zy2:zaH L Cs 400 zgD [] []=some (.w (.c (.bool true)),[]):=by kernel_rfl
theorem zBZ:R L Cs zgD [] []=some (.w (Bo true),[]):=zah.2 ⟨400,zy2⟩
theorem zvh:∀(l out:List zk),(l.foldl zcP out).length<=l.length+out.length
 |[],out=>by simp
 |b::l,out=>by
  have:=zvh l (zcP out b);have:=zn6 out b;simp only[jK,jw];omega
theorem zkq(l:List zk):(zcz l).length<=l.length:=by
 have h1:=zvh (l.foldl zb5 []) [];have h2:=zqq l [];simp at h1 h2;unfold zcz;omega
def zjD(l:List zk):Nat->zk
 |0=>zqY
 |i+1=>l.getD i z9
theorem zvS{m:zD}(h:zcp m)(l:List zk)(hl:l.length<=100000000000)(i:Nat)(hi:i<l.length)(hr:OKB l[i]):R L Cs zio [.a (zf m),.c (.jc (zI l)),W i] []=some (.w (W (zer m (zjD l i) l[i])),[]):=by
 generalize hp:zjD l i=p;generalize hb:l[i]=b;rw[hb]at hr;obtain⟨bl,lo,hi',vlo,vhi,hold⟩:=b;rw[zUa ziG rfl];by_cases c1:bl<0
 ·have e:zer m p ⟨bl,lo,hi',vlo,vhi,hold⟩=7:=by simp[zer,c1]
  simp[zF,hi,hb,ze,c1,e,zf]
 by_cases c2:(m.jf.length:Int)<=bl
 ·have e:zer m p ⟨bl,lo,hi',vlo,vhi,hold⟩=7:=by simp[zer,c2]
  simp[zF,hi,hb,ze,c1,c2,e,zf]
 obtain⟨n,rfl⟩:=jC (show 0<=bl by omega);have hn:n<m.jf.length:=by omega
 have hL:=zA3 h hn;have hB:=zhv (h.kind _ (jb hn));have eL:z8 m (n:Int)=m.jf[n].len:=by simp[z8,hn]
 have eK:zaK m (n:Int)=m.jf[n].kind:=by simp[zaK,hn]
 generalize qG:m.jf[n]=ln at *;simp only[zf]at hL;have c1':¬((n:Int)<0):=by omega
 have yE:u0 m ⟨(n:Int),lo,hi',vlo,vhi,hold⟩->zer m p ⟨(n:Int),lo,hi',vlo,vhi,hold⟩=2:=fun ho=>by
  unfold zer;rw[if_neg (by simp;omega),if_pos ho]
 by_cases d1:lo<0
 ·have e:=yE (by simp only[u0,eL,eK];omega);simp[zF,hi,hb,ze,c1',c2,hn,qG,zf,zo,hL,hB,e,d1]
 by_cases d2:hi'<lo
 ·have e:=yE (by simp only[u0,eL,eK];omega);simp[zF,hi,hb,ze,c1',c2,hn,qG,zf,zo,hL,hB,e,d1,d2]
 by_cases d3:ln.len<hi'
 ·have e:=yE (by simp only[u0,eL,eK];omega);simp[zF,hi,hb,ze,c1',c2,hn,qG,zf,zo,hL,hB,e,d1,d2,d3]
 by_cases d4:vlo<0
 ·have e:=yE (by simp only[u0,eL,eK];omega);simp[zF,hi,hb,ze,c1',c2,hn,qG,zf,zo,hL,hB,e,d1,d2,d3,d4]
 by_cases d5:vhi<vlo
 ·have e:=yE (by simp only[u0,eL,eK];omega);simp[zF,hi,hb,ze,c1',c2,hn,qG,zf,zo,hL,hB,e,d1,d2,d3,d4,d5]
 by_cases d6:zeR ln.kind<vhi
 ·have e:=yE (by simp only[u0,eL,eK];omega);simp[zF,hi,hb,ze,c1',c2,hn,qG,zf,zo,hL,hB,e,d1,d2,d3,d4,d5,d6]
 by_cases d7:hold<0
 ·have e:=yE (by simp only[u0,eL,eK];omega);simp[zF,hi,hb,ze,c1',c2,hn,qG,zf,zo,hL,hB,e,d1,d2,d3,d4,d5,d6,d7]
 by_cases d8:ln.len<hold
 ·have e:=yE (by simp only[u0,eL,eK];omega);simp[zF,hi,hb,ze,c1',c2,hn,qG,zf,zo,hL,hB,e,d1,d2,d3,d4,d5,d6,d7,d8]
 have e0:¬u0 m ⟨(n:Int),lo,hi',vlo,vhi,hold⟩:=by simp only[u0,eL,eK];omega
 have hlw:IntKind.i64.wrap (lo-1)=lo-1:=zTd _ (by omega) (by have:lo<=9223372036854775807:=hr.lo2;omega);have e11:zmM p ⟨(n:Int),lo,hi',vlo,vhi,hold⟩->zer m p ⟨(n:Int),lo,hi',vlo,vhi,hold⟩=11:=fun ho=>by
  unfold zer;rw[if_neg (by simp;omega),if_neg e0,if_pos ho]
 have e00:¬zmM p ⟨(n:Int),lo,hi',vlo,vhi,hold⟩->zer m p ⟨(n:Int),lo,hi',vlo,vhi,hold⟩=0:=fun ho=>by
  unfold zer;rw[if_neg (by simp;omega),if_neg e0,if_neg ho]
 cases i with
 |zero =>
  simp only[zjD]at hp;have e:=e00 (by rw[<-hp];unfold zmM;simp<;>omega);simp[zF,hi,hb,ze,c1',c2,hn,qG,zf,zo,hL,hB,e,d1,d2,d3,d4,d5,d6,d7,d8]
 |succ i =>
  have hi2:i<l.length:=by omega
  have e1:l.getD i z9=l[i]:=by simp[hi2]
  simp only[zjD,e1]at hp;have hwi:IntKind.i64.wrap (i:Int)=(i:Int):=zTd _ (by omega) (by omega);have hg:(0:Int)<(i:Int)+1:=by omega
  have x1:(0:Int)<=(i:Int)+1:=by omega
  have x2:(i:Int)+1<(l.length:Int):=by omega
  have x3:((i:Int)+1).toNat=i+1:=by omega
  by_cases o1:(n:Int)<p.lane
  ·have e:=e11 (by unfold zmM;simp;omega);simp[zF,hi,hb,ze,c1',c2,hn,qG,zf,zo,hL,hB,e,d1,d2,d3,d4,d5,d6,d7,d8,hg,hi2,hp,hwi,x1,x2,x3,o1]
  by_cases o2:(n:Int)=p.lane
  ·have o2':p.lane=(n:Int):=o2.symm;by_cases o3:lo-1<=p.hi
   ·have e:=e11 (by unfold zmM;simp;omega);simp[zF,hi,hb,ze,c1',c2,hn,qG,zf,zo,hL,hB,e,d1,d2,d3,d4,d5,d6,d7,d8,hg,hi2,hp,hwi,x1,x2,x3,o2',o3,hlw]
   ·have e:=e00 (by unfold zmM;simp;omega);simp[zF,hi,hb,ze,c1',c2,hn,qG,zf,zo,hL,hB,e,d1,d2,d3,d4,d5,d6,d7,d8,hg,hi2,hp,hwi,x1,x2,x3,o2',o3,hlw]
  ·have e:=e00 (by unfold zmM;simp;omega);have b2:((n:Int)==p.lane)=false:=by simp[o2]
   simp[zF,hi,hb,ze,c1',c2,hn,qG,zf,zo,hL,hB,e,d1,d2,d3,d4,d5,d6,d7,d8,hg,hi2,hp,hwi,x1,x2,x3,o1,o2,b2]
theorem zwy(l:List zk)(i:Nat)(hi:i<l.length):zjD l (i+1)=l[i]:=by simp[zjD,hi]
theorem zr5{m:zD}(h:zcp m)(k:zci)(hk:k.jJ.length<=100000000000)(hok:∀b∈k.jJ,OKB b):∀(r:List zk) (i:Nat),k.jJ.drop i=r->i<=k.jJ.length ->
  ∃E',E'.get 5=some (.w (W (zls m (zjD k.jJ i) r)))/\Y L Cs zaX (some [5,7,2,3]) 3 [(5,.w (W 0)),(7,.w (W i)),(2,.w (Pt 0)),(3,.w (Pt 1))] [bx 5 (zf m),bx 6 (zG k),bxv 1 4 (zch k.ego)]=some (.exit 0,E',[bx 5 (zf m),bx 6 (zG k),bxv 1 4 (zch k.ego)]):=by
 intro r;induction r with
 |nil =>
  intro i hd hi;obtain rfl:=zUb hd hi;refine⟨[(65,.w (Bo false)),(5,.w (W 0)),(7,.w (W k.jJ.length)),(2,.w (Pt 0)),(3,.w (Pt 1))],by simp[Env.get,zls],?_⟩;rw[zj zaX.eq_1];simp[zG]
 |cons b r ih =>
  intro i hd hi;obtain⟨hil,hb,hd'⟩:=zL hd;have hw:=zB (i:=i) (by omega);have hc:=zvS h k.jJ hk i hil (hok _ (jb hil));rw[hb]at hc;have Ab:∀e,zer m (zjD k.jJ i) b=e->Y L Cs zaX (some [5,7,2,3]) 3 [(5,.w (W 0)),(7,.w (W i)),(2,.w (Pt 0)),(3,.w (Pt 1))] [bx 5 (zf m),bx 6 (zG k),bxv 1 4 (zch k.ego)]=Y L Cs zaX (some [5,7,2,3]) 3 [(5,.w (W e)),(7,.w (W (i+1:Nat))),(2,.w (Pt 0)),(3,.w (Pt 1))] [bx 5 (zf m),bx 6 (zG k),bxv 1 4 (zch k.ego)]:=by
   intro e he;rw[he]at hc;simp only[zf]at hc;rw[zj zaX.eq_1];simp[hil,zG,zf,hc,hw]
  by_cases hz:zer m (zjD k.jJ i) b=0
  ·obtain⟨E',h1,h2⟩:=ih (i+1) hd' hil;rw[zwy _ _ hil,hb]at h1;refine⟨E',by rw[h1,zls,if_neg (by simp[hz])],?_⟩;rw[Ab 0 hz,h2]
  ·refine⟨[(65,.w (Bo false)),(5,.w (W (zer m (zjD k.jJ i) b))),(7,.w (W (i+1:Nat))),(2,.w (Pt 0)),(3,.w (Pt 1))],by simp[Env.get,zls,hz],?_⟩;have hz':(zer m (zjD k.jJ i) b==0)=false:=by simp[hz]
   rw[Ab _ rfl,zj zaX.eq_1];generalize zer m (zjD k.jJ i) b=e at *;by_cases hlt:(i:Int)+1<k.jJ.length
   ·have AR:i+1<k.jJ.length:=by omega
    simp[zG,hz,hz',hlt,AR]
   ·have AR:¬i+1<k.jJ.length:=by omega
    simp[zG,hlt,AR]
theorem zxh{m:zD}(h:zcp m)(k:zci)(hk:k.jJ.length<=100000000000)(hok:∀b∈k.jJ,OKB b):R L Cs zkF [.a (zf m),.a (zG k)] []=some (.w (W (zdf m k)),[]):=by
 have hck:=h.yQ;obtain⟨E',hg,hl⟩:=zr5 h k hk hok k.jJ 0 rfl (jE _);simp only[zf,zG,ji,bx,bxv,zch,zjD]at hl hck hg;rw[zUa zk4 rfl];by_cases d1:k.tick<0
 ·have e:zdf m k=2:=by rw[zdf,if_pos (by unfold ziI;omega)]
  simp[zaj,zf,zG,hck,e,d1]
 by_cases d2:zsa<k.tick
 ·have e:zdf m k=2:=by rw[zdf,if_pos (by unfold ziI;omega)]
  simp[zaj,zf,zG,hck,e,d1,d2]
 by_cases d3:k.ego.slo<0
 ·have e:zdf m k=2:=by rw[zdf,if_pos (by unfold ziI;omega)]
  simp[zaj,zf,zG,hck,e,d1,d2,d3]
 by_cases d4:k.ego.shi<k.ego.slo
 ·have e:zdf m k=2:=by rw[zdf,if_pos (by unfold ziI;omega)]
  simp[zaj,zf,zG,hck,e,d1,d2,d3,d4]
 by_cases d5:zsa<k.ego.shi
 ·have e:zdf m k=2:=by rw[zdf,if_pos (by unfold ziI;omega)]
  simp[zaj,zf,zG,hck,e,d1,d2,d3,d4,d5]
 by_cases d6:k.ego.vlo<0
 ·have e:zdf m k=2:=by rw[zdf,if_pos (by unfold ziI;omega)]
  simp[zaj,zf,zG,hck,e,d1,d2,d3,d4,d5,d6]
 by_cases d7:k.ego.vhi<k.ego.vlo
 ·have e:zdf m k=2:=by rw[zdf,if_pos (by unfold ziI;omega)]
  simp[zaj,zf,zG,hck,e,d1,d2,d3,d4,d5,d6,d7]
 by_cases d8:2000<k.ego.vhi
 ·have e:zdf m k=2:=by rw[zdf,if_pos (by unfold ziI;omega)]
  simp[zaj,zf,zG,hck,e,d1,d2,d3,d4,d5,d6,d7,d8]
 have e:zdf m k=zls m zqY k.jJ:=by rw[zdf,if_neg (by unfold ziI;omega)]
 rw[e];simp[zaj,zf,zG,hck,hl,hg,d1,d2,d3,d4,d5,d6,d7,d8]
abbrev zmN:Sh:=.int .i64
def zk0(n:Int):Prop:=-9223372036854775808<=n/\n<=9223372036854775807
structure RB(b:zk):Prop where
 lane:zk0 b.lane
 lo:zk0 b.lo
 hi:zk0 b.hi
 vlo:zk0 b.vlo
 vhi:zk0 b.vhi
 hold:zk0 b.hold
theorem RB.ok{b:zk}(h:RB b):OKB b:=⟨h.lo.1,h.lo.2,h.hi.1,h.hi.2⟩
theorem zEC{m:zD}(h:zcp m):∀(r:List Int) (a:Int),zj2 m r->0<=a->0<=zmd m a r/\zmd m a r<=a+r.length*1000000
 |[],a,_,ha=>by simp[zmd];exact ha
 |x::r,a,hon,ha=>by
  have hle:=zcX h (hon x (by simp));have:=zEC h r (a+z8 m x) (fun y hy=>hon y (by simp[hy])) (by omega);simp only[zmd,jw];omega
theorem zxB:∀{rows:List (List Cl)},(∀r∈rows,zfo zmN r)->∃l,rows=zu l/\∀x∈l,zk0 x
 |[],_=>⟨[],rfl,by simp⟩
 |r::rows,h=>by
  have h1:=h r (jr ..);simp only[zfo]at h1;obtain⟨a,rfl,q⟩:=h1;obtain⟨l,rfl,hl⟩:=zxB fun x hx=>h x (jp _ hx)
  refine⟨a::l,rfl,fun x hx=>?_⟩;rcases js.1 hx with rfl|hx
  ·exact q
  ·exact hl x hx
def zpO(m:zD)(e:Ego)(len:Int):Int->List Int->List zk->List zk
 |_,[],l=>l
 |a,x::r,l=>zpO m e len (a+z8 m x) r (zhn x (e.shi-len-a) (e.slo-a) l)
theorem zya{m:zD}(h:zcp m)(l:List Int)(hl:l.length<=8)(hon:zj2 m l)(len:Int)(e:Ego)(he:-1000000000000000<=e.slo/\e.slo<=1000000000000000/\-1000000000000000<=e.shi/\e.shi<=1000000000000000)(hn:0<=len/\len<=20000):∀(r:List Int) (i:Nat) (bs:List zk) (a:Int),l.drop i=r->i<=l.length->(zW m 0 l).drop i=zW m a r->0<=a->a<=i*1000000->bs.length*2 ^ r.length<=100000000000 ->
  Y L Cs zc7 (some [3,13,1,2,9,11]) 3 [(3,.w (.c (.jc (zI bs)))),(13,.w (W i)),(1,.w (.c (.jc (zu l)))),(2,.w (W len)),(9,.w (Pt 1)),(11,.w (.c (.jc (zu (zW m 0 l)))))] [bx 5 (zf m),bx 4 (zch e),gb 6] =
    some (.exit 0,[(31,.w (Bo false)),(3,.w (.c (.jc (zI (zpO m e len a r bs))))),(13,.w (W l.length)),(1,.w (.c (.jc (zu l)))),(2,.w (W len)),(9,.w (Pt 1)),(11,.w (.c (.jc (zu (zW m 0 l)))))],[bx 5 (zf m),bx 4 (zch e),gb 6]):=by
 intro r;induction r with
 |nil =>
  intro i bs a hd hi hs ha1 ha2 hb;obtain rfl:=zUb hd hi;rw[zj zc7.eq_1];simp[zpO]
 |cons x r ih =>
  intro i bs a hd hi hs ha1 ha2 hb;obtain⟨hil,hx,hd'⟩:=zL hd;have hxm:=hon x (by rw[<-hx];exact jb _);have hle:=zcX h hxm;have hw:=zB (i:=i) (by omega);rw[zW]at hs;obtain⟨hsl,hsx,hs'⟩:=zL hs;have hw0:=kQ (e.shi-len);have hw1:=kQ (e.shi-len-a);have hw2:=kQ (e.slo-a);have hcl:=zod x (e.shi-len-a) (e.slo-a) bs;have hb2:(zhn x (e.shi-len-a) (e.slo-a) bs).length*2 ^ r.length<=100000000000:=by
   refine kd (jV _ hcl) ?_;simp only[jw,Nat.pow_succ]at hb;rw[qo 2,Nat.mul_assoc,qo 2];exact hb
  have hb1:bs.length<=100000000000:=kd (kY _ (Nat.two_pow_pos _)) hb;have A8:=zCR x (e.shi-len-a) (e.slo-a) ⟨by omega,by omega⟩ ⟨by omega,by omega⟩ bs hb1;simp only[zpO];rw[<-ih (i+1) (zhn x (e.shi-len-a) (e.slo-a) bs) (a+z8 m x) hd' hil hs' (by omega) (by omega) hb2];clear ih hb hb2 hcl;rw[zj zc7.eq_1];simp[hil,hx,hsl,hsx,hw,hw0,hw1,hw2,A8]
theorem zuX(m:zD)(e:Ego)(len:Int):∀(r:List Int) (a:Int) (bs:List zk),(zpO m e len a r bs).length<=bs.length*2 ^ r.length
 |[],_,bs=>by simp[zpO]
 |x::r,a,bs=>by
  have h1:=zuX m e len r (a+z8 m x) (zhn x (e.shi-len-a) (e.slo-a) bs);have h2:=jV (2 ^ r.length) (zod x (e.shi-len-a) (e.slo-a) bs);simp only[zpO,jw,Nat.pow_succ];refine kd h1 (kd h2 ?_);rw[qo 2 bs.length,Nat.mul_assoc,qo 2];exact jk _
theorem zPa{m:zD}{k:zci}(h:zdf m k=0):-1000000000000000<=k.ego.slo/\k.ego.slo<=1000000000000000/\-1000000000000000<=k.ego.shi/\k.ego.shi<=1000000000000000:=by
 unfold zdf at h;split at h
 ·cases h
 ·rename_i ho;unfold ziI zsa at ho;omega
theorem zEn(n k:Int)(hk:0<k):n % k=if n.tmod k<0 then n.tmod k+k else n.tmod k:=by
 have h1:=kG n (show k≠0 by omega);have h2:=kr n hk;have h:=@Int.tmod_eq_emod n k;have h3:(k.natAbs:Int)=k:=by omega
 split at h
 ·simp at h;rw[h];split<;>omega
 ·rw[h3]at h;rw[h];split<;>omega
theorem zEW(n k:Int)(hk:0<k)(hk2:k<=4000000000000000000):R L Cs zny [W n,W k] []=some (.w (W (n % k)),[]):=by
 rw[zUa znH rfl];have he:=zEn n k hk;have hb:=kr n hk;have hb0:=kG n (show k≠0 by omega);have hz:(k==0)=false:=beq_false_of_ne (by omega);have hz':k≠0:=by omega
 by_cases h:n.tmod k<0
 ·rw[if_pos h]at he;have e:IntKind.i64.wrap (n.tmod k+k)=n % k:=by rw[<-he];exact zTd _ (by omega) (by omega)
  simp[zeK,h,e,hz,hz']
 ·rw[if_neg h]at he;rw[he]at *;simp[zeK,h,hz,hz']
theorem zD0(n k:Int)(hk:0<k)(hk2:k<=4000000000000000000):R L Cs zEd [W n,W k] []=some (.w (W (n % k)),[]):=by
 rw[zUa zEh rfl];have he:=zEn n k hk;have hb:=kr n hk;have hb0:=kG n (show k≠0 by omega);have hz:(k==0)=false:=beq_false_of_ne (by omega);have hz':k≠0:=by omega
 by_cases h:n.tmod k<0
 ·rw[if_pos h]at he;have e:IntKind.i64.wrap (n.tmod k+k)=n % k:=by rw[<-he];exact zTd _ (by omega) (by omega)
  simp[zDP,h,e,hz,hz']
 ·rw[if_neg h]at he;rw[he]at *;simp[zDP,h,hz,hz']
theorem zDJ(a b:Int)(h:0<b):0<=a % b/\a % b<b:=⟨kG _ (by omega),kr _ h⟩
theorem zEV{m:zD}(h:zcp m){x:Int}(hx:0<=x/\x<m.jf.length):R L Cs zDZ [.a (zf m),W x] []=some (.w (W (z8 m x)),[]):=by
 obtain⟨n,rfl⟩:=jC hx.1;have hn:n<m.jf.length:=by omega
 have e:z8 m n=m.jf[n].len:=by simp[z8,hn]
 rw[e];exact zEQ h hn
theorem ztL{m:zD}(h:zcp m):∀(r:List zfn) (i:Nat) (out:List Int),m.jf.drop i=r->i<=m.jf.length->out.length<=i ->
  Y L Cs zbx (some [3,4,1]) 3 [(3,.w (.c (sl 2 1 (zu out)))),(4,.w (W i)),(1,.w (Pt 0))] [bx 5 (zf m),gb 1,some (own 1 (zu out))] =
    some (.exit 0,[(9,.w (Bo false)),(3,.w (.c (sl 2 1 (zu (out++zbK m i r))))),(4,.w (W m.jf.length)),(1,.w (Pt 0))],[bx 5 (zf m),gb 1,some (own 1 (zu (out++zbK m i r)))]):=by
 intro r;induction r with
 |nil =>
  intro i out hd hi ho;obtain rfl:=zUb hd hi;rw[zj zbx.eq_1];simp[zbK,zf]
 |cons l r ih =>
  intro i out hd hi ho;obtain⟨hil,hl,hd'⟩:=zL hd;have hn:=h.small.jf;have hw:=zB (i:=i) (by omega);have hb:=zpG m i (by omega) (fun l hl=>by have:=h.small.next l hl;omega);simp only[zf]at hb;have jU:(out.length+1)*8<=140737488355328:=by omega
  rw[zbK];by_cases he:zes i 0 m.jf=[]
  ·rw[if_pos he,show out++(i:Int)::zbK m (i+1) r=(out++[(i:Int)])++zbK m (i+1) r by simp,<-ih (i+1) (out++[(i:Int)]) hd' hil (by simp;omega),zj zbx.eq_1];rw[he]at hb;simp at hb;simp[hil,zf,hb,hw,jU,zg,zH]
  ·rw[if_neg he,<-ih (i+1) out hd' hil (by omega),zj zbx.eq_1];have hz:(((zes i 0 m.jf).length:Int)==0)=false:=by
    have:0<(zes i 0 m.jf).length:=ke.2 he;exact beq_false_of_ne (by omega)
   simp[hil,zf,hb,hw,he,hz,zg,zH]
theorem zzc{m:zD}(h:zcp m):R L Cs zjm [.a (zf m)] []=some (.w (.c (.jc (zu (zbK m 0 m.jf)))),[]):=by
 have hl:=ztL h m.jf 0 [] rfl (jE _) (jE _);simp only[zf,ji,jH,zay,sl,own,jB,zfq]at hl;rw[zUa zjy rfl];simp[zd0,zf,hl,zg]
theorem zv4{q:Nat}(h:q<2000000):IntKind.i64.wrap (q:Int)=(q:Int):=zTd _ (by omega) (by omega)
def zS(m:zD)(a:Int):List Int:=((m.jf[a.toNat]?).map zfn.next).getD []
def goR(m:zD):Nat->Int->Nat->List Int
 |0,_,_=>[]
 |f+1,a,n=>if(zS m a).length=0 then [] else(zS m a).getD (n % (zS m a).length) 0::goR m f ((zS m a).getD (n % (zS m a).length) 0) (n / (zS m a).length)
theorem zEZ(m:zD):∀(f:Nat) (a:Int) (n:Nat),(goR m f a n).length<=f
 |0,_,_=>by simp[goR]
 |f+1,a,n=>by
  unfold goR;split
  ·simp
  ·have:=zEZ m f ((zS m a).getD (n % (zS m a).length) 0) (n / (zS m a).length);rw[jw];omega
theorem zEL{m:zD}(h:zcp m):∀(f:Nat) (a:Int) (n:Nat) (out:List Int),out.length+f=8->0<=a->a<m.jf.length->n<2000000 ->
  ∃b t,Y L Cs zDH (some [6,1,7,2]) 3 [(6,.w (W a)),(1,.w (W n)),(7,.w (.c (sl 2 1 (zu out)))),(2,.w (Pt 0))] [bx 5 (zf m),gb 1,some (own 1 (zu out))] =
   some (.exit 0,[(41,.w (Bo false)),(6,.w (W b)),(1,.w (W t)),(7,.w (.c (sl 2 1 (zu (out++goR m f a n))))),(2,.w (Pt 0))],[bx 5 (zf m),gb 1,some (own 1 (zu (out++goR m f a n)))]):=by
 intro f;induction f with
 |zero =>
  intro a n out hf ha1 ha2 hn;obtain⟨j,rfl⟩:=jC ha1;have hj:j<m.jf.length:=by omega
  refine⟨(j:Int),(n:Int),?_⟩;rw[zj zDH.eq_1];have h8:¬((out.length:Int)<8):=by omega
  by_cases c:0<m.jf[j].next.length
  ·simp[goR,zf,zo,hj,c,h8]
  ·simp[goR,zf,zo,hj,c]
 |succ f ih =>
  intro a n out hf ha1 ha2 hn;obtain⟨j,rfl⟩:=jC ha1;have hj:j<m.jf.length:=by omega
  have h8:(out.length:Int)<8:=by omega
  have en:zS m (j:Int)=m.jf[j].next:=by simp[zS,hj]
  by_cases c:0<m.jf[j].next.length
  ·have hk:=h.small.next _ (jb hj);have hm:n % m.jf[j].next.length<m.jf[j].next.length:=qv _ c;have hq:n / m.jf[j].next.length<=n:=Nat.div_le_self _ _;have hval:=h.small.valid _ (jb hj) _ (jb hm);rw[goR,en,if_neg (by omega)];have eg:m.jf[j].next.getD (n % m.jf[j].next.length) 0=m.jf[j].next[n % m.jf[j].next.length]:=by simp[jo,hm]
   rw[eg];obtain⟨b,t,hy⟩:=ih (m.jf[j].next[n % m.jf[j].next.length]) (n / m.jf[j].next.length) (out++[m.jf[j].next[n % m.jf[j].next.length]]) (by simp;omega) hval.1 hval.2 (by omega);refine⟨b,t,?_⟩;rw[show out++(m.jf[j].next[n % m.jf[j].next.length]::goR m f m.jf[j].next[n % m.jf[j].next.length] (n / m.jf[j].next.length))=(out++[m.jf[j].next[n % m.jf[j].next.length]])++goR m f m.jf[j].next[n % m.jf[j].next.length] (n / m.jf[j].next.length) by simp,<-hy,zj zDH.eq_1];clear ih hy;have e1:(n:Int).tmod (m.jf[j].next.length:Int)=((n % m.jf[j].next.length:Nat):Int):=by
    rw[kN (by omega)];rfl
   have e2:(n:Int).tdiv (m.jf[j].next.length:Int)=((n / m.jf[j].next.length:Nat):Int):=by
    rw[qd (by omega)];rfl
   have e3:IntKind.i64.wrap ((n / m.jf[j].next.length:Nat):Int)=((n / m.jf[j].next.length:Nat):Int):=zv4 (by omega);have hz:((m.jf[j].next.length:Int)==0)=false:=beq_false_of_ne (by omega);have hz':(m.jf[j].next.length:Int)≠0:=by omega
   have hz'':m.jf[j].next≠[]:=ke.1 c;have jU:(out.length+1)*8<=140737488355328:=by omega
   generalize hq2:n / m.jf[j].next.length=q at *;generalize hm2:n % m.jf[j].next.length=p at *;generalize hln:m.jf[j]=ln at *;simp[zf,zo,hj,hln,c,h8,e1,e2,e3,hz,hz',hz'',hm,jU,zg,zH]
  ·refine⟨(j:Int),(n:Int),?_⟩;rw[goR,en,if_pos (by omega),zj zDH.eq_1];simp[zf,zo,hj,c]
def zsP(k:Nat)(r:Int):List Zon:=match k with
 |0=>[]
 |1=>[⟨[⟨0,28000,32000,r⟩,⟨1,18000,22000,2-2*r⟩],0⟩]
 |2=>[⟨[⟨0,28000,32000,r⟩,⟨1,18000,22000,2-2*r⟩],1⟩]
 |3=>[]
 |4=>[⟨[⟨0,25000,30000,1⟩,⟨1,20000,26000,0⟩,⟨2,0,5000,0⟩],0⟩]
 |5=>[⟨[⟨1,14000,16000,0⟩,⟨2,6000,10000,3⟩],0⟩]
 |_=>[⟨[⟨1,14000,18000,1⟩,⟨3,10000,14000,0⟩],if r=1 then 1 else 0⟩,⟨[⟨2,14000,21000,1⟩,⟨3,14500,23000,0⟩],if r=1 then 2 else 0⟩]
def sgP(o a b:Int):Sgn:=⟨o,[⟨12,[a]⟩,⟨5,[]⟩,⟨9,[b]⟩,⟨4,[]⟩]⟩
def ssP(k:Nat)(r o1 o2 o3:Int):List Sgn:=match k with
 |2=>[sgP o1 0 1]
 |6=>if r=1 then [sgP o2 1 3,sgP o3 2 3] else []
 |_=>[]
theorem zxQ(k:Nat)(hk:k<7)(r:Int):zO k r=zk8 (zsP k r):=by
 match k,hk with
 |0,_ |1,_ |2,_ |3,_ |4,_ |5,_ |6,_=>simp[zO,zsP,zk8,zdP,zfa,zkl,zeB,zdK]
theorem zzt(o a b:Int):zaY o a b=zeq (sgP o a b):=by simp[zaY,zeq,sgP,zje,zr6]
theorem zuN(k:Nat)(hk:k<7)(r o1 o2 o3:Int):zt k r o1 o2 o3=zjd (ssP k r o1 o2 o3):=by
 match k,hk with
 |0,_ |1,_ |3,_ |4,_ |5,_=>simp[zt,ssP,zjd]
 |2,_=>simp[zt,ssP,zjd,zzt]
 |6,_ =>
  simp only[zt,ssP];split<;>simp[zjd,zzt]
theorem zwk(o a b:Int):zvY (sgP o a b).kT:=⟨by simp[sgP],by simp[sgP],by simp[sgP],by simp[sgP]⟩
theorem zDs(k:Nat)(hk:k<7){lim r o1 o2 o3 v:Int}{ws:List zCP}(h:zp2 k lim r o1 o2 o3 v ws):Zd (zq k lim r o1 o2 o3 v ws) (zsP k r) (ssP k r o1 o2 o3) where
 z:=zxQ k hk r
 s:=zuN k hk r o1 o2 o3
 few:=by
  match k,hk with
  |0,_ |1,_ |2,_ |3,_ |4,_ |5,_ |6,_=>simp[zsP]
 sfew:=by
  match k,hk with
  |0,_ |1,_ |2,_ |3,_ |4,_ |5,_=>simp[ssP]
  |6,_=>simp only[ssP];split<;>simp
 sig:=by
  match k,hk with
  |0,_ |1,_ |2,_ |3,_ |4,_ |5,_=>simp[ssP,zsP]
  |6,_ =>
   rcases h.r with c|c<;>(subst c;simp[ssP,zsP])
 pfew:=by
  match k,hk with
  |0,_ |1,_ |2,_ |3,_ |4,_ |5,_ |6,_=>simp[zsP]
 ph:=by
  match k,hk with
  |0,_ |1,_ |3,_ |4,_ |5,_=>simp[ssP]
  |2,_=>simp[ssP];exact zwk _ _ _
  |6,_ =>
   simp only[ssP];split
   ·simp;exact⟨zwk _ _ _,zwk _ _ _⟩
   ·simp
theorem zDu(k:Nat)(hk:k<7)(r:Int):∀z∈zsP k r,(z.parts.map Prt.lane).Nodup:=by
 match k,hk with
 |0,_ |1,_ |2,_ |3,_ |4,_ |5,_ |6,_=>simp[zsP]
theorem zlX(ss:List Sgn)(lane tick:Int)(z:Zon):zff ss lane tick z=[]\/∃p,zjF z lane=some p/\zff ss lane tick z=[p.lo]:=by
 unfold zff;split
 ·exact .inl rfl
 ·split
  ·exact .inl rfl
  ·rename_i p hp;split
   ·exact .inl rfl
   ·exact .inr ⟨p,hp,rfl⟩
theorem zDl(k:Nat)(hk:k<7)(r o1 o2 o3 lane tick:Int):Asc ((zsP k r).flatMap (zff (ssP k r o1 o2 o3) lane tick)):=by
 have one:∀z,Asc ([z].flatMap (zff (ssP k r o1 o2 o3) lane tick)):=fun z=>by
  rcases zlX (ssP k r o1 o2 o3) lane tick z with h |⟨p,_,h⟩<;>simp[h]
 match k,hk with
 |0,_ |3,_=>simp[zsP]
 |1,_ |2,_ |4,_ |5,_=>exact one _
 |6,_ =>
  simp only[zsP,jW,List.flatMap_nil,ub];rcases zlX (ssP 6 r o1 o2 o3) lane tick ⟨[⟨1,14000,18000,1⟩,⟨3,10000,14000,0⟩],if r=1 then 1 else 0⟩with h |⟨p,hp,h⟩<;>rcases zlX (ssP 6 r o1 o2 o3) lane tick ⟨[⟨2,14000,21000,1⟩,⟨3,14500,23000,0⟩],if r=1 then 2 else 0⟩with h' |⟨p',hp',h'⟩
  ·simp[h,h']
  ·simp[h,h']
  ·simp[h,h']
  ·rw[h,h'];have e1:p.lane=lane/\(p.lo=14000/\p.lane=1\/p.lo=10000/\p.lane=3):=by
    have:=List.find?_some hp;have hm:=vR hp;simp at this hm;rcases hm with rfl|rfl<;>simp_all
   have e2:p'.lane=lane/\(p'.lo=14000/\p'.lane=2\/p'.lo=14500/\p'.lane=3):=by
    have:=List.find?_some hp';have hm:=vR hp';simp at this hm;rcases hm with rfl|rfl<;>simp_all
   simp;omega
structure zmX(m:zD):Prop where
 few:m.jf.length<=4
 nx:∀a,(zS m a).length<=2
 leaf:∀a,∀x∈zS m a,zS m x=[]
 up:∀a,∀x∈zS m a,a<x
 kn:∀a,∀x∈zS m a,zaK m x=zaK m a
theorem zyt{m:zD}{a:Int}(h:m.jf.length<=a.toNat):zS m a=[]:=by
 simp[zS,jG h]
theorem zCl(k:Nat)(hk:k<7)(lim r o1 o2 o3 v:Int)(ws:List zCP):zmX (zq k lim r o1 o2 o3 v ws):=by
 have key:∀a:Int,a.toNat=0\/a.toNat=1\/a.toNat=2\/a.toNat=3\/4<=a.toNat:=fun a=>by omega
 have few:(zq k lim r o1 o2 o3 v ws).jf.length<=4:=by
  match k,hk with
  |0,_ |1,_ |2,_ |3,_ |4,_ |5,_ |6,_=>simp[zq,zy]
 have out:∀a:Int,4<=a.toNat->zS (zq k lim r o1 o2 o3 v ws) a=[]:=fun a h=>zyt (by omega)
 refine⟨few,fun a=>?_,fun a=>?_,fun a=>?_,fun a=>?_⟩
 all_goals
  rcases key a with h|h|h|h|h
  case inr.inr.inr.inr=>simp[out a h]
 all_goals
  clear out few
  match k,hk with
  |0,_ |1,_ |2,_ |3,_ |4,_ |5,_ |6,_ =>
   first
    |(simp[zS,zq,zy,h,zQ];done)
    |(simp[zS,zq,zy,h,zQ];omega)
    |(simp[zS,zaK,zq,zy,h,zQ];done)
structure zmq(m:zD)(zs:List Zon)(ss:List Sgn):Prop where
 vG:zcp m
 one:zmp m
 BC:zmX m
 zd:Zd m zs ss
 asc:∀lane tick,Asc (zs.flatMap (zff ss lane tick))
 nd:∀z∈zs,(z.parts.map Prt.lane).Nodup
 pv:∀z∈zs,∀p∈z.parts,(0<=p.lane/\p.lane<m.jf.length)/\0<=p.lo/\p.lo<p.hi/\p.hi<=z8 m p.lane/\0<=p.v6/\p.v6<=100
theorem zDt(k:Nat)(hk:k<7){lim r o1 o2 o3 v:Int}{ws:List zCP}(h:zp2 k lim r o1 o2 o3 v ws):∀z∈zsP k r,∀p∈z.parts,(0<=p.lane/\p.lane<(zq k lim r o1 o2 o3 v ws).jf.length)/\0<=p.lo/\p.lo<p.hi/\p.hi<=z8 (zq k lim r o1 o2 o3 v ws) p.lane/\0<=p.v6/\p.v6<=100:=by
 have hr:=h.r
 match k,hk with
 |0,_ |3,_=>simp[zsP]
 |1,_ |2,_ |4,_ |5,_ |6,_=>simp[zsP,zq,zy,z8,zQ];try omega
theorem zCE(k:Nat)(hk:k<7){lim r o1 o2 o3 v:Int}{ws:List zCP}(h:zp2 k lim r o1 o2 o3 v ws):zmq (zq k lim r o1 o2 o3 v ws) (zsP k r) (ssP k r o1 o2 o3):=by
 refine⟨?_,?_,zCl k hk _ _ _ _ _ _ _,zDs k hk h,zDl k hk r o1 o2 o3,zDu k hk r,zDt k hk h⟩
 ·exact zTy k hk h
 ·match k,hk with
  |0,_=>exact zAd _ _ _ _ _ _ _
  |1,_=>exact zAc _ _ _ _ _ _ _
  |2,_=>exact zAb _ _ _ _ _ _ _
  |3,_=>exact zAa _ _ _ _ _ _ _
  |4,_=>exact zz9 _ _ _ _ _ _ _
  |5,_=>exact zz8 _ _ _ _ _ _ _
  |6,_=>exact zz7 _ _ _ _ _ _ _
theorem zA5(n:Int):∃k lim r o1 o2 o3 v ws,k<7/\zp2 k lim r o1 o2 o3 v ws/\R L Cs zY [W n] []=some (.w (.a (zf (zq k lim r o1 o2 o3 v ws))),[]):=by
 have hN:0<=n % 16777216/\n % 16777216<16777216:=by omega
 have h7:0<=(n % 16777216).tmod 7/\(n % 16777216).tmod 7<7:=by
  rw[kN hN.1];omega
 have hr:=zE _ 28 2 hN (by decide) (by decide);have nu:=zBA n;exact⟨((n % 16777216).tmod 7).toNat,_,_,_,_,_,_,_,by omega,nu _ (by omega),zTw _ n (by omega) (by omega)⟩
def zgH(m:zD)(l:List Int)(act:Int):Int:=max (-zd4 (zaK m (l.getD 0 0))) (min act (zif (zaK m (l.getD 0 0))))
def zcD(m:zD)(l:List Int)(act v:Int):Int:=max 0 (min (v+zgH m l act) (zeR (zaK m (l.getD 0 0))))
def zaN(m:zD)(l:List Int)(e:Ego)(act:Int):Ego:=⟨e.slo+zcD m l act e.vlo,e.shi+zcD m l act e.vhi,zcD m l act e.vlo,zcD m l act e.vhi⟩
theorem zu9{m:zD}(h:zcp m){x:Int}(hx:0<=x/\x<m.jf.length):zaK m x=1\/zaK m x=2\/zaK m x=3:=by
 obtain⟨n,rfl⟩:=jC hx.1;have hn:n<m.jf.length:=by omega
 have:=h.kind _ (jb hn);simpa [zaK,hn]using this
structure znd(e:Ego):Prop where
 s:0<=e.slo/\e.slo<=e.shi/\e.shi<=1099511627776
 v:0<=e.vlo/\e.vlo<=e.vhi/\e.vhi<=2000
structure VB(m:zD)(b:zk):Prop where
 lane:0<=b.lane/\b.lane<m.jf.length
 lo:0<=b.lo
 le:b.lo<=b.hi
 hi:b.hi<=z8 m b.lane
 vlo:0<=b.vlo
 vle:b.vlo<=b.vhi
 vhi:b.vhi<=zeR (zaK m b.lane)
 hold:0<=b.hold/\b.hold<=z8 m b.lane
def zb4(m:zD)(r:List Int)(i:Nat):Int:=(zW m 0 r).getD i 0
structure ziO(m:zD)(r:List Int)(bar:Int):Prop where
 vG:zcp m
 len:r.length<=8
 on:zj2 m r
 bar:-4000000000000<=bar/\bar<=4000000000000
theorem zqm{m:zD}(h:zcp m):∀(r:List Int),zj2 m r->∀(a:Int) (i:Nat),0<=a->i<r.length->a<=(zW m a r).getD i 0/\(zW m a r).getD i 0<=a+1000000*i
 |[],_,a,i,_,hi=>by simp at hi
 |x::r,hon,a,0,ha,_=>by simp[zW]
 |x::r,hon,a,i+1,ha,hi=>by
  have hx:=zcX h (hon x (jr ..));have:=zqm h r (fun y hy=>hon y (jp _ hy)) (a+z8 m x) i (by omega) (by simpa using hi);simp only[zW,List.getD_cons_succ];omega
theorem zmA{m:zD}{r:List Int}{bar:Int}(h:ziO m r bar){i:Nat}(hi:i<r.length):0<=zb4 m r i/\zb4 m r i<=8000000:=by
 have:=zqm h.vG r h.on 0 i (jQ _) hi;have h8:=h.len;unfold zb4;omega
def zDT(m:zD)(n:Int):List Int :=
 if zbK m 0 m.jf=[] then [] else
 (zbK m 0 m.jf).getD ((n % 1048576).toNat % (zbK m 0 m.jf).length) 0::goR m 7 ((zbK m 0 m.jf).getD ((n % 1048576).toNat % (zbK m 0 m.jf).length) 0) ((n % 1048576).toNat / (zbK m 0 m.jf).length)
theorem zEm(m:zD)(n:Int):(zDT m n).length<=8:=by
 unfold zDT;split
 ·simp
 ·rw[jw];have:=zEZ m 7 ((zbK m 0 m.jf).getD ((n % 1048576).toNat % (zbK m 0 m.jf).length) 0) ((n % 1048576).toNat / (zbK m 0 m.jf).length);omega
theorem zFk{m:zD}(h:zcp m):∀(f:Nat) (a:Int) (n:Nat),0<=a/\a<m.jf.length->zj2 m (goR m f a n)
 |0,_,_,_=>by intro x hx;cases hx
 |f+1,a,n,ha=>by
  obtain⟨j,rfl⟩:=jC ha.1;have hj:j<m.jf.length:=by omega
  have en:zS m (j:Int)=m.jf[j].next:=by simp[zS,hj]
  unfold goR;rw[en];split
  ·intro x hx;cases hx
  ·rename_i c;have hm:n % m.jf[j].next.length<m.jf[j].next.length:=qv _ (by omega);have eg:m.jf[j].next.getD (n % m.jf[j].next.length) 0=m.jf[j].next[n % m.jf[j].next.length]:=by simp[jo,hm]
   have hval:=h.small.valid _ (jb hj) _ (jb hm);rw[eg];intro x hx;rcases js.1 hx with rfl|hx
   ·exact hval
   ·exact zFk h f _ _ hval x hx
theorem zFf{m:zD}(hne:zbK m 0 m.jf≠[])(N:Nat):0<=(zbK m 0 m.jf).getD (N % (zbK m 0 m.jf).length) 0/\(zbK m 0 m.jf).getD (N % (zbK m 0 m.jf).length) 0<m.jf.length:=by
 have h0:0<(zbK m 0 m.jf).length:=ke.2 hne;have hm:N % (zbK m 0 m.jf).length<(zbK m 0 m.jf).length:=qv _ h0;have eg:(zbK m 0 m.jf).getD (N % (zbK m 0 m.jf).length) 0=(zbK m 0 m.jf)[N % (zbK m 0 m.jf).length]:=by simp[jo,hm]
 rw[eg];exact zp8 m m.jf 0 (by omega) _ (jb hm)
theorem zEy{m:zD}(h:zcp m)(n:Int):zj2 m (zDT m n):=by
 unfold zDT;split
 ·intro x hx;cases hx
 ·rename_i hne;have hs:=zFf hne (n % 1048576).toNat;intro x hx;rcases js.1 hx with rfl|hx
  ·exact hs
  ·exact zFk h _ _ _ hs x hx
theorem zE3{m:zD}(h:zcp m)(n:Int):R L Cs zEb [.a (zf m),W n] []=some (.w (.c (.jc (zu (zDT m n)))),[]):=by
 have ho:=zzc h;have hm:=zEW n 1048576 (by omega) (by omega);have hr:=zDJ n 1048576 (by omega);have hlen:=zlK m m.jf 0;have hsm:=h.small.jf;unfold zDT;rw[zUa zEf rfl];by_cases c:zbK m 0 m.jf=[]
 ·rw[c]at ho;simp only[zf,zay]at ho ⊢;simp[zDO,ho,c,zg]
 ·have hs:=zFf c (n % 1048576).toNat;rw[if_neg c];generalize n % 1048576=N at *;obtain⟨N,rfl⟩:=jC hr.1;generalize zbK m 0 m.jf=l at *;have h0:0<l.length:=ke.2 c;have hml:N % l.length<l.length:=qv _ h0;have hq:N / l.length<=N:=Nat.div_le_self _ _;simp only[uX]at *;have eg:l.getD (N % l.length) 0=l[N % l.length]:=by simp[jo,hml]
  rw[eg]at hs ⊢;obtain⟨b,t,hy⟩:=zEL h 7 l[N % l.length] (N / l.length) [l[N % l.length]] rfl hs.1 hs.2 (by omega);have e1:(N:Int).tmod (l.length:Int)=((N % l.length:Nat):Int):=by
   rw[kN (by omega)];rfl
  have e2:(N:Int).tdiv (l.length:Int)=((N / l.length:Nat):Int):=by
   rw[qd (by omega)];rfl
  have e3:IntKind.i64.wrap ((N / l.length:Nat):Int)=((N / l.length:Nat):Int):=zv4 (by omega);have hz:((l.length:Int)==0)=false:=beq_false_of_ne (by omega);have hz':(l.length:Int)≠0:=by omega
  generalize hq2:N / l.length=q at *;generalize hm2:N % l.length=p at *;simp only[zf,sl,own,zaP,zay,zfq,jw,jB]at ho hy ⊢;simp[zDO,ho,hm,c,hz,hz',e1,e2,e3,hml,hy,zg]
theorem zE6{m:zD}(h:zcp m)(n:Int):∀(f i:Nat),i+f=4 ->
  (Y L Cs zDD (some [1,2,5]) 2 [(1,.w (W n)),(2,.w (Pt 0)),(5,.w (W i))] [bx 5 (zf m),gb 1] =
   some (.exit 0,[(8,.w (Bo false)),(2,.w (Pt 0)),(1,.w (W n)),(5,.w (W 4))],[bx 5 (zf m),gb 1])) \/
  (∃k,zaK m ((zDT m k).headD 0)=1/\Y L Cs zDD (some [1,2,5]) 2 [(1,.w (W n)),(2,.w (Pt 0)),(5,.w (W i))] [bx 5 (zf m),gb 1] =
   some (.ret,[(4,.w (.c (.jc (zu (zDT m k)))))],[bx 5 (zf m),gb 1])):=by
 intro f;induction f with
 |zero =>
  intro i hi;obtain rfl:i=4:=by omega
  left;rw[zj zDD.eq_1];simp
 |succ f ih =>
  intro i hi;have hi4:(i:Int)<4:=by omega
  have hw:=zB (i:=i) (by omega);have hm:=zEW n 1048576 (by omega) (by omega);have hr:=zDJ n 1048576 (by omega);have hw2:=kQ (n % 1048576+i);have hR:=zE3 h (n % 1048576+i);have hon:=zEy h (n % 1048576+i);rw[zj zDD.eq_1];have ih':=ih (i+1) (by omega);have hk:∀q,q=zDT m (n % 1048576+i)->∃k,q=zDT m k:=fun q hq=>⟨_,hq⟩
  generalize hq:zDT m (n % 1048576+i)=q at *;cases q with
  |nil =>
   rcases ih' with ih' |⟨k,hkd,ih'⟩
   ·left;rw[<-ih'];simp only[zf,zay]at hR ⊢;simp[hi4,hw,hm,hw2,hR]
   ·right;refine⟨k,hkd,?_⟩;rw[<-ih'];simp only[zf,zay]at hR ⊢;simp[hi4,hw,hm,hw2,hR]
  |cons x r =>
   have hx:=hon x (by simp);obtain⟨j,rfl⟩:=jC hx.1;have hj:j<m.jf.length:=by omega
   by_cases c:m.jf[j].kind=1
   ·right;refine⟨n % 1048576+i,by rw[hq];simp[zaK,hj,c],?_⟩;rw[hq];simp only[zf,zaP]at hR ⊢;simp[hi4,hw,hm,hw2,hR,hj,zo,c]
   ·have cb:(m.jf[j].kind==1)=false:=by simp[c]
    rcases ih' with ih' |⟨k,hkd,ih'⟩
    ·left;rw[<-ih'];simp only[zf,zaP]at hR ⊢;simp[hi4,hw,hm,hw2,hR,hj,zo,c,cb]
    ·right;refine⟨k,hkd,?_⟩;rw[<-ih'];simp only[zf,zaP]at hR ⊢;simp[hi4,hw,hm,hw2,hR,hj,zo,c,cb]
theorem zT8{m:zD}(h:zcp m)(n:Int):∃k,(k=0\/zaK m ((zDT m k).headD 0)=1)/\R L Cs zD3 [.a (zf m),W n] []=some (.w (.c (.jc (zu (zDT m k)))),[]):=by
 rw[zUa zD5 rfl];rcases zE6 h n 4 0 rfl with hl |⟨k,hkd,hl⟩
 ·refine⟨0,.inl rfl,?_⟩;have hR:=zE3 h 0;simp only[zf,ji]at hl hR ⊢;simp[zDK,hl,hR]
 ·refine⟨k,.inr hkd,?_⟩;simp only[zf,ji]at hl ⊢;simp[zDK,hl]
theorem zES{m:zD}(h:zcp m)(n:Int):∃k,R L Cs zD3 [.a (zf m),W n] []=some (.w (.c (.jc (zu (zDT m k)))),[]):=by
 obtain⟨k,_,h⟩:=zT8 h n;exact⟨k,h⟩
def inB(p q:zk):Bool:=decide (p.lane=q.lane)&&decide (q.lo<=p.lo)&&decide (p.hi<=q.hi)&&decide (q.vlo<=p.vlo)&&decide (p.vhi<=q.vhi)&&(decide (q.hold=0)||decide (p.hold≠0)&&decide (p.hold<=q.hold))
theorem zZL{α:Type}(f:α->Bool):∀(l:List α) (s:Bool),l.foldl (fun s q=>s||f q) s=(s||l.any f)
 |[],s=>by simp
 |x::l,s=>by rw[jK,zZL f l];simp[vo]
theorem zZm(a b:zci)(hb:b.jJ.length<=100000000000)(p:zk)(i:Int) :
  Y L Cs zWA (some [9,10,7,2,3,8]) 5 [(9,.w (Bo false)),(10,.w (W (0:Nat))),(7,.w (W i)),(2,.w (Pt 0)),(3,.w (Pt 1)),(8,.w (Pt 4))] [bx 6 (zG a),bx 6 (zG b),bxv 1 4 (zch a.ego),bxv 1 4 (zch b.ego),bxv 1 6 (ze p)] =
    some (.exit 2,[(65,.w (Bo false)),(9,.w (Bo (b.jJ.any (inB p)))),(10,.w (W b.jJ.length)),(7,.w (W i)),(2,.w (Pt 0)),(3,.w (Pt 1)),(8,.w (Pt 4))],[bx 6 (zG a),bx 6 (zG b),bxv 1 4 (zch a.ego),bxv 1 4 (zch b.ego),bxv 1 6 (ze p)]):=by
 have q:=zPH (L:=L) (Cs:=Cs) (b:=zWA) (live:=some [9,10,7,2,3,8]) (n0:=5) b.jJ
  (fun k s=>[(9,.w (Bo s)),(10,.w (W k)),(7,.w (W i)),(2,.w (Pt 0)),(3,.w (Pt 1)),(8,.w (Pt 4))]) (fun _ _=>[bx 6 (zG a),bx 6 (zG b),bxv 1 4 (zch a.ego),bxv 1 4 (zch b.ego),bxv 1 6 (ze p)]) (fun _ _=>True) (fun _ s q=>s||inB p q)
  (fun s=>(.exit 2,[(65,.w (Bo false)),(9,.w (Bo s)),(10,.w (W b.jJ.length)),(7,.w (W i)),(2,.w (Pt 0)),(3,.w (Pt 1)),(8,.w (Pt 4))],[bx 6 (zG a),bx 6 (zG b),bxv 1 4 (zch a.ego),bxv 1 4 (zch b.ego),bxv 1 6 (ze p)])) ?_ ?_ (s0:=false) trivial
 ·rw[zMd,zZL,v9]at q;exact q
 ·intro k hk s _;refine⟨trivial,?_⟩;have hww:=zB (i:=k) (by omega);simp only[zG,zch,ze];rw[zj zWA.eq_1];generalize hwk:b.jJ[k]=w;obtain⟨wl,wlo,whi,wv,wV,wh⟩:=w;obtain⟨pl,plo,phi,pv,pV,ph⟩:=p;cases s with
  |true=>simp[hk,hwk,hww,ze,zg]
  |false =>
   simp only[inB];by_cases c1:pl=wl
   ·subst c1;by_cases c2:wlo<=plo
    ·by_cases c3:phi<=whi
     ·by_cases c4:wv<=pv
      ·by_cases c5:pV<=wV
       ·by_cases c6:wh=0
        ·simp[hk,hwk,hww,ze,zg,c2,c3,c4,c5,c6]
        ·have b6:(wh==0)=false:=by simp[c6]
         by_cases c7:ph=0
         ·simp[hk,hwk,hww,ze,zg,c2,c3,c4,c5,c6,b6,c7]
         ·have b7:(ph==0)=false:=by simp[c7]
          have b7':(ph !=0)=true:=by simp[c7]
          by_cases c8:ph<=wh
          ·simp[hk,hwk,hww,ze,zg,c2,c3,c4,c5,c6,b6,c7,b7,b7',c8]
          ·simp[hk,hwk,hww,ze,zg,c2,c3,c4,c5,c6,b6,c7,b7,b7',c8]
       ·simp[hk,hwk,hww,ze,zg,c2,c3,c4,c5]
      ·simp[hk,hwk,hww,ze,zg,c2,c3,c4]
     ·simp[hk,hwk,hww,ze,zg,c2,c3]
    ·simp[hk,hwk,hww,ze,zg,c2]
   ·have b1:(pl==wl)=false:=by simp[c1]
    simp[hk,hwk,hww,ze,zg,c1,b1]
 ·intro s _;simp only[zG,zch,ze];rw[zj zWA.eq_1];simp
theorem zZl(a b:zci)(ha:a.jJ.length<=100000000000)(hb:b.jJ.length<=100000000000):∀(r:List zk) (i:Nat),a.jJ.drop i=r->i<=a.jJ.length ->
  ∃M',Y L Cs z2P (some [7,2,3]) 4 [(7,.w (W i)),(2,.w (Pt 0)),(3,.w (Pt 1))] [bx 6 (zG a),bx 6 (zG b),bxv 1 4 (zch a.ego),bxv 1 4 (zch b.ego)] =
   if r.all (fun p=>b.jJ.any (inB p)) then some (.exit 0,[(53,.w (Bo false)),(7,.w (W a.jJ.length)),(2,.w (Pt 0)),(3,.w (Pt 1))],[bx 6 (zG a),bx 6 (zG b),bxv 1 4 (zch a.ego),bxv 1 4 (zch b.ego)])
   else some (.ret,[(4,.w (Bo false))],M'):=by
 intro r;induction r with
 |nil =>
  intro i hd hi;obtain rfl:=zUb hd hi;refine⟨[],?_⟩;simp only[zG,zch];rw[zj z2P.eq_1];simp
 |cons p r ih =>
  intro i hd hi;obtain⟨hil,hp,hd'⟩:=zL hd;have hw:=zB (i:=i) (by omega);have h1:=zZm a b hb p i;obtain⟨M',ih'⟩:=ih (i+1) hd' hil;rw[qO];generalize b.jJ.any (inB p)=s at *;generalize r.all (fun p=>b.jJ.any (inB p))=t at *;simp only[zG,zch,ze,ji]at h1 ih' ⊢;cases s with
  |true =>
   refine⟨M',?_⟩;rw[qy,<-ih',zj z2P.eq_1];simp[hil,hp,hw,ze,zg,h1]
  |false =>
   refine⟨[bx 6 (zG a),bx 6 (zG b),bxv 1 4 (zch a.ego),bxv 1 4 (zch b.ego),bxv 1 6 (ze p)],?_⟩;rw[zj z2P.eq_1];simp[hil,hp,hw,ze,zG,zg,h1]
def z1D(x y:Ego):Bool:=decide (x.slo<y.slo)||decide (y.shi<x.shi)||decide (x.vlo<y.vlo)||decide (y.vhi<x.vhi)
def zXR(a b:zci):Bool:=decide (a.tick=b.tick) && !z1D a.ego b.ego&&a.jJ.all (fun p=>b.jJ.any (inB p))
theorem zYb(a b:zci)(ha:a.jJ.length<=100000000000)(hb:b.jJ.length<=100000000000):R L Cs zXL [.a (zG a),.a (zG b)] []=some (.w (Bo (zXR a b)),[]):=by
 obtain⟨M',h2⟩:=zZl a b ha hb a.jJ 0 rfl (jE _);rw[zUa zXN rfl];simp only[zXR,z1D];generalize a.jJ.all (fun p=>b.jJ.any (inB p))=t at *;simp only[zG,zch,ji]at h2 ⊢;by_cases c1:a.tick=b.tick
 ·rw[c1]at h2 ⊢;by_cases c2:a.ego.slo<b.ego.slo
  ·simp[zWt,zg,c2]
  ·by_cases c3:b.ego.shi<a.ego.shi
   ·simp[zWt,zg,c2,c3]
   ·by_cases c4:a.ego.vlo<b.ego.vlo
    ·simp[zWt,zg,c2,c3,c4]
    ·by_cases c5:b.ego.vhi<a.ego.vhi
     ·simp[zWt,zg,c2,c3,c4,c5]
     ·cases t with
      |true=>simp[zWt,zg,c2,c3,c4,c5,h2]
      |false=>simp[zWt,zg,c2,c3,c4,c5,h2]
 ·have b1:(a.tick==b.tick)=false:=by simp[c1]
  have b2:(a.tick !=b.tick)=true:=by simp[c1]
  simp[zWt,zg,c1,b1,b2]
def z8r(ln x:Int)(b:zk):Bool:=decide (b.lane=ln)&&decide (b.lo<=x)&&decide (x<=b.hi)
def Ord(a b:zk):Prop:=a.lane<b.lane\/a.lane=b.lane/\a.lo<=b.lo
def z9U(a b:zk):Prop:=a.lane<b.lane\/a.lane=b.lane/\a.hi+1<b.lo
theorem Ord.trans{a b c:zk}(h:Ord a b)(g:Ord b c):Ord a c:=by unfold Ord at *;omega
theorem not_lt{x s:zk}(h:ltB x s=false):Ord s x:=by
 unfold ltB at h;unfold Ord;simp at h;omega
theorem Zba{x s:zk}(h:ltB x s=true):Ord x s:=by
 unfold ltB at h;unfold Ord;simp at h;omega
theorem z9O(x:zk)(s:List zk):∀a,a<=s.length->(∀j,zev x s a<=j->j<a->ltB x (s.getD j z9)=true)/\(zev x s a=0\/ltB x (s.getD (zev x s a-1) z9)=false)
 |0,_=>⟨fun j h1 h2=>absurd h2 (Nat.not_lt_zero _),.inl rfl⟩
 |a+1,h=>by
  have ih:=z9O x s a (by omega);unfold zev;split
  ·rename_i hc;refine⟨fun j h1 h2=>?_,ih.2⟩;by_cases e:j=a
   ·subst e;exact hc
   ·exact ih.1 j h1 (by omega)
  ·rename_i hc;refine⟨fun j h1 h2=>by omega,.inr ?_⟩;simpa using hc
theorem Zay{s:List zk}{x:zk}(hs:s.Pairwise Ord):(zfK s x).Pairwise Ord:=by
 have hk:=zl0 x s s.length;obtain⟨h1,h2⟩:=z9O x s s.length (jk _);unfold zfK;generalize zev x s s.length=k at *;rw[jD,jS];have hsp:(s.take k++s.drop k).Pairwise Ord:=by rw[jO];exact hs
 rw[jD]at hsp;have Ca:∀b∈s.drop k,Ord x b:=by
  intro b hb;obtain⟨j,hj,rfl⟩:=List.mem_iff_getElem.1 hb;rw[yg]at hj;have:=h1 (k+j) (by omega) (by omega);rw[List.getElem_drop];rw[jo,ju (by omega)]at this;exact Zba this
 have Bz:∀a∈s.take k,Ord a x:=by
  intro a ha;rcases h2 with h2|h2
  ·subst h2;simp at ha
  ·have hk0:0<k:=by
    rcases uF k with e|e
    ·subst e;simp at ha
    ·exact e
   have vq:k-1<s.length:=by omega
   rw[jo,ju vq]at h2;have hl:=not_lt h2;obtain⟨j,hj,rfl⟩:=List.mem_iff_getElem.1 ha;rw[List.length_take]at hj;rw[List.getElem_take];by_cases e:j=k-1
   ·subst e;exact hl
   ·exact(qA.1 hs j (k-1) (by omega) (by omega) (by omega)).trans hl
 refine⟨hsp.1,⟨Ca,hsp.2.1⟩,?_⟩;intro a ha b hb;rcases js.1 hb with rfl|hb
 ·exact Bz a ha
 ·exact(Bz a ha).trans (Ca b hb)
theorem z9C:∀(l s:List zk),s.Pairwise Ord->(l.foldl zb5 s).Pairwise Ord
 |[],s,h=>h
 |x::l,s,h=>by
  rw[jK];refine z9C l _ ?_;unfold zb5;split
  ·exact h
  ·exact Zay h
theorem Zl(ln y:Int):∀(l s:List zk),(∀b∈l,b.lo<=b.hi)->(l.foldl zb5 s).any (z8r ln y)=(l.any (z8r ln y)||s.any (z8r ln y))
 |[],s,_=>by simp
 |x::l,s,h=>by
  rw[jK,Zl ln y l _ fun b hb=>h b (jp _ hb)];have hx:=h x jr;have e:(zb5 s x).any (z8r ln y)=(z8r ln y x||s.any (z8r ln y)):=by
   unfold zb5;rw[if_neg (by unfold bad;simp;omega)];unfold zfK;rw[uC,qN];have:=jO (zev x s s.length) s;generalize zev x s s.length=k at *;have e2:s.any (z8r ln y)=((s.take k).any (z8r ln y)||(s.drop k).any (z8r ln y)):=by
    rw[<-uC,this]
   rw[e2];cases (s.take k).any (z8r ln y)<;>cases z8r ln y x<;>simp
  rw[e,qN];cases l.any (z8r ln y)<;>cases z8r ln y x<;>simp
theorem z9w(b:zk):zcP [] b=[b]:=by simp[zcP]
theorem z9l(o:List zk)(a b:zk):zcP (o++[a]) b=if far a b=false then o++[glue a b] else o++[a]++[b]:=by
 unfold zcP;have e:(o++[a]).getD ((o++[a]).length-1) z9=a:=by simp[jo]
 rw[e];by_cases c:far a b=false
 ·rw[if_pos ⟨by simp,c⟩,if_pos c];simp
 ·rw[if_neg (fun h=>c h.2),if_neg c]
structure Sep(out rest:List zk):Prop where
 apart:out.Pairwise z9U
 ne:∀a∈out,a.lo<=a.hi
 bef:∀a∈out,∀b∈rest,Ord a b
theorem Zaf(ln y:Int){out rest:List zk}{b:zk}(h:Sep out (b::rest))(hs:(b::rest).Pairwise Ord)(hb:b.lo<=b.hi):Sep (zcP out b) rest/\(zcP out b).any (z8r ln y)=(out.any (z8r ln y)||z8r ln y b):=by
 rw[jS]at hs;rcases ks out with rfl |⟨o,a,rfl⟩
 ·rw[z9w];exact⟨⟨by simp,by simpa using hb,by simpa using hs.1⟩,by simp⟩
 ·rw[ky]at *;rw[z9l];obtain⟨h1,h2,h3⟩:=h;rw[jD]at h1;have ha:=h2 a (by simp);have hab:=h3 a (by simp) b jr;have hoa:∀c∈o,z9U c a:=fun c hc=>h1.2.2 c hc a (by simp)
  split
  ·rename_i c;have hc:a.lane=b.lane/\b.lo<=a.hi+1:=by
    unfold far at c;simp at c;refine⟨c.1,?_⟩;have:=c.2;by_cases q:a.hi<b.lo
    ·have:=this q;omega
    ·omega
   refine⟨⟨?_,?_,?_⟩,?_⟩
   ·rw[jD];refine⟨h1.1,by simp,?_⟩;intro c hc2 d hd;simp at hd;subst hd;have:=hoa c hc2;unfold z9U glue at *;dsimp only;omega
   ·intro d hd;rcases jm.1 hd with hd|hd
    ·exact h2 d (by simp[hd])
    ·simp at hd;subst hd;unfold glue;dsimp only;omega
   ·intro d hd e he;rcases jm.1 hd with hd|hd
    ·exact h3 d (by simp[hd]) e (jp _ he)
    ·simp at hd;subst hd;have:=h3 a (by simp) e (jp _ he);unfold Ord glue at *;dsimp only;omega
   ·rw[uC,uC,qN,List.any_nil,qN,List.any_nil,Bool.or_false,Bool.or_false,vo]
    congr 1
    unfold z8r glue Ord at *;dsimp only;rw[Bool.eq_iff_iff];simp;omega
  ·rename_i c;have hc:a.lane≠b.lane\/a.hi+1<b.lo:=by
    unfold far at c;simp at c;by_cases q:a.lane=b.lane
    ·have:=c q;right;omega
    ·exact .inl q
   have habp:z9U a b:=by unfold z9U Ord at *;omega
   refine⟨⟨?_,?_,?_⟩,?_⟩
   ·rw[jD];refine⟨jD.2 h1,by simp,?_⟩;intro d hd e he;simp at he;subst he;rcases jm.1 hd with hd|hd
    ·have:=hoa d hd;unfold z9U Ord at *;omega
    ·simp at hd;subst hd;exact habp
   ·intro d hd;rcases jm.1 hd with hd|hd
    ·exact h2 d hd
    ·simp at hd;subst hd;exact hb
   ·intro d hd e he;rcases jm.1 hd with hd|hd
    ·exact h3 d hd e (jp _ he)
    ·simp at hd;subst hd;exact hs.1 e he
   ·simp[uC,vo]
theorem Zw(ln y:Int):∀(rest out:List zk),Sep out rest->rest.Pairwise Ord->(∀b∈rest,b.lo<=b.hi)->Sep (rest.foldl zcP out) []/\(rest.foldl zcP out).any (z8r ln y)=(out.any (z8r ln y)||rest.any (z8r ln y))
 |[],out,h,_,_=>⟨h,by simp⟩
 |b::rest,out,h,hs,hb=>by
  obtain⟨g1,g2⟩:=Zaf ln y h hs (hb b jr);obtain⟨k1,k2⟩:=Zw ln y rest (zcP out b) g1 (jS.1 hs).2 fun c hc=>hb c (jp _ hc)
  rw[jK];exact⟨k1,by rw[k2,g2,qN,vo]⟩
theorem Zaw(l:List zk)(h:∀b∈l,b.lo<=b.hi)(ln y:Int):(zcz l).Pairwise z9U/\(∀a∈zcz l,a.lo<=a.hi)/\(zcz l).any (z8r ln y)=l.any (z8r ln y):=by
 have hm:=zuL l [];have hs:=z9C l [] List.Pairwise.nil;have ha:=Zl ln y l [] h;obtain⟨g1,g2⟩:=Zw ln y (l.foldl zb5 []) [] ⟨.nil,by simp,by simp⟩ hs fun b hb=>h b ((hm b hb).resolve_right (by simp))
 refine⟨g1.apart,g1.ne,?_⟩;unfold zcz;rw[g2,ha];simp
structure Spn where
 lane:Int
 lo:Int
 hi:Int
def zWX(s:Spn):List Cl:=[I s.lane,I s.lo,I s.hi]
def zWx(l:List Spn):List (List Cl):=l.map zWX
@[simp] theorem z1J(s:Spn):(zWX s).length=3:=rfl
@[simp] theorem zXJ(l:List Spn):(zWx l).length=l.length:=by simp[zWx]
@[simp] theorem z1e(l m:List Spn):zWx (l++m)=zWx l++zWx m:=by simp[zWx]
@[simp] theorem zZb:zWx []=[]:=rfl
@[simp] theorem z1B(x:Spn)(l:List Spn):zWx (x::l)=zWX x::zWx l:=rfl
@[simp] theorem z1A(l:List Spn):(zWx l).take l.length=zWx l:=jF (by simp)
@[simp] theorem z05{l:List Spn}{i:Nat}(h:i<(zWx l).length):(zWx l)[i]=zWX (l[i]'(by simpa using h)):=by simp[zWx]
def onF(m:zD)(s:Spn):Bool:=decide (0<=s.lane)&&decide (s.lane<m.jf.length)&&decide (0<=s.lo)&&decide (s.lo<=s.hi)&&decide (s.hi<=z8 m s.lane)
theorem z1M{m:zD}(h:zcp m)(s:Spn):R L Cs zZ6 [.a (zf m),.a (zWX s)] []=some (.w (Bo (onF m s)),[]):=by
 obtain⟨ln,lo,hi⟩:=s;rw[zUa z0a rfl];simp only[onF,zWX];by_cases c1:0<=ln
 ·by_cases c2:ln<m.jf.length
  ·obtain⟨j,rfl⟩:=jC c1;have hj:j<m.jf.length:=by omega
   have hL:=zrQ h hj;have e:z8 m j=m.jf[j].len:=by simp[z8,hj]
   simp only[zf]at hL;rw[e];by_cases c3:0<=lo
   ·by_cases c4:lo<=hi
    ·simp[zXb,zf,hj,c3,c4,hL,zg]
    ·simp[zXb,zf,hj,c3,c4,zg]
   ·simp[zXb,zf,hj,c3,zg]
  ·simp[zXb,zf,c1,c2,zg]
 ·simp[zXb,zf,c1,zg]
def zWu(s:Spn):zk:=⟨s.lane,s.lo,s.hi,0,0,0⟩
def zXs(b:zk):Spn:=⟨b.lane,b.lo,b.hi⟩
abbrev fzB(bs:List zk):Option Blk:=some { box:=false,esz:=6,rows:=zI bs,gen:=bs.length,fz:=true,ver:=bs.length+1 }
def zXa(m:zD)(l:List Spn):List Spn:=(zcz ((l.filter (onF m)).map zWu)).map zXs
theorem z1E{m:zD}(h:zcp m){s:Spn}(hs:onF m s=true):OKB (zWu s):=by
 unfold onF at hs;simp at hs;have:=zcX h (x:=s.lane) (by omega);exact⟨by simp[zWu];omega,by simp[zWu];omega,by simp[zWu];omega,by simp[zWu];omega⟩
theorem z1r(b:Spn)(i v:Nat)(M:Mem)(h:M[i]?=some (bxv v 3 (zWX b))):R L Cs zYp [Pt i] M=some (.t [W b.lane,.c (.ptr i 0 0 1),.c (.ptr i 0 0 2)],M):=by
 rw[zUa zYs rfl];simp only[zWX]at h;simp[zXc,h,zWX,p1F]
def zYm(x fr to:Int)(b:Spn):List Spn :=
 if b.lane≠x\/fr>to\/fr>b.hi\/to<b.lo then [b] else
 (if b.lo<fr then [{ b with hi:=fr-1 }] else [])++(if to<b.hi then [{ b with lo:=to+1 }] else [])
def zYr(x fr to:Int):List Spn->List Spn
 |[]=>[]
 |b::r=>zYm x fr to b++zYr x fr to r
theorem z0x(x fr to:Int)(b:Spn):(zYm x fr to b).length<=2:=by
 unfold zYm;split
 ·simp
 ·split<;>split<;>simp
theorem z0w(x fr to:Int)(hfr:Mid fr)(hto:Mid to)(l:List Spn)(hl:l.length<=100000000000):∀(r:List Spn) (i:Nat) (out:List Spn),l.drop i=r->i<=l.length->out.length<=2*i ->
  Y L Cs zWR (some [5,21,20,19,3]) 3 [(5,.w (.c (sl 2 3 (zWx out)))),(21,.w (W i)),(20,.w (W l.length)),(19,.w (.c (.jc (zWx l)))),(3,.w (Pt 0))] [bx 3 [I x,I fr,I to],gb 3,some (own 3 (zWx out))] =
    some (.exit 0,[(22,.w (Bo false)),(5,.w (.c (sl 2 3 (zWx (out++zYr x fr to r))))),(21,.w (W l.length)),(20,.w (W l.length)),(19,.w (.c (.jc (zWx l)))),(3,.w (Pt 0))],[bx 3 [I x,I fr,I to],gb 3,some (own 3 (zWx (out++zYr x fr to r)))]):=by
 intro r;induction r with
 |nil =>
  intro i out hd hi ho;obtain rfl:=zUb hd hi;rw[zj zWR.eq_1];simp[zYr]
 |cons b r ih =>
  intro i out hd hi ho;obtain⟨hil,hb,hd'⟩:=zL hd;have hw:=zB (i:=i) (by omega);have hcl:(out++zYm x fr to b).length<=2*(i+1):=by
   have:=z0x x fr to b;rw[jt];omega
  obtain⟨f1,f2⟩:=hfr;obtain⟨t1,t2⟩:=hto;have hw1:=kQ (fr-1);have hw2:=kQ (to+1);have jU:(out.length+1)*24<=140737488355328:=by omega
  have An:(out.length+2)*24<=140737488355328:=by clear hcl hd hb hd' ih;omega
  have he:=z1r b 0 1 [bxv 1 3 (zWX b)] rfl;have e1:out++zYr x fr to (b::r)=(out++zYm x fr to b)++zYr x fr to r:=by simp[zYr]
  rw[e1,<-ih (i+1) (out++zYm x fr to b) hd' hil hcl,zj zWR.eq_1];clear ih e1 hcl;clear f1 f2 t1 t2;obtain⟨bl,lo,hi'⟩:=b;simp only[zWX,zYm]at *;by_cases c1:bl=x
  ·subst c1;by_cases c2:to<fr
   ·simp[hil,hb,zWX,hw,jU,zg,zH,he,c2]
   ·by_cases c3:hi'<fr
    ·simp[hil,hb,zWX,hw,jU,zg,zH,he,c2,c3]
    ·by_cases c4:to<lo
     ·simp[hil,hb,zWX,hw,jU,zg,zH,he,c2,c3,c4]
     ·by_cases c5:lo<fr
      ·by_cases c6:to<hi'
       ·have htk:∀y:List Cl,List.take (out.length+1) (zWx out++[y])=zWx out++[y]:=fun y=>jF (by simp)
        simp[hil,hb,zWX,hw,hw1,hw2,jU,An,zg,zH,he,c2,c3,c4,c5,c6,htk]
       ·simp[hil,hb,zWX,hw,hw1,hw2,jU,zg,zH,he,c2,c3,c4,c5,c6]
      ·by_cases c6:to<hi'
       ·simp[hil,hb,zWX,hw,hw1,hw2,jU,zg,zH,he,c2,c3,c4,c5,c6]
       ·simp[hil,hb,zWX,hw,hw1,hw2,jU,zg,zH,he,c2,c3,c4,c5,c6]
  ·have b1:(bl==x)=false:=by simp[c1]
   have b2:(bl !=x)=true:=by simp[c1]
   simp[hil,hb,zWX,hw,jU,zg,zH,he,c1,b1,b2]
theorem z1H(x fr to:Int)(hfr:Mid fr)(hto:Mid to)(l:List Spn)(hl:l.length<=100000000000):R L Cs zYy [.c (.jc (zWx l)),.a [I x,I fr,I to]] []=some (.w (.c (.jc (zWx (zYr x fr to l)))),[]):=by
 have hc:=z0w x fr to hfr hto l hl l 0 [] rfl (jE _) (jE _);simp only[ji,jH,zZb,sl,own,jB,zXJ]at hc;rw[zUa zYz rfl];simp[zXg,hc,zg]
theorem z0L{m:zD}(h:zcp m){s:Spn}(c:onF m s=true):Mid s.lo/\Mid s.hi:=by
 unfold onF at c;simp at c;have:=zcX h (x:=s.lane) (by omega);exact⟨⟨by omega,by omega⟩,⟨by omega,by omega⟩⟩
structure Fnd where
 lane:Int
 lo:Int
 hi:Int
 v1:Int
 v2:Int
def zWN(s:Fnd):List Cl:=[I s.lane,I s.lo,I s.hi,I s.v1,I s.v2]
def zWw(l:List Fnd):List (List Cl):=l.map zWN
def Fnd.s(f:Fnd):Spn:=⟨f.lane,f.lo,f.hi⟩
@[simp] theorem z1L(s:Fnd):(zWN s).length=5:=rfl
@[simp] theorem zYf(l:List Fnd):(zWw l).length=l.length:=by simp[zWw]
@[simp] theorem z1f(l m:List Fnd):zWw (l++m)=zWw l++zWw m:=by simp[zWw]
@[simp] theorem zXx:zWw []=[]:=rfl
@[simp] theorem zYn(x:Fnd)(l:List Fnd):zWw (x::l)=zWN x::zWw l:=rfl
@[simp] theorem z08{l:List Fnd}{i:Nat}(h:i<(zWw l).length):(zWw l)[i]=zWN (l[i]'(by simpa using h)):=by simp[zWw]
@[simp] theorem zYQ(l:List Fnd):(zWw l).take l.length=zWw l:=jF (by simp)
def zYx(m:zD):List Fnd->List Spn->List Spn
 |[],l=>l
 |f::r,l=>zYx m r (if onF m f.s=true then zYr f.lane f.lo f.hi l else l)
def zXD(m:zD)(l:List Spn)(fs:List Fnd):List Spn:=zYx m fs (zXa m l)
theorem zZW(m:zD)(l:List Spn):(zXa m l).length<=l.length:=by
 unfold zXa;have:=zkq ((l.filter (onF m)).map zWu);have h2:(l.filter (onF m)).length<=l.length:=qj _ _;rw[qE]at this ⊢;omega
structure Pnt where
 x:Int
 y:Int
 v:Int
def zYi(p:Pnt):List Cl:=[I p.x,I p.y,I p.v]
def zWs(l:List Pnt):List (List Cl):=l.map zYi
@[simp] theorem z1K(s:Pnt):(zYi s).length=3:=rfl
@[simp] theorem zXQ(l:List Pnt):(zWs l).length=l.length:=by simp[zWs]
@[simp] theorem z07(l m:List Pnt):zWs (l++m)=zWs l++zWs m:=by simp[zWs]
@[simp] theorem zZZ:zWs []=[]:=rfl
@[simp] theorem z1C(x:Pnt)(l:List Pnt):zWs (x::l)=zYi x::zWs l:=rfl
@[simp] theorem z06{l:List Pnt}{i:Nat}(h:i<(zWs l).length):(zWs l)[i]=zYi (l[i]'(by simpa using h)):=by simp[zWs]
@[simp] theorem zZY(l:List Pnt):(zWs l).take l.length=zWs l:=jF (by simp)
def zXq(p:Pnt):Bool:=decide (-5<=p.v)&&decide (p.v<=2005)
theorem zZt(l:List Pnt)(hl:l.length<=1000):∀(r:List Pnt) (i:Nat) (out:List Pnt),l.drop i=r->i<=l.length->out.length<=i ->
  Y L Cs zWO (some [3,12,11,10]) 2 [(3,.w (.c (sl 1 3 (zWs out)))),(12,.w (W i)),(11,.w (W l.length)),(10,.w (.c (.jc (zWs l))))] [gb 3,some (own 3 (zWs out))] =
    some (.exit 0,[(13,.w (Bo false)),(3,.w (.c (sl 1 3 (zWs (out++r.filter zXq))))),(12,.w (W l.length)),(11,.w (W l.length)),(10,.w (.c (.jc (zWs l))))],[gb 3,some (own 3 (zWs (out++r.filter zXq)))]):=by
 intro r;induction r with
 |nil =>
  intro i out hd hi ho;obtain rfl:=zUb hd hi;rw[zj zWO.eq_1];simp
 |cons p r ih =>
  intro i out hd hi ho;obtain⟨hil,hs,hd'⟩:=zL hd;have hw:=zB (i:=i) (by omega);have hon:=ziC p.v (-5) 2005;have jU:(out.length+1)*24<=140737488355328:=by omega
  by_cases c:zXq p=true
  ·rw[List.filter_cons_of_pos c,show out++p::r.filter zXq=(out++[p])++r.filter zXq by simp,<-ih (i+1) (out++[p]) hd' hil (by simp;omega),zj zWO.eq_1];clear ih;unfold zXq at c;rw[c]at hon;simp[hil,hs,hw,zYi,hon,jU,zg,zH]
  ·rw[List.filter_cons_of_neg c,<-ih (i+1) out hd' hil (by omega),zj zWO.eq_1];clear ih;have c':zXq p=false:=by simpa using c
   unfold zXq at c';rw[c']at hon;simp[hil,hs,hw,zYi,hon,zg,zH]
theorem z0z(l:List Pnt)(hl:l.length<=1000):R L Cs zYK [.c (.jc (zWs l))] []=some (.w (.c (.jc (zWs (l.filter zXq)))),[]):=by
 have h:=zZt l hl l 0 [] rfl (jE _) (jE _);have hmin:min (l.length:Int) 1000=l.length:=by omega
 have kV:(∀x∈zWs l,x.length=3)=True:=by simp[zWs]
 have htk:List.take (l.filter zXq).length (zWs (l.filter zXq))=zWs (l.filter zXq):=zZY _;simp only[ji,jH,zZZ,sl,own,jB,zXQ]at h;rw[zUa zYN rfl];simp[zXr,zg,zoU,hmin,kV,h,zX,htk]
def zYk(lane len:Int)(p:Pnt)(f:Int):Fnd:=⟨lane,max 0 (f-100),min (f+100) len,max 0 (p.v-5),p.v+5⟩
structure zXl(m:zD):Prop where
 one:∀l∈m.jf,∃x0 y0 x1 y1,l.pts=[(x0,y0),(x1,y1)]/\Pc x0 y0 x1 y1 l.len
def zYj(l:zfn)(p:Pnt):List Int:=match l.pts with
 |[(x0,y0),(x1,y1)]=>zZc x0 y0 x1 y1 l.len p.x p.y
 |_=>[]
def zXt(lane:Int)(l:zfn)(p:Pnt):List Fnd:=(zYj l p).map (zYk lane l.len p)
theorem zYS{m:zD}(h1:zXl m){l:zfn}(hl:l∈m.jf)(p:Pnt):(zYj l p).length<=1/\∀f∈zYj l p,0<=f/\f<=l.len:=by
 obtain⟨x0,y0,x1,y1,e,hp⟩:=h1.one l hl;have:=hp.l;have hv:=fun q=>zZi (q:=q) (len:=l.len) (by omega)
 unfold zYj;rw[e];simp only[zZc];split
 ·split
  ·simp
  ·simp;exact⟨(hv _).1,(hv _).2⟩
 ·simp
theorem z1v{m:zD}(h1:zXl m){l:zfn}(hl:l∈m.jf)(p:Pnt):R L Cs zXv [.a [zeT l],.a [I p.x,I p.y],W 100] []=some (.w (.c (.jc (zu (zYj l p)))),[])/\R L Cs z1T [.a [zeT l],.a [I p.x,I p.y],W 100] []=some (.w (.c (.jc (zu (zYj l p)))),[]):=by
 obtain⟨x0,y0,x1,y1,e,hp⟩:=h1.one l hl;have h1:=z1G hp p.x p.y;have h2:=z1p hp p.x p.y;unfold zYj zeT;rw[e];exact⟨h1,h2⟩
theorem z0v{m:zD}(h:zcp m){n:Nat}(hn:n<m.jf.length)(p:Pnt)(hp:zXq p=true)(fs:List Int)(hfs:∀f∈fs,0<=f/\f<=m.jf[n].len)(hl:fs.length<=1000):∀(r:List Int) (i:Nat) (out:List Fnd),fs.drop i=r->i<=fs.length->out.length<=i ->
  Y L Cs zW8 (some [7,23,22,21,1,5,3]) 4 [(7,.w (.c (sl 3 5 (zWw out)))),(23,.w (W i)),(22,.w (W fs.length)),(21,.w (.c (.jc (zu fs)))),(1,.w (W n)),(5,.w (Pt 1)),(3,.w (Pt 0))] [bx 5 (zf m),bx 3 (zYi p),gb 5,some (own 5 (zWw out))] =
    some (.exit 0,[(24,.w (Bo false)),(7,.w (.c (sl 3 5 (zWw (out++r.map (zYk n m.jf[n].len p)))))),(23,.w (W fs.length)),(22,.w (W fs.length)),(21,.w (.c (.jc (zu fs)))),(1,.w (W n)),(5,.w (Pt 1)),(3,.w (Pt 0))],[bx 5 (zf m),bx 3 (zYi p),gb 5,some (own 5 (zWw (out++r.map (zYk n m.jf[n].len p))))]):=by
 intro r;induction r with
 |nil =>
  intro i out hd hi ho;obtain rfl:=zUb hd hi;rw[zj zW8.eq_1];simp
 |cons f r ih =>
  intro i out hd hi ho;obtain⟨hil,hs,hd'⟩:=zL hd;have hw:=zB (i:=i) (by omega);have hL:=zrQ h hn;have hf:=hfs f (by rw[<-hs];exact jb hil);have hle:=h.Bf _ (jb hn);have jU:(out.length+1)*40<=140737488355328:=by omega
  simp only[zXq,jg,decide_eq_true_eq]at hp;have e1:IntKind.i64.wrap (f-100)=f-100:=wr (by omega) (by omega);have e2:IntKind.i64.wrap (f+100)=f+100:=wr (by omega) (by omega);have e3:IntKind.i64.wrap (p.v-5)=p.v-5:=wr (by omega) (by omega);have e4:IntKind.i64.wrap (p.v+5)=p.v+5:=wr (by omega) (by omega);rw[ki,show out++zYk n m.jf[n].len p f::r.map (zYk n m.jf[n].len p)=(out++[zYk n m.jf[n].len p f])++r.map (zYk n m.jf[n].len p) by simp,<-ih (i+1) (out++[zYk n m.jf[n].len p f]) hd' hil (by simp;omega),zj zW8.eq_1];clear ih;generalize qG:m.jf[n].len=ln at *;simp only[zf]at hL;simp[hil,hs,hw,zf,zYi,zWN,zYk,hL,jU,zg,zH,e1,e2,e3,e4,zoU]
theorem z1F{m:zD}(h:zcp m)(h1:zXl m){n:Nat}(hn:n<m.jf.length)(p:Pnt)(hp:zXq p=true):R L Cs zZo [.a (zf m),W n,.a (zYi p)] []=some (.w (.c (.jc (zWw (zXt n m.jf[n] p)))),[]):=by
 have hb:=zYS h1 (jb hn) p;have hN:=(z1v h1 (jb hn) p).1;have hl:=z0v h hn p hp (zYj m.jf[n] p) hb.2 (by omega) _ 0 [] rfl (jE _) (jE _);have htk:List.take (zXt n m.jf[n] p).length (zWw (zXt n m.jf[n] p))=zWw (zXt n m.jf[n] p):=zYQ _;have hfl:(zXt n m.jf[n] p).length=(zYj m.jf[n] p).length:=by simp[zXt]
 simp only[jH]at hl;change Y _ _ _ _ _ _ _=some (_,[_,(7,.w (.c (sl 3 5 (zWw (zXt n m.jf[n] p))))),_,_,_,_,_,_],[_,_,_,some (own 5 (zWw (zXt n m.jf[n] p)))])at hl;generalize zXt n m.jf[n] p=ft at *;generalize zYj m.jf[n] p=nl at *;simp only[ji,zXx,sl,own,jB,zYf,zf,zYi]at hl;simp only[zeT]at hN;rw[zUa zZx rfl];simp[zXX,zf,zYi,hn,zo,hN,hl,zg,zX,htk]
abbrev oB(v:Nat)(o:List Fnd):Option Blk:=some { box:=false,esz:=5,rows:=zWw o,gen:=o.length,fz:=false,ver:=v }
abbrev oS(id:Nat)(o:List Fnd):Cl:=.slice id o.length 5 0 o.length none
def zXw(n:Nat)(l:zfn)(ps:List Pnt):List Fnd:=ps.flatMap (zXt n l)
theorem zZf{m:zD}(h1:zXl m){n:Nat}(hn:n<m.jf.length)(p:Pnt):(zXt n m.jf[n] p).length<=1:=by
 have:=(zYS h1 (jb hn) p).1;simpa [zXt]using this
theorem zZK{m:zD}(h:zcp m)(h1:zXl m){n:Nat}(hn:n<m.jf.length)(v nl:Nat)(o:List Fnd)(pts cs:List Pnt)(hcs:∀p∈cs,zXq p=true)(hl:cs.length<=1000):∀(r:List Pnt) (i:Nat) (l:List Fnd),cs.drop i=r->i<=cs.length->l.length<=i ->
  Y L Cs zW6 (some [7,27,26,5,21,20,1,25,2,6]) 4 [(7,.w (.c (sl 3 5 (zWw l)))),(27,.w (W i)),(26,.w (W cs.length)),(5,.w (.c (oS 2 o))),(21,.w (W n)),(20,.w (W nl)),(1,.w (.c (.jc (zWs pts)))),(25,.w (.c (.jc (zWs cs)))),(2,.w (Pt 0)),(6,.w (W n))] [bx 5 (zf m),gb 5,oB v o,some (own 5 (zWw l))] =
    some (.exit 2,[(28,.w (Bo false)),(7,.w (.c (sl 3 5 (zWw (l++zXw n m.jf[n] r))))),(27,.w (W cs.length)),(26,.w (W cs.length)),(5,.w (.c (oS 2 o))),(21,.w (W n)),(20,.w (W nl)),(1,.w (.c (.jc (zWs pts)))),(25,.w (.c (.jc (zWs cs)))),(2,.w (Pt 0)),(6,.w (W n))],[bx 5 (zf m),gb 5,oB v o,some (own 5 (zWw (l++zXw n m.jf[n] r)))]):=by
 intro r;induction r with
 |nil =>
  intro i l hd hi ho;obtain rfl:=zUb hd hi;rw[zj zW6.eq_1];simp[zXw]
 |cons p r ih =>
  intro i l hd hi ho;obtain⟨hil,hs,hd'⟩:=zL hd;have hw:=zB (i:=i) (by omega);have hp:=hcs p (by rw[<-hs];exact jb hil);have hF:=z1F h h1 hn p hp;have hfl:=zZf h1 hn p;have jU:(l.length+1)*40<=140737488355328:=by omega
  have hroom0:l.length*40<=140737488355328:=by omega
  rw[show l++zXw n m.jf[n] (p::r)=(l++zXt n m.jf[n] p)++zXw n m.jf[n] r by simp[zXw],<-ih (i+1) (l++zXt n m.jf[n] p) hd' hil (by simp;omega),zj zW6.eq_1];clear ih;generalize zXt n m.jf[n] p=ft at *;simp only[zf,zYi]at hF
  match ft,hfl with
  |[],_=>simp[hil,hs,hw,zf,zYi,hF,hroom0,zg,zH]
  |[f],_=>simp[hil,hs,hw,zf,zYi,zWN,hF,jU,zg,zH]
def ud(y x:Fnd):Fnd:=⟨y.lane,y.lo,max y.hi x.hi,min y.v1 x.v1,max y.v2 x.v2⟩
def grp(g:List Fnd)(x:Fnd):List Fnd:=match g.getLast? with
 |none=>[x]
 |some y=>if x.lo-y.hi<=500 then g.dropLast++[ud y x] else g++[x]
structure InB(f:Fnd):Prop where
 a:0<=f.lo/\f.lo<=10000000
 b:0<=f.hi/\f.hi<=10000000
theorem z0h(g:List Fnd)(x:Fnd):(grp g x).length<=g.length+1:=by
 unfold grp;split
 ·simp
 ·split
  ·simp<;>omega
  ·simp
theorem z1j{g:List Fnd}{x:Fnd}(hg:∀y∈g,InB y)(hx:InB x):∀y∈grp g x,InB y:=by
 intro z hz;unfold grp at hz;split at hz
 ·simp at hz;subst hz;exact hx
 ·rename_i y hy;split at hz
  ·simp only[jm,jh]at hz;rcases hz with hz|rfl
   ·exact hg z (List.dropLast_subset _ hz)
   ·have:=hg y (List.mem_of_getLast? hy);exact⟨this.a,by have h1:=this.b;have h2:=hx.b;simp only[ud];omega⟩
  ·simp only[jm,jh]at hz;rcases hz with hz|rfl
   ·exact hg z hz
   ·exact hx
abbrev lB(v:Nat)(s:List Fnd):Option Blk:=oB v s
theorem zYG{m:zD}(n nl w:Nat)(fo:List Fnd)(hfo:fo.length<=100000)(pts:List Pnt)(s:List Fnd)(hsB:∀x∈s,InB x)(hl:s.length<=1000):∀(r:List Fnd) (i v:Nat) (g:List Fnd),s.drop i=r->i<=s.length->g.length<=i->(∀y∈g,InB y) ->
  ∃v',Y L Cs zWH (some [44,43,2,1,20,21,42,10,5]) 4 [(44,.w (W i)),(43,.w (W s.length)),(2,.w (Pt 0)),(1,.w (.c (.jc (zWs pts)))),(20,.w (W nl)),(21,.w (W n)),(42,.w (.c (oS 3 s))),(10,.w (W fo.length)),(5,.w (.c (oS 2 (fo++g))))] [bx 5 (zf m),gb 5,oB v (fo++g),lB w s] =
   some (.exit 4,[(45,.w (Bo false)),(44,.w (W s.length)),(43,.w (W s.length)),(2,.w (Pt 0)),(1,.w (.c (.jc (zWs pts)))),(20,.w (W nl)),(21,.w (W n)),(42,.w (.c (oS 3 s))),(10,.w (W fo.length)),(5,.w (.c (oS 2 (fo++r.foldl grp g))))],[bx 5 (zf m),gb 5,oB v' (fo++r.foldl grp g),lB w s]):=by
 intro r;induction r with
 |nil =>
  intro i v g hd hi ho hg;obtain rfl:=zUb hd hi;refine⟨v,?_⟩;rw[zj zWH.eq_1];simp
 |cons x r ih =>
  intro i v g hd hi ho hg;obtain⟨hil,hs,hd'⟩:=zL hd;have hw:=zB (i:=i) (by omega);have hx:=hsB x (by rw[<-hs];exact jb hil);have hgl:=z0h g x;have hgB:=z1j hg hx;rcases ks g with rfl |⟨g',y,rfl⟩
  ·obtain⟨v',ih⟩:=ih (i+1) (v+1) [x] hd' hil (by simp) (by simpa using hx);refine⟨v',?_⟩;rw[jK,show grp [] x=[x] from rfl,<-ih,zj zWH.eq_1];clear ih;have jU:(fo.length+1)*40<=140737488355328:=by omega
   have e1:IntKind.i64.wrap ((fo.length:Int)-1)=(fo.length:Int)-1:=wr (by omega) (by omega);have e2:¬((fo.length:Int)<=(fo.length:Int)-1):=by omega
   simp[hil,hs,hw,zWN,jU,zg,zH,e1,e2,zf,oB,oS,lB]
  ·simp only[ky]at ho hg hgl hgB ⊢;have hy:=hg y (by simp);obtain⟨hya,hyb⟩:=hy.b;obtain⟨hxa,hxb⟩:=hx.a;have e3:IntKind.i64.wrap (x.lo-y.hi)=x.lo-y.hi:=wr (by omega) (by omega);have hA:∀z:Fnd,zWw (fo++(g'++[z]))=zWw (fo++g')++[zWN z]:=fun z=>by simp
   have hlen:∀z:Fnd,(fo++(g'++[z])).length=(fo++g').length+1:=fun z=>by simp;omega
   have hAl:(zWw (fo++g')).length=(fo++g').length:=zYf _;have hK1:fo.length<=(fo++g').length:=by simp
   have hKb:(fo++g').length<=200000:=by simp at ho ⊢;omega
   by_cases c:x.lo-y.hi<=500
   ·have eg:grp (g'++[y]) x=g'++[ud y x]:=by simp[grp,c]
    rw[jK,eg];obtain⟨v',ih⟩:=ih (i+1) (v+3) (g'++[ud y x]) hd' hil (by simp at ho ⊢;omega) (by rw[<-eg];exact hgB);refine⟨v',?_⟩;simp only[oB,oS,lB,hA,hlen]at ih ⊢;rw[<-ih,zj zWH.eq_1];clear ih hgB hgl eg hA hlen;generalize zWw (fo++g')=A at *;generalize (fo++g').length=K at *;have qr:∀a:List Cl,(A++[a])[K]?=some a:=fun a=>by rw[<-hAl];simp
    have yx:∀a b:List Cl,(A++[a]).set K b=A++[b]:=fun a b=>by rw[<-hAl];simp
    have e1:IntKind.i64.wrap (((K+1:Nat):Int)-1)=(K:Int):=by rw[wr (by omega) (by omega)];omega
    have e1':IntKind.i64.wrap ((K:Int)+1-1)=(K:Int):=by rw[wr (by omega) (by omega)];omega
    have e1'':IntKind.i64.wrap (K:Int)=(K:Int):=wr (by omega) (by omega);have e2:(fo.length:Int)<=(K:Int):=by omega
    have hk1:(K:Int)<(K:Int)+1:=by omega
    simp[hil,hs,hw,zWN,zg,zH,e1,e1',e1'',e2,e3,zf,qr,yx,c,hk1,hK1,zoU,ud,oB,oS,lB]
   ·have eg:grp (g'++[y]) x=g'++[y]++[x]:=by simp[grp,c]
    rw[jK,eg];obtain⟨v',ih⟩:=ih (i+1) (v+1) (g'++[y]++[x]) hd' hil (by simp at ho ⊢;omega) (by rw[<-eg];exact hgB);refine⟨v',?_⟩;have hA2:zWw (fo++(g'++[y]++[x]))=zWw (fo++g')++[zWN y]++[zWN x]:=by simp
    have hlen2:(fo++(g'++[y]++[x])).length=(fo++g').length+2:=by simp;omega
    simp only[oB,oS,lB,hA,hA2,hlen,hlen2]at ih ⊢;rw[<-ih,zj zWH.eq_1];clear ih hgB hgl eg hA2 hlen2 hA hlen;generalize zWw (fo++g')=A at *;generalize (fo++g').length=K at *;have qr:∀a:List Cl,(A++[a])[K]?=some a:=fun a=>by rw[<-hAl];simp
    have e1:IntKind.i64.wrap (((K+1:Nat):Int)-1)=(K:Int):=by rw[wr (by omega) (by omega)];omega
    have e1':IntKind.i64.wrap ((K:Int)+1-1)=(K:Int):=by rw[wr (by omega) (by omega)];omega
    have e1'':IntKind.i64.wrap (K:Int)=(K:Int):=wr (by omega) (by omega);have e2:(fo.length:Int)<=(K:Int):=by omega
    have hk1:(K:Int)<(K:Int)+1:=by omega
    have jU:(K+1+1)*40<=140737488355328:=by omega
    have hKA:K<=A.length:=by omega
    have htk:∀a:List Cl,(A++[a]).take (K+1)=A++[a]:=fun a=>jF (by simp;omega)
    simp[hil,hs,hw,zWN,zg,zH,e1,e1',e1'',e2,e3,zf,qr,c,hk1,hK1,jU,hKA,htk,zoU,oB,oS,lB]
end Go.TrRun
