/- This text proves what functions of this seat's program answer, run by the evaluator; no condition. -/
import Derived.Test.YtjmaghejnagjeaaGreatFTx2
import Derived.WalkSmall
set_option maxHeartbeats 8000000
set_option linter.unusedVariables false
set_option linter.unusedSimpArgs false
set_option linter.unusedSectionVars false
set_option maxRecDepth 10000
namespace Go.TrRun
open Go Go.Eng
structure Vis where
 kN:Int
 entry:Int
 first:Pss
 last:Pss
abbrev zKw:Pss:=⟨0,0,0,0⟩
def zJ1(v:Vis):List Cl:=[I v.kN,I v.entry,I v.first.kN,I v.first.part,I v.first.lo,I v.first.hi,I v.last.kN,I v.last.part,I v.last.lo,I v.last.hi]
def zKt(l:List Vis):List (List Cl):=l.map zJ1
@[simp] theorem zJZ(l:List Vis):(zKt l).length=l.length:=by simp[zKt]
@[simp] theorem zP7:zKt []=[]:=rfl
@[simp] theorem zPS(x:Vis)(l:List Vis):zKt (x::l)=zJ1 x::zKt l:=rfl
@[simp] theorem zP8(l k:List Vis):zKt (l++k)=zKt l++zKt k:=by simp[zKt]
@[simp] theorem zPR(l:List Vis):(zKt l).take l.length=zKt l:=jM (by simp)
@[simp] theorem zPo{l:List Vis}{i:Nat}(h:i<(zKt l).length):(zKt l)[i]=zJ1 (l[i]'(by simpa using h)):=by simp[zKt]
@[simp] theorem zNp(v:Vis):(zJ1 v).length=10:=rfl
def zJ5(z:Int)(v:Vis)(p:Pss):Vis:=if p.kN=z then(if v.entry<0 then⟨v.kN,p.part,p,p⟩ else⟨v.kN,v.entry,v.first,p⟩) else v
def zKn(ps:List Pss)(z:Int):Vis:=ps.foldl (zJ5 z) ⟨z,-1,zKw,zKw⟩
def zKE(ps:List Pss):Nat->Nat->List Vis
 |_,0=>[]
 |z,n+1=>if 0<=(zKn ps z).entry then zKn ps z::zKE ps (z+1) n else zKE ps (z+1) n
abbrev jC(m:zD)(r:List Int)(len:Int)(ps:List Pss)(VS:Cl)(was now:List Cl)(SW:Cl):List Cl:=zh m r len++[.jc (zKd ps),VS]++was++now++[SW]
abbrev njE(ps:List Pss)(nz z:Nat)(id:Nat)(i:Nat):Env:=[(34,.w (W i)),(33,.w (W ps.length)),(7,.w (Pt 1)),(23,.w (W nz)),(24,.w (W z)),(32,.w (.c (.jc (zKd ps)))),(8,.w (W z)),(9,.w (Pt id))]
abbrev njM(m:zD)(r:List Int)(len:Int)(ps:List Pss)(u:Nat)(VS:Cl):Mem:=[bx 5 (zf m),bxv u 26 (jC m r len ps VS zox zox .je)]
theorem nj1(m:zD)(r:List Int)(len:Int)(ps:List Pss)(hp:ps.length<=1000)(nz z:Nat):∀(t:List Pss) (i:Nat) (v:Vis) (w:Nat),ps.drop i=t->i<=ps.length->∃w',w<=w' /\
  Y L Cs zH8 (some [34,33,7,23,24,32,8,9]) 3 (njE ps nz z 2 i) (njM m r len ps 0 .je++[bxv w 10 (zJ1 v)]) =
    some (.exit 2,(35,.w (Bo false))::njE ps nz z 2 ps.length,njM m r len ps 0 .je++[bxv w' 10 (zJ1 (t.foldl (zJ5 z) v))]):=by
 intro t;induction t with
 |nil =>
  intro i v w hd hi;obtain rfl:=zUb hd hi;refine⟨w,jl _,?_⟩;rw[zj zH8.eq_1];simp
 |cons p t ih =>
  intro i v w hd hi;obtain⟨hil,hx,hd'⟩:=zL hd;have hw:=zB (i:=i) (by omega);rw[jP];by_cases c:p.kN=z
  ·have cb:(p.kN !=(z:Int))=false:=by simp[c]
   by_cases d:v.entry<0
   ·have e:zJ5 z v p=⟨v.kN,p.part,p,p⟩:=by simp[zJ5,c,d]
    obtain⟨w',h1,h⟩:=ih (i+1) ⟨v.kN,p.part,p,p⟩ (w+3) hd' hil;refine⟨w',by omega,?_⟩;rw[e,<-h,zj zH8.eq_1];clear h ih;simp[njE,njM,jC,zox,zh,zi,zf,zJ1,zKF,hil,hx,hw,c,cb,d,zg,zH]
   ·have e:zJ5 z v p=⟨v.kN,v.entry,v.first,p⟩:=by simp[zJ5,c,d]
    obtain⟨w',h1,h⟩:=ih (i+1) ⟨v.kN,v.entry,v.first,p⟩ (w+1) hd' hil;refine⟨w',by omega,?_⟩;rw[e,<-h,zj zH8.eq_1];clear h ih;simp[njE,njM,jC,zox,zh,zi,zf,zJ1,zKF,hil,hx,hw,c,cb,d,zg,zH]
  ·have cb:(p.kN !=(z:Int))=true:=by simp[c]
   have e:zJ5 z v p=v:=by simp[zJ5,c]
   obtain⟨w',h1,h⟩:=ih (i+1) v w hd' hil;refine⟨w',by omega,?_⟩;rw[e,<-h,zj zH8.eq_1];clear h ih;simp[njE,njM,jC,zox,zh,zi,zf,zJ1,zKF,hil,hx,hw,c,cb,zg,zH]
abbrev zLG(v:Vis):Option Blk:=some { box:=false,esz:=10,rows:=[zJ1 v],gen:=1,fz:=false,ver:=1 }
abbrev zKV(m:zD)(r:List Int)(len:Int)(ps:List Pss)(v0:Vis)(w0:Nat):Mem:=[bx 5 (zf m),bxv 1 26 (jC m r len ps (.slice 4 1 10 0 1 none) zox zox .je),bxv w0 10 (zJ1 v0),zLG v0,some (own 10 [zJ1 v0])]
abbrev zMw(m:zD)(r:List Int)(len:Int)(ps:List Pss)(v0 v1:Vis)(w0 w1:Nat):Mem:=[bx 5 (zf m),bxv 2 26 (jC m r len ps (.slice 4 2 10 0 2 none) zox zox .je),bxv w0 10 (zJ1 v0),zLG v0,some (own 10 [zJ1 v0,zJ1 v1]),bxv w1 10 (zJ1 v1),zLG v1]
theorem nj1b(m:zD)(r:List Int)(len:Int)(v0:Vis)(w0:Nat)(ps:List Pss)(hp:ps.length<=1000)(nz z:Nat):∀(t:List Pss) (i:Nat) (v:Vis) (w:Nat),ps.drop i=t->i<=ps.length->∃w',w<=w' /\
  Y L Cs zH8 (some [34,33,7,23,24,32,8,9]) 6 (njE ps nz z 5 i) (zKV m r len ps v0 w0++[bxv w 10 (zJ1 v)]) =
    some (.exit 2,(35,.w (Bo false))::njE ps nz z 5 ps.length,zKV m r len ps v0 w0++[bxv w' 10 (zJ1 (t.foldl (zJ5 z) v))]):=by
 intro t;induction t with
 |nil =>
  intro i v w hd hi;obtain rfl:=zUb hd hi;refine⟨w,jl _,?_⟩;rw[zj zH8.eq_1];simp
 |cons p t ih =>
  intro i v w hd hi;obtain⟨hil,hx,hd'⟩:=zL hd;have hw:=zB (i:=i) (by omega);rw[jP];by_cases c:p.kN=z
  ·have cb:(p.kN !=(z:Int))=false:=by simp[c]
   by_cases d:v.entry<0
   ·have e:zJ5 z v p=⟨v.kN,p.part,p,p⟩:=by simp[zJ5,c,d]
    obtain⟨w',h1,h⟩:=ih (i+1) ⟨v.kN,p.part,p,p⟩ (w+3) hd' hil;refine⟨w',by omega,?_⟩;rw[e,<-h,zj zH8.eq_1];clear h ih;simp[njE,zKV,own,jC,zox,zh,zi,zf,zJ1,zKF,hil,hx,hw,c,cb,d,zg,zH]
   ·have e:zJ5 z v p=⟨v.kN,v.entry,v.first,p⟩:=by simp[zJ5,c,d]
    obtain⟨w',h1,h⟩:=ih (i+1) ⟨v.kN,v.entry,v.first,p⟩ (w+1) hd' hil;refine⟨w',by omega,?_⟩;rw[e,<-h,zj zH8.eq_1];clear h ih;simp[njE,zKV,own,jC,zox,zh,zi,zf,zJ1,zKF,hil,hx,hw,c,cb,d,zg,zH]
  ·have cb:(p.kN !=(z:Int))=true:=by simp[c]
   have e:zJ5 z v p=v:=by simp[zJ5,c]
   obtain⟨w',h1,h⟩:=ih (i+1) v w hd' hil;refine⟨w',by omega,?_⟩;rw[e,<-h,zj zH8.eq_1];clear h ih;simp[njE,zKV,own,jC,zox,zh,zi,zf,zJ1,zKF,hil,hx,hw,c,cb,zg,zH]
abbrev zLk(nz z:Nat):Env:=[(23,.w (W nz)),(7,.w (Pt 1)),(24,.w (W z))]
theorem nj2a(m:zD)(r:List Int)(len:Int)(ps:List Pss)(hp:ps.length<=1000)(nz z:Nat)(hz:z<nz)(hn:nz<=10):∃w,
  Y L Cs zH7 (some [23,7,24]) 2 (zLk nz z) (njM m r len ps 0 .je) =
    if 0<=(zKn ps z).entry then Y L Cs zH7 (some [23,7,24]) 2 (zLk nz (z+1)) (zKV m r len ps (zKn ps z) w) else Y L Cs zH7 (some [23,7,24]) 2 (zLk nz (z+1)) (njM m r len ps 0 .je):=by
 have hw:=zB (i:=z) (by omega);have hzi:(z:Int)<nz:=by omega
 obtain⟨w',_,h⟩:=nj1 m r len ps hp nz z ps 0 ⟨z,-1,zKw,zKw⟩ 1 rfl (jx _);refine⟨w',?_⟩;rw[show ps.foldl (zJ5 z) ⟨z,-1,zKw,zKw⟩=zKn ps z from rfl]at h;generalize zKn ps z=v at *;simp only[njE,njM,jC,zox,zh,zi,zf,zJ1,jg,jf,jh]at h;by_cases c:0<=v.entry
 ·rw[if_pos c,zj zH7.eq_1];simp (maxSteps:=1000000) [zLk,njM,zKV,zLG,own,jC,zox,zh,zi,zf,zJ1,hzi,hz,hw,h,c,zg,zH]
 ·rw[if_neg c,zj zH7.eq_1];simp (maxSteps:=1000000) [zLk,njM,zKV,zLG,own,jC,zox,zh,zi,zf,zJ1,hzi,hz,hw,h,c,zg,zH]
theorem nj2b(m:zD)(r:List Int)(len:Int)(ps:List Pss)(v0:Vis)(w0:Nat)(hp:ps.length<=1000)(nz z:Nat)(hz:z<nz)(hn:nz<=10):∃w,
  Y L Cs zH7 (some [23,7,24]) 2 (zLk nz z) (zKV m r len ps v0 w0) =
    if 0<=(zKn ps z).entry then Y L Cs zH7 (some [23,7,24]) 2 (zLk nz (z+1)) (zMw m r len ps v0 (zKn ps z) w0 w) else Y L Cs zH7 (some [23,7,24]) 2 (zLk nz (z+1)) (zKV m r len ps v0 w0++[bxv w 10 (zJ1 (zKn ps z))]):=by
 have hw:=zB (i:=z) (by omega);have hzi:(z:Int)<nz:=by omega
 obtain⟨w',_,h⟩:=nj1b m r len v0 w0 ps hp nz z ps 0 ⟨z,-1,zKw,zKw⟩ 1 rfl (jx _);refine⟨w',?_⟩;rw[show ps.foldl (zJ5 z) ⟨z,-1,zKw,zKw⟩=zKn ps z from rfl]at h;generalize zKn ps z=v at *;simp only[njE,zKV,zLG,own,jC,zox,zh,zi,zf,zJ1,jg,jf,jh,ji,jp]at h;by_cases c:0<=v.entry
 ·rw[if_pos c,zj zH7.eq_1];simp (maxSteps:=1000000) [zLk,zMw,zKV,zLG,own,jC,zox,zh,zi,zf,zJ1,hzi,hz,hw,h,c,zg,zH]
 ·rw[if_neg c,zj zH7.eq_1];simp (maxSteps:=1000000) [zLk,zMw,zKV,zLG,own,jC,zox,zh,zi,zf,zJ1,hzi,hz,hw,h,c,zg,zH]
abbrev zJ3(m:zD)(r:List Int)(len:Int)(ps:List Pss)(vs:List Vis)(u:Nat)(was now:List Cl)(SW:Cl):Mem :=
 if vs=[] then [bxv u 26 (jC m r len ps .je was now SW)] else [bxv u 26 (jC m r len ps (.slice 1 vs.length 10 0 vs.length none) was now SW),some (own 10 (zKt vs))]
theorem zLF(nz:Nat)(M:Mem):Y L Cs zH7 (some [23,7,24]) 2 (zLk nz nz) M=some (.exit 0,[(25,.w (Bo false)),(7,.w (Pt 1)),(23,.w (W nz)),(24,.w (W nz))],M):=by
 rw[zj zH7.eq_1];simp
theorem zMM{m:zD}{zs:List Zon}{ss:List Sgn}(hF:zKj m zs ss){r:List Int}(hr:zdA m r=0)(len:Int) :
  ∃u,R L Cs zMn [.a (zf m),.c (.jc (zu r)),W len] []=some (.w (.c (.ptr 0 0 0 0)),zJ3 m r len (zKh m zs 0 r) (zKE (zKh m zs 0 r) 0 zs.length) u zox zox .je):=by
 have hf:=hF.full;have hz:=hF.two;have hA:=zB9 hf.uL hr len;have hP:=zPm hf hr (hF.srt r hr) (hF.few r hr);have hp:=hF.few r hr;have hzz:=hf.zd.z;generalize zKh m zs 0 r=ps at *;rw[zUa zMp rfl];have n2:((2:Nat):Int)=2:=rfl
 match zs,hz,hzz with
 |[],_,hzz =>
  refine⟨0,?_⟩;have y5:m.uc=[]:=hzz;have h:=zLF 0 (njM m r len ps 0 .je);rw[show zKE ps 0 ([]:List Zon).length=[] from rfl];simp only[zLk,njM,zKV,zMw,zLG,own,jC,zox,zh,zi,zf,zJ1,y5,jg,jf,ji,jp,jh,jX,n2]at h hA hP;simp (maxSteps:=1000000) [zID,zJ3,jC,zox,zf,zh,zi,hA,hP,y5,h,zJ1,own,zg,zX]
 |[z0],_,hzz =>
  have y5:m.uc=[zdP z0]:=hzz;obtain⟨w,h1⟩:=nj2a m r len ps (by omega) 1 0 (by omega) (by omega);rw[show [z0].length=1 from rfl];by_cases c:0<=(zKn ps 0).entry
  ·refine⟨1,?_⟩;have e:=zLF 1 (zKV m r len ps (zKn ps 0) w);simp only[jh,c,if_true]at h1;rw[e]at h1;have hv:zKE ps 0 1=[zKn ps 0]:=by simp[zKE,c]
   rw[hv];clear hv e;generalize zKn ps 0=v at *;simp only[zLk,njM,zKV,zMw,zLG,own,jC,zox,zh,zi,zf,zJ1,y5,jg,jf,ji,jp,jh,jX,n2]at h1 hA hP;simp (maxSteps:=1000000) [zID,zJ3,jC,zox,zf,zh,zi,hA,hP,y5,h1,zJ1,own,zg,zX]
  ·refine⟨0,?_⟩;have e:=zLF 1 (njM m r len ps 0 .je);simp only[jh,c,if_false]at h1;rw[e]at h1;have hv:zKE ps 0 1=[]:=by simp[zKE,c]
   rw[hv];clear hv e;simp only[zLk,njM,zKV,zMw,zLG,own,jC,zox,zh,zi,zf,zJ1,y5,jg,jf,ji,jp,jh,jX,n2]at h1 hA hP;simp (maxSteps:=1000000) [zID,zJ3,jC,zox,zf,zh,zi,hA,hP,y5,h1,zJ1,own,zg,zX]
 |[z0,z1],_,hzz =>
  have y5:m.uc=[zdP z0,zdP z1]:=hzz;obtain⟨w,h1⟩:=nj2a m r len ps (by omega) 2 0 (by omega) (by omega);rw[show [z0,z1].length=2 from rfl];by_cases c:0<=(zKn ps 0).entry
  ·simp only[jh,c,if_true]at h1;obtain⟨w2,h2⟩:=nj2b m r len ps (zKn ps 0) w (by omega) 2 1 (by omega) (by omega);by_cases d:0<=(zKn ps 1).entry
   ·refine⟨2,?_⟩;have e:=zLF 2 (zMw m r len ps (zKn ps 0) (zKn ps 1) w w2);simp only[jX,d,if_true]at h2;rw[h2,e]at h1;have hv:zKE ps 0 2=[zKn ps 0,zKn ps 1]:=by simp[zKE,c,d]
    rw[hv];clear hv e h2;generalize zKn ps 0=v at *;generalize zKn ps 1=v1 at *;simp only[zLk,njM,zKV,zMw,zLG,own,jC,zox,zh,zi,zf,zJ1,y5,jg,jf,ji,jp,jh,jX,n2]at h1 hA hP;simp (maxSteps:=1000000) [zID,zJ3,jC,zox,zf,zh,zi,hA,hP,y5,h1,zJ1,own,zg,zX]
   ·refine⟨1,?_⟩;have e:=zLF 2 (zKV m r len ps (zKn ps 0) w++[bxv w2 10 (zJ1 (zKn ps 1))]);simp only[jX,d,if_false]at h2;rw[h2,e]at h1;have hv:zKE ps 0 2=[zKn ps 0]:=by simp[zKE,c,d]
    rw[hv];clear hv e h2;generalize zKn ps 0=v at *;generalize zKn ps 1=v1 at *;simp only[zLk,njM,zKV,zMw,zLG,own,jC,zox,zh,zi,zf,zJ1,y5,jg,jf,ji,jp,jh,jX,n2]at h1 hA hP;simp (maxSteps:=1000000) [zID,zJ3,jC,zox,zf,zh,zi,hA,hP,y5,h1,zJ1,own,zg,zX]
  ·simp only[jh,c,if_false]at h1;obtain⟨w2,h2⟩:=nj2a m r len ps (by omega) 2 1 (by omega) (by omega);by_cases d:0<=(zKn ps 1).entry
   ·refine⟨1,?_⟩;have e:=zLF 2 (zKV m r len ps (zKn ps 1) w2);simp only[jX,d,if_true]at h2;rw[h2,e]at h1;have hv:zKE ps 0 2=[zKn ps 1]:=by simp[zKE,c,d]
    rw[hv];clear hv e h2;generalize zKn ps 1=v1 at *;simp only[zLk,njM,zKV,zMw,zLG,own,jC,zox,zh,zi,zf,zJ1,y5,jg,jf,ji,jp,jh,jX,n2]at h1 hA hP;simp (maxSteps:=1000000) [zID,zJ3,jC,zox,zf,zh,zi,hA,hP,y5,h1,zJ1,own,zg,zX]
   ·refine⟨0,?_⟩;have e:=zLF 2 (njM m r len ps 0 .je);simp only[jX,d,if_false]at h2;rw[h2,e]at h1;have hv:zKE ps 0 2=[]:=by simp[zKE,c,d]
    rw[hv];clear hv e h2;simp only[zLk,njM,zKV,zMw,zLG,own,jC,zox,zh,zi,zf,zJ1,y5,jg,jf,ji,jp,jh,jX,n2]at h1 hA hP;simp (maxSteps:=1000000) [zID,zJ3,jC,zox,zf,zh,zi,hA,hP,y5,h1,zJ1,own,zg,zX]
@[simp] theorem zOb(p:Swp):(swC p).length=4:=rfl
theorem zO6(l:List Pss)(hl:l.length<=100000000000)(fnv:Cl)(f:Pss->Bool)(M:Mem)(hc:∀p∈l,zx (R L Cs) ⟨true⟩ (.c fnv) [.a (zKF p)] M=some (.w (Bo (f p)),M,.no)) :
  ∃k:Int,R L Cs zLd [.c (.jc (zKd l)),.c fnv] M=some (.w (W k),M)/\(decide (0<=k)=l.any f):=by
 have htk:∀p:Pss,List.take (zKF p).length (zKF p)=zKF p:=fun p=>yC
 have h:=zxf (L:=L) (Cs:=Cs) (b:=zHw) (live:=some [7,1,0,8]) (n0:=M.length) l (fun i=>[(7,.w (W l.length)),(1,.w (.c fnv)),(0,.w (.c (.jc (zKd l)))),(8,.w (W i))]) M f (fun i=>(.ret,[(4,.w (W i))],M)) (.exit 0,[(9,.w (Bo false)),(0,.w (.c (.jc (zKd l)))),(1,.w (.c fnv)),(7,.w (W l.length)),(8,.w (W l.length))],M) ?_ ?_ ?_
 ·cases hq:l.findIdx? f with
  |none =>
   rw[hq]at h;refine⟨-1,?_,?_⟩
   ·simp only[jh]at h;rw[zUa zKB rfl];simp[zHI,h]
   ·rw[kH]at hq;have:l.any f=false:=by simpa using hq
    rw[this];decide
  |some k =>
   rw[hq]at h;refine⟨k,?_,?_⟩
   ·simp only[jh]at h;rw[zUa zKB rfl];simp[zHI,h]
   ·obtain⟨h1,h2,_⟩:=j9.1 hq;have:l.any f=true:=uE.2 ⟨_,jk h1,h2⟩;rw[this];simp
 ·intro i hi hp;have hw:=zB (i:=i) (by omega);have hcc:=hc l[i] (jk hi);have ht:=htk l[i];simp only[zNu]at ht;rw[hp]at hcc;rw[zj zHw.eq_1];simp[hi,hw,hcc,ht,-zx]
 ·intro i hi hp;have hcc:=hc l[i] (jk hi);have ht:=htk l[i];simp only[zNu]at ht;rw[hp]at hcc;rw[zj zHw.eq_1];simp[hi,hcc,ht,-zx]
 ·rw[zj zHw.eq_1];simp
theorem zOz(l:List Swp)(hl:l.length<=100000000000)(fnv:Cl)(f:Swp->Bool)(M:Mem)(hc:∀p∈l,zx (R L Cs) ⟨true⟩ (.c fnv) [.a (swC p)] M=some (.w (Bo (f p)),M,.no)) :
  ∃k:Int,R L Cs zLa [.c (.jc (zbf l)),.c fnv] M=some (.w (W k),M)/\(decide (0<=k)=l.any f):=by
 have htk:∀p:Swp,List.take (swC p).length (swC p)=swC p:=fun p=>yC
 have h:=zxf (L:=L) (Cs:=Cs) (b:=zHr) (live:=some [7,1,0,8]) (n0:=M.length) l (fun i=>[(7,.w (W l.length)),(1,.w (.c fnv)),(0,.w (.c (.jc (zbf l)))),(8,.w (W i))]) M f (fun i=>(.ret,[(4,.w (W i))],M)) (.exit 0,[(9,.w (Bo false)),(0,.w (.c (.jc (zbf l)))),(1,.w (.c fnv)),(7,.w (W l.length)),(8,.w (W l.length))],M) ?_ ?_ ?_
 ·cases hq:l.findIdx? f with
  |none =>
   rw[hq]at h;refine⟨-1,?_,?_⟩
   ·simp only[jh]at h;rw[zUa zKy rfl];simp[zHG,h]
   ·rw[kH]at hq;have:l.any f=false:=by simpa using hq
    rw[this];decide
  |some k =>
   rw[hq]at h;refine⟨k,?_,?_⟩
   ·simp only[jh]at h;rw[zUa zKy rfl];simp[zHG,h]
   ·obtain⟨h1,h2,_⟩:=j9.1 hq;have:l.any f=true:=uE.2 ⟨_,jk h1,h2⟩;rw[this];simp
 ·intro i hi hp;have hw:=zB (i:=i) (by omega);have hcc:=hc l[i] (jk hi);have ht:=htk l[i];simp only[zOb]at ht;rw[hp]at hcc;rw[zj zHr.eq_1];simp[hi,hw,hcc,ht,-zx]
 ·intro i hi hp;have hcc:=hc l[i] (jk hi);have ht:=htk l[i];simp only[zOb]at ht;rw[hp]at hcc;rw[zj zHr.eq_1];simp[hi,hcc,ht,-zx]
 ·rw[zj zHr.eq_1];simp
theorem zOy(l:List Vis)(hl:l.length<=100000000000)(fnv:Cl)(f:Vis->Bool)(M:Mem)(hc:∀p∈l,zx (R L Cs) ⟨true⟩ (.c fnv) [.a (zJ1 p)] M=some (.w (Bo (f p)),M,.no)) :
  ∃k:Int,R L Cs zKm [.c (.jc (zKt l)),.c fnv] M=some (.w (W k),M)/\(decide (0<=k)=l.any f):=by
 have htk:∀p:Vis,List.take (zJ1 p).length (zJ1 p)=zJ1 p:=fun p=>yC
 have h:=zxf (L:=L) (Cs:=Cs) (b:=zHq) (live:=some [7,1,0,8]) (n0:=M.length) l (fun i=>[(7,.w (W l.length)),(1,.w (.c fnv)),(0,.w (.c (.jc (zKt l)))),(8,.w (W i))]) M f (fun i=>(.ret,[(4,.w (W i))],M)) (.exit 0,[(9,.w (Bo false)),(0,.w (.c (.jc (zKt l)))),(1,.w (.c fnv)),(7,.w (W l.length)),(8,.w (W l.length))],M) ?_ ?_ ?_
 ·cases hq:l.findIdx? f with
  |none =>
   rw[hq]at h;refine⟨-1,?_,?_⟩
   ·simp only[jh]at h;rw[zUa zKb rfl];simp[zHF,h]
   ·rw[kH]at hq;have:l.any f=false:=by simpa using hq
    rw[this];decide
  |some k =>
   rw[hq]at h;refine⟨k,?_,?_⟩
   ·simp only[jh]at h;rw[zUa zKb rfl];simp[zHF,h]
   ·obtain⟨h1,h2,_⟩:=j9.1 hq;have:l.any f=true:=uE.2 ⟨_,jk h1,h2⟩;rw[this];simp
 ·intro i hi hp;have hw:=zB (i:=i) (by omega);have hcc:=hc l[i] (jk hi);have ht:=htk l[i];simp only[zNp]at ht;rw[hp]at hcc;rw[zj zHq.eq_1];simp[hi,hw,hcc,ht,-zx]
 ·intro i hi hp;have hcc:=hc l[i] (jk hi);have ht:=htk l[i];simp only[zNp]at ht;rw[hp]at hcc;rw[zj zHq.eq_1];simp[hi,hcc,ht,-zx]
 ·rw[zj zHq.eq_1];simp
abbrev juM(m:zD)(r:List Int)(len:Int)(ps:List Pss)(vs:List Vis)(u:Nat)(was now:zci)(sw:List Swp):Mem:=zJ3 m r len ps vs u (zG was) (zG now) (.jc (zbf sw))
abbrev J0:WV:=.c (.ptr 0 0 0 0)
def onW(m:zD)(r:List Int)(now:zci):Int:=if zmd m 0 r<now.ego.shi then 3 else 0
theorem zNc(m:zD)(r:List Int)(len:Int)(ps:List Pss)(vs:List Vis)(u:Nat)(was now:zci)(sw:List Swp) :
  R L Cs zJ6 [J0] (juM m r len ps vs u was now sw)=some (.w (W (onW m r now)),juM m r len ps vs u was now sw):=by
 rw[zUa zLu rfl];unfold onW;by_cases hv:vs=[]<;>by_cases c:zmd m 0 r<now.ego.shi<;>simp[zHV,juM,zJ3,hv,jC,zh,zi,zf,zG,c,zg,zH,own]
def zMt(m:zD)(r:List Int)(now:zci):Int:=if max (zNU m now.ego.slo now.ego.shi now.tick 0 (-1) r) 0<now.ego.vhi then 2 else 0
theorem zPf{m:zD}(h:zcp m)(hwk:m.kS.length<=1000)(r:List Int)(hl:r.length<=1000)(hon:zj2 m r)(len:Int)(ps:List Pss)(vs:List Vis)(u:Nat)(was now:zci)(hn:0<=now.ego.slo/\now.ego.slo<=10000000000/\0<=now.ego.shi/\now.ego.shi<=10000000000)(sw:List Swp) :
  R L Cs zKc [J0] (juM m r len ps vs u was now sw)=some (.w (W (zMt m r now)),juM m r len ps vs u was now sw):=by
 have hL:=zPh h hwk r hl hon len now.ego.slo now.ego.shi now.tick (by omega) (by omega);rw[zUa zL2 rfl];unfold zMt;generalize max (zNU m now.ego.slo now.ego.shi now.tick 0 (-1) r) 0=q at *;simp only[zh,zi,jg,jf]at hL;by_cases hv:vs=[]<;>by_cases c:q<now.ego.vhi<;>simp[zIk,juM,zJ3,hv,jC,zh,zi,zf,zG,hL,c,zg,zH,own]
structure zPI(m:zD)(s:Swp):Prop where
 lane:0<=s.lane/\s.lane<m.jb.length
 lo:0<=s.lo/\s.lo<=1000000
 hi:0<=s.hi/\s.hi<=1000000
def apP(m:zD)(r:List Int)(shi:Int)(s:Swp):Bool:=match zgo r s.lane with
 |some i=>!s.cap&&decide (kq m r i+s.lo<=shi)
 |none=>false
def zMF(m:zD)(r:List Int)(now:zci)(sw:List Swp):Int:=if now.ego.vhi=0 then 0 else if sw.any (apP m r now.ego.shi) then 4 else 0
abbrev apE(sw:List Swp)(i:Nat):Env:=[(17,.w (W sw.length)),(16,.w (.c (.jc (zbf sw)))),(0,.w J0),(18,.w (W i))]
theorem zNY{m:zD}(h:zcp m)(r:List Int)(hl:r.length<=8)(hon:zj2 m r)(len:Int)(ps:List Pss)(vs:List Vis)(u:Nat)(was now:zci)(sw:List Swp)(hs:sw.length<=100000000000)(hok:∀s∈sw,zPI m s)(n0:Nat)(hn0:n0=(juM m r len ps vs u was now sw).length) :
  (sw.any (apP m r now.ego.shi)=true->∃s,Y L Cs zHR (some [17,16,0,18]) n0 (apE sw 0) (juM m r len ps vs u was now sw)=some (.ret,[(2,.w (W 4))],juM m r len ps vs u was now sw++[bxv 1 4 (swC s)])) /\
  (sw.any (apP m r now.ego.shi)=false->Y L Cs zHR (some [17,16,0,18]) n0 (apE sw 0) (juM m r len ps vs u was now sw)=some (.exit 0,[(19,.w (Bo false)),(0,.w J0),(16,.w (.c (.jc (zbf sw)))),(17,.w (W sw.length)),(18,.w (W sw.length))],juM m r len ps vs u was now sw)):=by
 subst hn0;have hly:ziO m r 0:=⟨h,hl,hon,by omega⟩;have key:=zxf (L:=L) (Cs:=Cs) (b:=zHR) (live:=some [17,16,0,18]) (n0:=(juM m r len ps vs u was now sw).length) sw (fun i=>apE sw i) (juM m r len ps vs u was now sw) (apP m r now.ego.shi) (fun i=>(.ret,[(2,.w (W 4))],juM m r len ps vs u was now sw++[bxv 1 4 (swC (sw.getD i zpa))])) (.exit 0,[(19,.w (Bo false)),(0,.w J0),(16,.w (.c (.jc (zbf sw)))),(17,.w (W sw.length)),(18,.w (W sw.length))],juM m r len ps vs u was now sw) ?_ ?_ ?_
 ·rw[key];cases hq:sw.findIdx? (apP m r now.ego.shi)with
  |none =>
   rw[kH]at hq;have:sw.any (apP m r now.ego.shi)=false:=by simpa using hq
   rw[this];exact⟨fun h=>(by cases h),fun _=>rfl⟩
  |some k =>
   obtain⟨h1,h2,_⟩:=j9.1 hq;have:sw.any (apP m r now.ego.shi)=true:=uE.2 ⟨_,jk h1,h2⟩;rw[this];exact⟨fun _=>⟨_,rfl⟩,fun h=>(by cases h)⟩
 ·intro i hi hp;have hw:=zB (i:=i) (by omega);have hx:=zoq r sw[i].lane (by omega);have hso:=hok sw[i] (jk hi);generalize hsi:sw[i]=s at *;unfold apP at hp;rw[zj zHR.eq_1];cases hL:zgo r s.lane with
  |none =>
   rw[hL]at hx;simp only[zbe]at hx;by_cases hv:vs=[]<;>simp[apE,juM,zJ3,hv,jC,zh,zi,zf,zG,swC,hi,hsi,hw,hx,zg,zH,own]
  |some j =>
   obtain⟨hjl,_⟩:=zfT hL;have hsl:j<(zW m 0 r).length:=by rw[zcO];exact hjl
   have hst:(zW m 0 r)[j]=kq m r j:=by simp[kq,hsl]
   have hsb:=zmA hly hjl;have hlo:=hso.lo;have w2:=ku (kq m r j+s.lo);have hj0:(0:Int)<=(j:Int):=by omega
   rw[hL]at hx hp;simp only[zbe]at hx;cases hc:s.cap with
   |true=>by_cases hv:vs=[]<;>simp[apE,juM,zJ3,hv,jC,zh,zi,zf,zG,swC,hi,hsi,hw,hx,hc,hj0,zg,zH,own]
   |false =>
    simp only[hc,Bool.not_false,ul,decide_eq_false_iff_not]at hp;by_cases hv:vs=[]<;>simp[apE,juM,zJ3,hv,jC,zh,zi,zf,zG,swC,hi,hsi,hw,hx,hc,hj0,hsl,hst,w2,hp,zg,zH,own]
 ·intro i hi hp;have hx:=zoq r sw[i].lane (by omega);have hso:=hok sw[i] (jk hi);have hgd:sw.getD i zpa=sw[i]:=by simp[jo,hi]
  rw[hgd];clear hgd;generalize hsi:sw[i]=s at *;unfold apP at hp;rw[zj zHR.eq_1];cases hL:zgo r s.lane with
  |none=>rw[hL]at hp;cases hp
  |some j =>
   obtain⟨hjl,_⟩:=zfT hL;have hsl:j<(zW m 0 r).length:=by rw[zcO];exact hjl
   have hst:(zW m 0 r)[j]=kq m r j:=by simp[kq,hsl]
   have hsb:=zmA hly hjl;have hlo:=hso.lo;have w2:=ku (kq m r j+s.lo);have hj0:(0:Int)<=(j:Int):=by omega
   rw[hL]at hx hp;simp only[zbe]at hx;simp only[jm,kO,decide_eq_true_eq]at hp;by_cases hv:vs=[]<;>simp[apE,juM,zJ3,hv,jC,zh,zi,zf,zG,swC,hi,hsi,hx,hp.1,hj0,hsl,hst,w2,hp.2,zg,zH,own]
 ·rw[zj zHR.eq_1];by_cases hv:vs=[]<;>simp[apE,juM,zJ3,hv]
theorem zOh{m:zD}(h:zcp m)(r:List Int)(hl:r.length<=8)(hon:zj2 m r)(len:Int)(ps:List Pss)(vs:List Vis)(u:Nat)(was now:zci)(sw:List Swp)(hs:sw.length<=100000000000)(hok:∀s∈sw,zPI m s) :
  R L Cs zJ9 [J0] (juM m r len ps vs u was now sw)=some (.w (W (zMF m r now sw)),juM m r len ps vs u was now sw):=by
 obtain⟨g1,g2⟩:=zNY h r hl hon len ps vs u was now sw hs hok _ rfl;rw[zUa zLM rfl];unfold zMF;by_cases c:now.ego.vhi=0
 ·have cb:(now.ego.vhi==0)=true:=by simp[c]
  by_cases hv:vs=[]<;>simp[zIa,juM,zJ3,hv,jC,zh,zi,zf,zG,c,cb,zg,zH,own]
 ·have cb:(now.ego.vhi==0)=false:=by simp[c]
  cases hq:sw.any (apP m r now.ego.shi)with
  |true =>
   obtain⟨s,g⟩:=g1 hq;clear g1 g2;by_cases hv:vs=[]
   ·simp only[apE,juM,zJ3,hv,jC,zh,zi,zf,zG,swC,if_true,jg,jf,jh,ji,jp]at g;simp[zIa,juM,zJ3,hv,jC,zh,zi,zf,zG,swC,c,cb,g,zg,zH,own]
   ·simp only[apE,juM,zJ3,hv,jC,zh,zi,zf,zG,swC,own,zJZ,if_false,jg,jf,jh,ji,jp]at g;simp[zIa,juM,zJ3,hv,jC,zh,zi,zf,zG,swC,c,cb,g,zg,zH,own]
  |false =>
   have g:=g2 hq;clear g1 g2;by_cases hv:vs=[]
   ·simp only[apE,juM,zJ3,hv,jC,zh,zi,zf,zG,if_true,jg,jf,jh,ji,jp]at g;simp[zIa,juM,zJ3,hv,jC,zh,zi,zf,zG,c,cb,g,zg,zH,own]
   ·simp only[apE,juM,zJ3,hv,jC,zh,zi,zf,zG,own,zJZ,if_false,jg,jf,jh,ji,jp]at g;simp[zIa,juM,zJ3,hv,jC,zh,zi,zf,zG,c,cb,g,zg,zH,own]
def inS(p:Prt)(s:Swp):Bool:=!s.cap&&decide (s.lane=p.lane)&&decide (s.lo<=p.hi)&&decide (p.lo<=s.hi)
theorem zOH(p:Prt)(s:Swp):R L Cs zKG [.a (swC s),.c (.ptr 0 0 0 0)] [bxv 1 4 (zeB p)]=some (.w (Bo (inS p s)),[bxv 1 4 (zeB p)]):=by
 rw[zUa zLt rfl];unfold inS;cases hc:s.cap with
 |true=>simp[zHU,swC,zeB,hc,zg,zH]
 |false =>
  by_cases c1:s.lane=p.lane
  ·have b1:(s.lane==p.lane)=true:=by simp[c1]
   by_cases c2:s.lo<=p.hi<;>by_cases c3:p.lo<=s.hi<;>simp[zHU,swC,zeB,hc,c1,b1,c2,c3,zg,zH]
  ·have b1:(s.lane==p.lane)=false:=by simp[c1]
   simp[zHU,swC,zeB,hc,c1,b1,zg,zH]
abbrev zPL:Cl:=.fn zKG [] [.ptr 0 0 0 0]
theorem zNk(p:Prt)(sw:List Swp)(hs:sw.length<=100000000000):R L Cs zKR [.c (.jc (zbf sw)),.c zPL] [bxv 1 4 (zeB p)]=some (.w (Bo (sw.any (inS p))),[bxv 1 4 (zeB p)]):=by
 obtain⟨k,h1,h2⟩:=zOz sw hs zPL (inS p) [bxv 1 4 (zeB p)] (fun s _=>by
  have h:=zOH p s;simp only[zeB,swC]at h;simp[h,zeB,swC])
 rw[zUa zKU rfl];simp only[zeB]at h1;simp[zHt,h1,h2,zeB]
def zNK(sw:List Swp)(entry:Int):Nat->List Prt->Bool
 |_,[]=>false
 |i,p::r=>(decide ((i:Int)≠entry)&&sw.any (inS p))||zNK sw entry (i+1) r
abbrev tkM(m:zD)(r:List Int)(len:Int)(ps:List Pss)(vs:List Vis)(u:Nat)(was now:zci)(sw:List Swp)(v:Vis):Mem:=juM m r len ps vs u was now sw++[bx 10 (zJ1 v)]
abbrev tkE(n:Nat)(q:Zon)(i:Nat):Env:=[(19,.w (W q.parts.length)),(18,.w (.c (.jc (zkl q.parts)))),(3,.w (Pt n)),(0,.w J0),(20,.w (W i))]
theorem zNJ(m:zD)(r:List Int)(len:Int)(ps:List Pss)(vs:List Vis)(u:Nat)(was now:zci)(sw:List Swp)(hs:sw.length<=100000000000)(v:Vis)(q:Zon)(hq:q.parts.length<=6)(n:Nat)(hn:n=(juM m r len ps vs u was now sw).length):∀(t:List Prt) (i:Nat),q.parts.drop i=t->i<=q.parts.length ->
  (zNK sw v.entry i t=true->∃X,Y L Cs zHP (some [19,18,3,0,20]) (n+1) (tkE n q i) (tkM m r len ps vs u was now sw v)=some (.ret,[(4,.w (Bo true))],tkM m r len ps vs u was now sw v++[bxv 1 4 (zeB X)])) /\
  (zNK sw v.entry i t=false->Y L Cs zHP (some [19,18,3,0,20]) (n+1) (tkE n q i) (tkM m r len ps vs u was now sw v)=some (.exit 0,[(21,.w (Bo false)),(0,.w J0),(3,.w (Pt n)),(18,.w (.c (.jc (zkl q.parts)))),(19,.w (W q.parts.length)),(20,.w (W q.parts.length))],tkM m r len ps vs u was now sw v)):=by
 intro t;induction t with
 |nil =>
  intro i hd hi;obtain rfl:=zUb hd hi;refine⟨fun h=>(by cases h),fun _=>?_⟩;subst hn;rw[zj zHP.eq_1];by_cases hv:vs=[]<;>simp[tkE,tkM,juM,zJ3,hv]
 |cons p t ih =>
  intro i hd hi;obtain⟨hil,hp,hd'⟩:=zL hd;have hw:=zB (i:=i) (by omega);obtain⟨i1,i2⟩:=ih (i+1) hd' hil;have hC:=zNk p sw hs;have hnn:n=if vs=[] then 1 else 2:=by
   rw[hn];unfold juM zJ3;split<;>rfl
  have step:(decide ((i:Int)≠v.entry)&&sw.any (inS p))=false->Y L Cs zHP (some [19,18,3,0,20]) (n+1) (tkE n q i) (tkM m r len ps vs u was now sw v)=Y L Cs zHP (some [19,18,3,0,20]) (n+1) (tkE n q (i+1)) (tkM m r len ps vs u was now sw v):=by
   intro hf;clear i1 i2 ih;simp only[zeB]at hC;rw[zj zHP.eq_1];by_cases c:(i:Int)=v.entry
   ·have cb:((i:Int)==v.entry)=true:=by simp[c]
    have cb':((i:Int) !=v.entry)=false:=by simp[c]
    by_cases hv:vs=[]
    ·rw[if_pos hv]at hnn;subst hnn;simp[tkE,tkM,juM,zJ3,hv,jC,zh,zi,zf,zG,zJ1,zeB,hil,hp,hw,cb',zg,zH,own]
    ·rw[if_neg hv]at hnn;subst hnn;simp[tkE,tkM,juM,zJ3,hv,jC,zh,zi,zf,zG,zJ1,zeB,hil,hp,hw,cb',zg,zH,own]
   ·have cb':((i:Int) !=v.entry)=true:=by simp[c]
    have hf':sw.any (inS p)=false:=by simpa [c]using hf
    rw[hf']at hC;by_cases hv:vs=[]
    ·rw[if_pos hv]at hnn;subst hnn;simp[tkE,tkM,juM,zJ3,hv,jC,zh,zi,zf,zG,zJ1,zeB,hil,hp,hw,cb',hC,zg,zH,own]
    ·rw[if_neg hv]at hnn;subst hnn;simp[tkE,tkM,juM,zJ3,hv,jC,zh,zi,zf,zG,zJ1,zeB,hil,hp,hw,cb',hC,zg,zH,own]
  have hit:(decide ((i:Int)≠v.entry)&&sw.any (inS p))=true->Y L Cs zHP (some [19,18,3,0,20]) (n+1) (tkE n q i) (tkM m r len ps vs u was now sw v)=some (.ret,[(4,.w (Bo true))],tkM m r len ps vs u was now sw v++[bxv 1 4 (zeB p)]):=by
   intro hf;clear i1 i2 ih step;simp only[jm,decide_eq_true_eq]at hf;have cb':((i:Int) !=v.entry)=true:=by simp[hf.1]
   rw[hf.2]at hC;simp only[zeB]at hC;rw[zj zHP.eq_1];by_cases hv:vs=[]
   ·rw[if_pos hv]at hnn;subst hnn;simp[tkE,tkM,juM,zJ3,hv,jC,zh,zi,zf,zG,zJ1,zeB,hil,hp,hw,cb',hC,zg,zH,own]
   ·rw[if_neg hv]at hnn;subst hnn;simp[tkE,tkM,juM,zJ3,hv,jC,zh,zi,zf,zG,zJ1,zeB,hil,hp,hw,cb',hC,zg,zH,own]
  unfold zNK;cases hb:(decide ((i:Int)≠v.entry)&&sw.any (inS p))with
  |true=>exact⟨fun _=>⟨p,hit hb⟩,fun h=>by simp at h⟩
  |false =>
   rw[step hb,um];exact⟨i1,i2⟩
def zMh(zs:List Zon)(z:Int):List Prt:=((zs[z.toNat]?).map Zon.parts).getD []
structure zKN(zs:List Zon)(v:Vis):Prop where
 z:0<=v.kN/\v.kN<zs.length
 few:(zMh zs v.kN).length<=6
 en:0<=v.entry/\v.entry<(zMh zs v.kN).length
def zNf(zs:List Zon)(sw:List Swp)(v:Vis):Bool:=zNK sw v.entry 0 (zMh zs v.kN)
theorem zPJ{m:zD}{zs:List Zon}(hz:m.uc=zk8 zs)(r:List Int)(len:Int)(ps:List Pss)(vs:List Vis)(u:Nat)(was now:zci)(sw:List Swp)(hs:sw.length<=100000000000)(v:Vis)(hv:zKN zs v) :
  R L Cs zLI [J0,.a (zJ1 v)] (juM m r len ps vs u was now sw)=some (.w (Bo (zNf zs sw v)),juM m r len ps vs u was now sw):=by
 obtain⟨z,hzz⟩:=jv hv.z.1;have hzl:z<zs.length:=by have:=hv.z.2;omega
 have hzi:(z:Int)<zs.length:=by omega
 have hzp:zMh zs v.kN=zs[z].parts:=by rw[hzz];simp[zMh,hzl]
 have hq:=hv.few;rw[hzp]at hq;unfold zNf;rw[hzp];have key:∀n,n=(juM m r len ps vs u was now sw).length->_:=fun n hn=>zNJ m r len ps vs u was now sw hs v zs[z] hq n hn zs[z].parts 0 rfl (jx _)
 rw[zUa zLL rfl];by_cases h0:vs=[]
 ·obtain⟨g1,g2⟩:=key 1 (by simp[juM,zJ3,h0]);cases hb:zNK sw v.entry 0 zs[z].parts with
  |true =>
   obtain⟨X,g⟩:=g1 hb;clear g1 g2 key;simp only[tkE,tkM,juM,zJ3,h0,jC,zh,zi,zf,zG,zJ1,zeB,hzz,hz,if_true,jg,jf,jh]at g;simp[zH9,juM,zJ3,h0,jC,zh,zi,zf,zG,zJ1,zeB,zdP,hz,hzz,hzl,hzi,g,zg,zH,own]
  |false =>
   have g:=g2 hb;clear g1 g2 key;simp only[tkE,tkM,juM,zJ3,h0,jC,zh,zi,zf,zG,zJ1,zeB,hzz,hz,if_true,jg,jf,jh]at g;simp[zH9,juM,zJ3,h0,jC,zh,zi,zf,zG,zJ1,zeB,zdP,hz,hzz,hzl,hzi,g,zg,zH,own]
 ·obtain⟨g1,g2⟩:=key 2 (by simp[juM,zJ3,h0]);cases hb:zNK sw v.entry 0 zs[z].parts with
  |true =>
   obtain⟨X,g⟩:=g1 hb;clear g1 g2 key;simp only[tkE,tkM,juM,zJ3,h0,jC,zh,zi,zf,zG,zJ1,zeB,hzz,hz,own,zJZ,if_false,jg,jf,jh]at g;simp[zH9,juM,zJ3,h0,jC,zh,zi,zf,zG,zJ1,zeB,zdP,hz,hzz,hzl,hzi,g,zg,zH,own]
  |false =>
   have g:=g2 hb;clear g1 g2 key;simp only[tkE,tkM,juM,zJ3,h0,jC,zh,zi,zf,zG,zJ1,zeB,hzz,hz,own,zJZ,if_false,jg,jf,jh]at g;simp[zH9,juM,zJ3,h0,jC,zh,zi,zf,zG,zJ1,zeB,zdP,hz,hzz,hzl,hzi,g,zg,zH,own]
def zM4(z high low:Int)(p:Pss):Bool:=decide (p.kN=z)&&decide (p.lo<=high)&&decide (low<=p.hi)
abbrev alM(v:Vis)(high low:Int):Mem:=[bxv 1 10 (zJ1 v),bxv 1 1 [I high],bxv 1 1 [I low]]
abbrev zQB:Cl:=.fn zKH [] [.ptr 0 0 0 0,.ptr 1 0 0 0,.ptr 2 0 0 0]
theorem zOL(v:Vis)(high low:Int)(p:Pss):R L Cs zKH [.a (zKF p),.c (.ptr 0 0 0 0),.c (.ptr 1 0 0 0),.c (.ptr 2 0 0 0)] (alM v high low)=some (.w (Bo (zM4 v.kN high low p)),alM v high low):=by
 rw[zUa zLv rfl];unfold zM4;by_cases c1:p.kN=v.kN
 ·have b1:(p.kN==v.kN)=true:=by simp[c1]
  by_cases c2:p.lo<=high<;>by_cases c3:low<=p.hi<;>simp[zHX,zJ1,zKF,c1,b1,c2,c3,zg,zH]
 ·have b1:(p.kN==v.kN)=false:=by simp[c1]
  simp[zHX,zJ1,zKF,c1,b1,zg,zH]
theorem zNl(v:Vis)(high low:Int)(ps:List Pss)(hs:ps.length<=100000000000):R L Cs zKY [.c (.jc (zKd ps)),.c zQB] (alM v high low)=some (.w (Bo (ps.any (zM4 v.kN high low))),alM v high low):=by
 obtain⟨k,h1,h2⟩:=zO6 ps hs zQB (zM4 v.kN high low) (alM v high low) (fun p _=>by
  have h:=zOL v high low p;simp only[alM,zKF,zJ1]at h;simp[h,alM,zKF,zJ1])
 rw[zUa zK2 rfl];simp only[alM,zJ1]at h1;simp[zHz,h1,h2,alM,zJ1]
def alP(zs:List Zon)(ps:List Pss)(sw:List Swp)(high low:Int)(v:Vis):Bool:=ps.any (zM4 v.kN high low)&&zNf zs sw v
abbrev aoM(m:zD)(r:List Int)(len:Int)(ps:List Pss)(vs:List Vis)(u:Nat)(was now:zci)(sw:List Swp)(low high:Int):Mem:=[bxv u 26 (jC m r len ps (.slice 1 vs.length 10 0 vs.length none) (zG was) (zG now) (.jc (zbf sw))),some (own 10 (zKt vs)),bxv 1 1 [I low],bxv 1 1 [I high]]
abbrev aoE(vs:List Vis)(i:Nat):Env:=[(30,.w (W vs.length)),(29,.w (.c (.slice 1 vs.length 10 0 vs.length none))),(3,.w (Pt 2)),(4,.w (Pt 3)),(0,.w J0),(31,.w (W i))]
theorem zNZ{m:zD}{zs:List Zon}(hz:m.uc=zk8 zs)(r:List Int)(len:Int)(ps:List Pss)(hp:ps.length<=1000)(vs:List Vis)(hv0:vs≠[])(hvl:vs.length<=100)(hvo:∀v∈vs,zKN zs v)(u:Nat)(was now:zci)(sw:List Swp)(hs:sw.length<=100000000000)(low high:Int):∀(t:List Vis) (i:Nat),vs.drop i=t->i<=vs.length ->
  (t.any (alP zs ps sw high low)=true->∃X,Y L Cs zHS (some [30,29,3,4,0,31]) 4 (aoE vs i) (aoM m r len ps vs u was now sw low high)=some (.ret,[(2,.w (W 5))],aoM m r len ps vs u was now sw low high++[bxv 1 10 (zJ1 X)])) /\
  (t.any (alP zs ps sw high low)=false->Y L Cs zHS (some [30,29,3,4,0,31]) 4 (aoE vs i) (aoM m r len ps vs u was now sw low high)=some (.exit 0,[(32,.w (Bo false)),(0,.w J0),(4,.w (Pt 3)),(3,.w (Pt 2)),(29,.w (.c (.slice 1 vs.length 10 0 vs.length none))),(30,.w (W vs.length)),(31,.w (W vs.length))],aoM m r len ps vs u was now sw low high)):=by
 intro t;induction t with
 |nil =>
  intro i hd hi;obtain rfl:=zUb hd hi;refine⟨fun h=>(by cases h),fun _=>?_⟩;rw[zj zHS.eq_1];simp[aoE,aoM]
 |cons v t ih =>
  intro i hd hi;obtain⟨hil,hx,hd'⟩:=zL hd;have hw:=zB (i:=i) (by omega);obtain⟨i1,i2⟩:=ih (i+1) hd' hil;have hC:=zNl v high low ps (by omega);have hT:=zPJ hz r len ps vs u was now sw hs v (hvo v (by rw[<-hx];exact jk hil));simp only[alM,zJ1,juM,zJ3,hv0,jC,zh,zi,zf,zG,own,zJZ,if_false,jg,jf]at hC hT;have step:alP zs ps sw high low v=false->Y L Cs zHS (some [30,29,3,4,0,31]) 4 (aoE vs i) (aoM m r len ps vs u was now sw low high)=Y L Cs zHS (some [30,29,3,4,0,31]) 4 (aoE vs (i+1)) (aoM m r len ps vs u was now sw low high):=by
   intro hf;clear i1 i2 ih;unfold alP at hf;rw[zj zHS.eq_1];cases hc:ps.any (zM4 v.kN high low)with
   |false =>
    rw[hc]at hC;simp[aoE,aoM,jC,zh,zi,zf,zG,zJ1,hil,hx,hw,hC,zg,zH,own]
   |true =>
    have ht:zNf zs sw v=false:=by simpa [hc]using hf
    rw[hc]at hC;rw[ht]at hT;simp[aoE,aoM,jC,zh,zi,zf,zG,zJ1,hil,hx,hw,hC,hT,zg,zH,own]
  have hit:alP zs ps sw high low v=true->Y L Cs zHS (some [30,29,3,4,0,31]) 4 (aoE vs i) (aoM m r len ps vs u was now sw low high)=some (.ret,[(2,.w (W 5))],aoM m r len ps vs u was now sw low high++[bxv 1 10 (zJ1 v)]):=by
   intro hf;clear i1 i2 ih step;unfold alP at hf;rw[jm]at hf;rw[hf.1]at hC;rw[hf.2]at hT;rw[zj zHS.eq_1];simp[aoE,aoM,jC,zh,zi,zf,zG,zJ1,hil,hx,hw,hC,hT,zg,zH,own]
  rw[yw];cases hb:alP zs ps sw high low v with
  |true=>exact⟨fun _=>⟨v,hit hb⟩,fun h=>by simp at h⟩
  |false =>
   rw[step hb,um];exact⟨i1,i2⟩
def zMG(zs:List Zon)(len:Int)(ps:List Pss)(vs:List Vis)(was now:zci)(sw:List Swp):Int:=if vs.any (alP zs ps sw now.ego.shi (was.ego.slo-len)) then 5 else 0
theorem zOi{m:zD}{zs:List Zon}(hz:m.uc=zk8 zs)(r:List Int)(len:Int)(hlen:0<=len/\len<=100000)(ps:List Pss)(hp:ps.length<=1000)(vs:List Vis)(hvl:vs.length<=100)(hvo:∀v∈vs,zKN zs v)(u:Nat)(was now:zci)(hws:0<=was.ego.slo/\was.ego.slo<=1000000000000000)(sw:List Swp)(hs:sw.length<=100000000000) :
  R L Cs zKa [J0] (juM m r len ps vs u was now sw)=some (.w (W (zMG zs len ps vs was now sw)),juM m r len ps vs u was now sw):=by
 have w1:=ku (was.ego.slo-len);unfold zMG;by_cases h0:vs=[]
 ·subst h0;have g:∀E M,Y L Cs zHS (some [30,29,3,4,0,31]) 3 [(30,.w (W 0)),(29,E),(3,.w (Pt 1)),(4,.w (Pt 2)),(0,.w J0),(31,.w (W 0))] M=some (.exit 0,[(32,.w (Bo false)),(0,.w J0),(4,.w (Pt 2)),(3,.w (Pt 1)),(29,E),(30,.w (W 0)),(31,.w (W 0))],M):=by
   intro E M;rw[zj zHS.eq_1];simp
  rw[zUa zK3 rfl];simp[zIb,juM,zJ3,jC,zh,zi,zf,zG,g,w1,zg,zH,own]
 ·obtain⟨g1,g2⟩:=zNZ hz r len ps hp vs h0 hvl hvo u was now sw hs (was.ego.slo-len) now.ego.shi vs 0 rfl (jx _);rw[zUa zK3 rfl];cases hb:vs.any (alP zs ps sw now.ego.shi (was.ego.slo-len))with
  |true =>
   obtain⟨X,g⟩:=g1 hb;clear g1 g2;simp only[aoE,aoM,jC,zh,zi,zf,zG,zJ1,own,zJZ,jg,jf,jh]at g;simp[zIb,juM,zJ3,h0,jC,zh,zi,zf,zG,zJ1,g,w1,zg,zH,own]
  |false =>
   have g:=g2 hb;clear g1 g2;simp only[aoE,aoM,jC,zh,zi,zf,zG,zJ1,own,zJZ,jg,jf,jh]at g;simp[zIb,juM,zJ3,h0,jC,zh,zi,zf,zG,zJ1,g,w1,zg,zH,own]
def zPp(zs:List Zon)(z:Int):Int:=((zs[z.toNat]?).map Zon.qM).getD 0
def zPX(zs:List Zon)(z e:Int):Int:=(((zMh zs z)[e.toNat]?).map Prt.lane).getD 0
def zP0(zs:List Zon)(ss:List Sgn)(v:Vis)(tick:Int):Bool:=zfA (ss.getD (zPp zs v.kN-1).toNat ztn) (zPX zs v.kN v.entry) tick
def zP1(zs:List Zon)(shi slo:Int)(v:Vis):Bool:=decide (0<zPp zs v.kN)&&decide (v.first.lo<=shi)&&decide (slo<v.first.lo)
def zNj(zs:List Zon)(ss:List Sgn)(shi slo tick:Int)(v:Vis):Bool:=zP1 zs shi slo v && !zP0 zs ss v tick
abbrev awM(m:zD)(r:List Int)(len:Int)(ps:List Pss)(vs:List Vis)(u:Nat)(was now:zci)(sw:List Swp):Mem:=[bxv u 26 (jC m r len ps (.slice 1 vs.length 10 0 vs.length none) (zG was) (zG now) (.jc (zbf sw))),some (own 10 (zKt vs))]
abbrev awE(vs:List Vis)(i:Nat):Env:=[(11,.w (W vs.length)),(10,.w (.c (.slice 1 vs.length 10 0 vs.length none))),(0,.w J0),(12,.w (W i))]
theorem zN0{m:zD}{zs:List Zon}{ss:List Sgn}(hf:zmq m zs ss)(r:List Int)(len:Int)(ps:List Pss)(vs:List Vis)(hv0:vs≠[])(hvl:vs.length<=100)(hvo:∀v∈vs,zKN zs v)(u:Nat)(was now:zci)(sw:List Swp):∀(t:List Vis) (i:Nat),vs.drop i=t->i<=vs.length ->
  (t.any (zNj zs ss now.ego.shi was.ego.slo was.tick)=true->∃X Z,Y L Cs zHL (some [11,10,0,12]) 2 (awE vs i) (awM m r len ps vs u was now sw)=some (.ret,[(2,.w (W 6))],awM m r len ps vs u was now sw++[bxv 1 10 (zJ1 X),bxv 1 2 (zdP Z)])) /\
  (t.any (zNj zs ss now.ego.shi was.ego.slo was.tick)=false->Y L Cs zHL (some [11,10,0,12]) 2 (awE vs i) (awM m r len ps vs u was now sw)=some (.exit 0,[(13,.w (Bo false)),(0,.w J0),(10,.w (.c (.slice 1 vs.length 10 0 vs.length none))),(11,.w (W vs.length)),(12,.w (W vs.length))],awM m r len ps vs u was now sw)):=by
 have hz:=hf.zd.z;have hsg:=hf.zd.s;intro t;induction t with
 |nil =>
  intro i hd hi;obtain rfl:=zUb hd hi;refine⟨fun h=>(by cases h),fun _=>?_⟩;rw[zj zHL.eq_1];simp[awE,awM]
 |cons v t ih =>
  intro i hd hi;obtain⟨hil,hx,hd'⟩:=zL hd;have hw:=zB (i:=i) (by omega);obtain⟨i1,i2⟩:=ih (i+1) hd' hil;have hv:=hvo v (by rw[<-hx];exact jk hil);obtain⟨z,hzz⟩:=jv hv.z.1;have hzl:z<zs.length:=by have:=hv.z.2;omega
  have hzi:(z:Int)<zs.length:=by omega
  have hzp:zMh zs v.kN=zs[z].parts:=by rw[hzz];simp[zMh,hzl]
  have hzg:zPp zs v.kN=zs[z].qM:=by rw[hzz];simp[zPp,hzl]
  have hen:=hv.en;rw[hzp]at hen;obtain⟨e,he⟩:=jv hen.1;have hel:e<zs[z].parts.length:=by omega
  have hei:(e:Int)<zs[z].parts.length:=by omega
  have hpl:zPX zs v.kN v.entry=zs[z].parts[e].lane:=by unfold zPX;rw[hzp,he];simp[hel]
  have hsig:=hf.zd.sig zs[z] (jk hzl);have hsf:=hf.zd.sfew;have step:zNj zs ss now.ego.shi was.ego.slo was.tick v=false->Y L Cs zHL (some [11,10,0,12]) 2 (awE vs i) (awM m r len ps vs u was now sw)=Y L Cs zHL (some [11,10,0,12]) 2 (awE vs (i+1)) (awM m r len ps vs u was now sw):=by
   intro hff;clear i1 i2 ih;unfold zNj zP1 zP0 at hff;rw[hzg,hpl]at hff;rw[zj zHL.eq_1];by_cases c1:0<zs[z].qM
   ·by_cases c2:v.first.lo<=now.ego.shi
    ·by_cases c3:was.ego.slo<v.first.lo
     ·obtain⟨j,hj⟩:∃j:Nat,zs[z].qM=j+1:=⟨(zs[z].qM-1).toNat,by omega⟩;have hjl:j<ss.length:=by omega
      have hji:(j:Int)<ss.length:=by omega
      have wj:IntKind.i64.wrap (zs[z].qM-1)=j:=by rw[hj];rw[zTd _ (by omega) (by omega)];omega
      have hgd:ss.getD (zs[z].qM-1).toNat ztn=ss[j]:=by
       rw[show(zs[z].qM-1).toNat=j by omega];simp[jo,hjl]
      have hG:=zAP ss[j] zs[z].parts[e].lane was.tick (hf.zd.ph _ (jk hjl));rw[hgd]at hff;have hg:zfA ss[j] zs[z].parts[e].lane was.tick=true:=by simpa [c1,c2,c3]using hff
      rw[hg]at hG;simp only[zeq]at hG;simp[awE,awM,jC,zh,zi,zf,zG,zJ1,zdP,zeB,zeq,hz,hsg,hzz,hzl,hzi,he,hel,hei,hil,hx,hw,c1,c2,c3,wj,hjl,hji,hG,zg,zH,own]
     ·simp[awE,awM,jC,zh,zi,zf,zG,zJ1,zdP,zeB,hz,hzz,hzl,hzi,hil,hx,hw,c1,c2,c3,zg,zH,own]
    ·simp[awE,awM,jC,zh,zi,zf,zG,zJ1,zdP,zeB,hz,hzz,hzl,hzi,hil,hx,hw,c1,c2,zg,zH,own]
   ·simp[awE,awM,jC,zh,zi,zf,zG,zJ1,zdP,zeB,hz,hzz,hzl,hzi,hil,hx,hw,c1,zg,zH,own]
  have hit:zNj zs ss now.ego.shi was.ego.slo was.tick v=true->Y L Cs zHL (some [11,10,0,12]) 2 (awE vs i) (awM m r len ps vs u was now sw)=some (.ret,[(2,.w (W 6))],awM m r len ps vs u was now sw++[bxv 1 10 (zJ1 v),bxv 1 2 (zdP zs[z])]):=by
   intro hff;clear i1 i2 ih step;unfold zNj zP1 zP0 at hff;rw[hzg,hpl]at hff;simp only[jm,decide_eq_true_eq,kO]at hff;obtain⟨⟨⟨c1,c2⟩,c3⟩,c4⟩:=hff;obtain⟨j,hj⟩:∃j:Nat,zs[z].qM=j+1:=⟨(zs[z].qM-1).toNat,by omega⟩;have hjl:j<ss.length:=by omega
   have hji:(j:Int)<ss.length:=by omega
   have wj:IntKind.i64.wrap (zs[z].qM-1)=j:=by rw[hj];rw[zTd _ (by omega) (by omega)];omega
   have hgd:ss.getD (zs[z].qM-1).toNat ztn=ss[j]:=by
    rw[show(zs[z].qM-1).toNat=j by omega];simp[jo,hjl]
   have hG:=zAP ss[j] zs[z].parts[e].lane was.tick (hf.zd.ph _ (jk hjl));rw[hgd]at c4;rw[c4]at hG;simp only[zeq]at hG;rw[zj zHL.eq_1];simp[awE,awM,jC,zh,zi,zf,zG,zJ1,zdP,zeB,zeq,hz,hsg,hzz,hzl,hzi,he,hel,hei,hil,hx,hw,c1,c2,c3,wj,hjl,hji,hG,zg,zH,own]
  rw[yw];cases hb:zNj zs ss now.ego.shi was.ego.slo was.tick v with
  |true=>exact⟨fun _=>⟨v,_,hit hb⟩,fun h=>by simp at h⟩
  |false =>
   rw[step hb,um];exact⟨i1,i2⟩
def zMH(zs:List Zon)(ss:List Sgn)(vs:List Vis)(was now:zci):Int:=if vs.any (zNj zs ss now.ego.shi was.ego.slo was.tick) then 6 else 0
theorem zNd{m:zD}{zs:List Zon}{ss:List Sgn}(hf:zmq m zs ss)(r:List Int)(len:Int)(ps:List Pss)(vs:List Vis)(hvl:vs.length<=100)(hvo:∀v∈vs,zKN zs v)(u:Nat)(was now:zci)(sw:List Swp) :
  R L Cs zJ7 [J0] (juM m r len ps vs u was now sw)=some (.w (W (zMH zs ss vs was now)),juM m r len ps vs u was now sw):=by
 unfold zMH;by_cases h0:vs=[]
 ·subst h0;have g:∀E M,Y L Cs zHL (some [11,10,0,12]) 1 [(11,.w (W 0)),(10,E),(0,.w J0),(12,.w (W 0))] M=some (.exit 0,[(13,.w (Bo false)),(0,.w J0),(10,E),(11,.w (W 0)),(12,.w (W 0))],M):=by
   intro E M;rw[zj zHL.eq_1];simp
  rw[zUa zKJ rfl];simp[zHY,juM,zJ3,jC,zh,zi,zf,zG,g,zg,zH,own]
 ·obtain⟨g1,g2⟩:=zN0 hf r len ps vs h0 hvl hvo u was now sw vs 0 rfl (jx _);rw[zUa zKJ rfl];cases hb:vs.any (zNj zs ss now.ego.shi was.ego.slo was.tick)with
  |true =>
   obtain⟨X,Z,g⟩:=g1 hb;clear g1 g2;simp only[awE,awM,jC,zh,zi,zf,zG,zJ1,zdP,own,zJZ,jg,jf,jh]at g;simp[zHY,juM,zJ3,h0,jC,zh,zi,zf,zG,zJ1,zdP,g,zg,zH,own]
  |false =>
   have g:=g2 hb;clear g1 g2;simp only[awE,awM,jC,zh,zi,zf,zG,zJ1,zdP,own,zJZ,jg,jf,jh]at g;simp[zHY,juM,zJ3,h0,jC,zh,zi,zf,zG,zJ1,zdP,g,zg,zH,own]
def zKq(NW:List Cl)(SW:Cl):Prop:=(NW=zox/\SW=.je)\/∃k x,NW=zG k/\SW=.jc x
def zJY(ok:Bool)(at' why:Int):List Cl:=[.bool ok,I at',I why]
abbrev ghJ(q:Nat)(s:Int)(v:Nat):Option Blk:=some { box:=true,esz:=4,rows:=[[I s,.ptr 1 0 0 0,.ptr q 0 0 0,.ptr (q+1) 0 0 0]],gen:=0,fz:=false,ver:=v }
abbrev zOE:Option Blk:=some { box:=true,esz:=1,rows:=[[.fn zJ6 [.ptr 2 0 0 0] []],[.fn zKc [.ptr 2 0 0 0] []],[.fn zJ9 [.ptr 2 0 0 0] []],[.fn zKa [.ptr 2 0 0 0] []],[.fn zJ7 [.ptr 2 0 0 0] []]],gen:=5,fz:=false,ver:=5 }
def zKs:List Int->Int
 |[]=>0
 |a::l=>if a=0 then zKs l else a
abbrev zTv:List Nat:=[zJ6,zKc,zJ9,zKa,zJ7]
abbrev rdA(m:zD)(r:List Int)(len:Int)(ps:List Pss)(vs:List Vis)(s:Int)(gv u:Nat)(was:zci)(NW:List Cl)(SW:Cl)(w:Nat)(n:Int)(fv:Nat)(F:List Cl):Mem:=[ghJ 4 s gv,bx 1 [.ptr 2 0 0 0],bxv u 26 (jC m r len ps (.slice 3 vs.length 10 0 vs.length none) (zG was) NW SW),some (own 10 (zKt vs)),bxv w 1 [I n],bxv fv 3 F]
abbrev rdB(m:zD)(r:List Int)(len:Int)(ps:List Pss)(vs:List Vis)(s:Int)(gv u:Nat)(was:zci)(NW:List Cl)(SW:Cl)(w:Nat)(n:Int)(fv:Nat)(F:List Cl):Mem:=[ghJ 3 s gv,bx 1 [.ptr 2 0 0 0],bxv u 26 (jC m r len ps .je (zG was) NW SW),bxv w 1 [I n],bxv fv 3 F]
abbrev rdG(qq:Nat)(m:zD)(r:List Int)(len:Int)(ps:List Pss)(vs:List Vis)(s:Int)(gv u:Nat)(was:zci)(NW:List Cl)(SW:Cl)(w:Nat)(n:Int)(fv:Nat)(F:List Cl):Mem:=if qq=0 then rdB m r len ps vs s gv u was NW SW w n fv F else rdA m r len ps vs s gv u was NW SW w n fv F
theorem zVW{α:Sort _}{qq:Nat}{vs:List Vis}(h:qq=0/\vs=[]\/qq=1/\vs≠[])(a b:α):(if vs=[] then a else b)=if qq=0 then a else b:=by
 rcases h with⟨rfl,h⟩ |⟨rfl,h⟩
 ·rw[if_pos h,if_pos rfl]
 ·rw[if_neg h,if_neg (by decide)]
abbrev aMG(qq:Nat)(m:zD)(r:List Int)(len:Int)(ps:List Pss)(vs:List Vis)(gv u:Nat)(was now:zci)(sw:List Swp)(w:Nat)(n:Int)(fv:Nat)(F:List Cl):Mem:=rdG qq m r len ps vs 1 gv u was (zG now) (.jc (zbf sw)) w n fv F++[bxv 1 6 (zG now),zOE]
abbrev aEG(qq:Nat)(i:Nat):Env:=[(47,.w (W 5)),(10,.w (Pt (qq+5))),(4,.w (Pt 1)),(46,.w (.c (.slice (qq+6) 5 1 0 5 none))),(48,.w (W i)),(9,.w (Pt (qq+3))),(8,.w (Pt (qq+4)))]
theorem zV4(i j:Nat)(hi:i<5)(hj:j=i+1)(m:zD)(r:List Int)(len:Int)(ps:List Pss)(vs:List Vis)(qq:Nat)(hq0:qq=0/\vs=[]\/qq=1/\vs≠[])(gv u:Nat)(was now:zci)(sw:List Swp)(w:Nat)(n:Int)(a:Int)
  (hR:R L Cs (zTv.getD i 0) [J0] (juM m r len ps vs u was now sw)=some (.w (W a),juM m r len ps vs u was now sw)) :
  Y L Cs zHE (some [47,10,4,46,48,9,8]) (qq+7) (aEG qq i) (aMG qq m r len ps vs gv u was now sw w n 0 (zJY false 0 0)) =
    if a=0 then Y L Cs zHE (some [47,10,4,46,48,9,8]) (qq+7) (aEG qq j) (aMG qq m r len ps vs gv u was now sw w n 0 (zJY false 0 0)) else some (.ret,[],aMG qq m r len ps vs gv u was now sw w n 1 (zJY false n a)):=by
 subst hj;have cb:¬a=0->(a==0)=false/\(a !=0)=true:=fun c=>by simp[c]
 simp only[zTv,juM,zJ3,zVW hq0,jC,zh,zi,zf,zG,own,zJZ,jg,jf]at hR;rw[zj zHE.eq_1];have hw:∀x:Int,0<=x->x<=9->IntKind.i64.wrap x=x:=fun x _ _=>ku x
 match i,hi with
 |0,_ |1,_ |2,_ |3,_ |4,_ =>
  simp only[qV,List.getD_cons_succ]at hR;by_cases c:a=0
  ·rw[if_pos c];subst c;rcases hq0 with⟨rfl,-⟩ |⟨rfl,-⟩<;>simp only[jH,↓reduceIte,jz,Nat.reduceAdd]at hR<;>simp (maxSteps:=1000000) [aEG,aMG,rdG,rdA,rdB,jC,zh,zi,zf,zG,zJY,own,hw,hR,zg,zH]
  ·rw[if_neg c];rcases hq0 with⟨rfl,-⟩ |⟨rfl,-⟩<;>simp only[jH,↓reduceIte,jz,Nat.reduceAdd]at hR<;>simp (maxSteps:=1000000) [aEG,aMG,rdG,rdA,rdB,jC,zh,zi,zf,zG,zJY,own,hw,hR,c,(cb c).1,(cb c).2,zg,zH]
theorem zV3(m:zD)(r:List Int)(len:Int)(ps:List Pss)(vs:List Vis)(qq:Nat)(hq0:qq=0/\vs=[]\/qq=1/\vs≠[])(gv u:Nat)(was now:zci)(sw:List Swp)(w:Nat)(n:Int) :
  Y L Cs zHE (some [47,10,4,46,48,9,8]) (qq+7) (aEG qq 5) (aMG qq m r len ps vs gv u was now sw w n 0 (zJY false 0 0))=some (.exit 2,[(49,.w (Bo false)),(46,.w (.c (.slice (qq+6) 5 1 0 5 none))),(4,.w (Pt 1)),(10,.w (Pt (qq+5))),(47,.w (W 5)),(48,.w (W 5)),(9,.w (Pt (qq+3))),(8,.w (Pt (qq+4)))],aMG qq m r len ps vs gv u was now sw w n 0 (zJY false 0 0)):=by
 rw[zj zHE.eq_1];rcases hq0 with⟨rfl,-⟩ |⟨rfl,-⟩<;>simp[aEG,aMG,rdG,rdA,rdB]
theorem zVZ(m:zD)(r:List Int)(len:Int)(ps:List Pss)(vs:List Vis)(qq:Nat)(hq0:qq=0/\vs=[]\/qq=1/\vs≠[])(gv u:Nat)(was now:zci)(sw:List Swp)(w:Nat)(n:Int)(a b c d e:Int)
  (hA:R L Cs zJ6 [J0] (juM m r len ps vs u was now sw)=some (.w (W a),juM m r len ps vs u was now sw))
  (hB:a=0->R L Cs zKc [J0] (juM m r len ps vs u was now sw)=some (.w (W b),juM m r len ps vs u was now sw))
  (hC:R L Cs zJ9 [J0] (juM m r len ps vs u was now sw)=some (.w (W c),juM m r len ps vs u was now sw))
  (hD:R L Cs zKa [J0] (juM m r len ps vs u was now sw)=some (.w (W d),juM m r len ps vs u was now sw))
  (hE:R L Cs zJ7 [J0] (juM m r len ps vs u was now sw)=some (.w (W e),juM m r len ps vs u was now sw)) :
  Y L Cs zHE (some [47,10,4,46,48,9,8]) (qq+7) (aEG qq 0) (aMG qq m r len ps vs gv u was now sw w n 0 (zJY false 0 0)) =
    some (if zKs [a,b,c,d,e]=0 then(.exit 2,[(49,.w (Bo false)),(46,.w (.c (.slice (qq+6) 5 1 0 5 none))),(4,.w (Pt 1)),(10,.w (Pt (qq+5))),(47,.w (W 5)),(48,.w (W 5)),(9,.w (Pt (qq+3))),(8,.w (Pt (qq+4)))],aMG qq m r len ps vs gv u was now sw w n 0 (zJY false 0 0)) else(.ret,[],aMG qq m r len ps vs gv u was now sw w n 1 (zJY false n (zKs [a,b,c,d,e])))):=by
 rw[zV4 0 1 (by decide) rfl m r len ps vs qq hq0 gv u was now sw w n a hA];by_cases c0:a=0
 ·rw[if_pos c0,zV4 1 2 (by decide) rfl m r len ps vs qq hq0 gv u was now sw w n b (hB c0)];by_cases c1:b=0
  ·rw[if_pos c1,zV4 2 3 (by decide) rfl m r len ps vs qq hq0 gv u was now sw w n c hC];by_cases c2:c=0
   ·rw[if_pos c2,zV4 3 4 (by decide) rfl m r len ps vs qq hq0 gv u was now sw w n d hD];by_cases c3:d=0
    ·rw[if_pos c3,zV4 4 5 (by decide) rfl m r len ps vs qq hq0 gv u was now sw w n e hE];by_cases c4:e=0
     ·rw[if_pos c4,zV3 m r len ps vs qq hq0 gv u was now sw w n];simp only[zKs,c0,c1,c2,c3,c4,if_true]
     ·rw[if_neg c4];simp only[zKs,c0,c1,c2,c3,c4,if_true,if_false]
    ·rw[if_neg c3];simp only[zKs,c0,c1,c2,c3,if_true,if_false]
   ·rw[if_neg c2];simp only[zKs,c0,c1,c2,if_true,if_false]
  ·rw[if_neg c1];simp only[zKs,c0,c1,if_true,if_false]
 ·rw[if_neg c0];simp only[zKs,c0,if_false]
abbrev rsh:List (Nat×Bool×Nat):=[(4,false,1),(9,false,1),(8,false,1)]
theorem zVY(m:zD)(r:List Int)(len:Int)(ps:List Pss)(vs:List Vis)(qq:Nat)(hq0:qq=0/\vs=[]\/qq=1/\vs≠[])(gv u:Nat)(was:zci)(NW:List Cl)(now:zci)(SW:Cl)(hSW:zKq NW SW)(sw:List Swp)(w:Nat)(n:Int) :
  X L Cs (sQ (rG 1 [o1 0 10 (.box 0 6 (.k (.a [(I 0),.je,(I 0),(I 0),(I 0),(I 0)]))),o0 1 (.store 6 (.s 10) (.s 24))] [25,10,4,9,8]) (rG 0 [mS 0 11 25] [11,10,4,9,8])) (zv3 [24,25] [.a (zG now),.c (.jc (zbf sw))]++[(4,.w (Pt 1)),(9,.w (Pt (qq+3))),(8,.w (Pt (qq+4)))]) (rdG qq m r len ps vs 0 gv u was NW SW w n 0 (zJY false 0 0)) =
    some (.normal,[(11,.w (.c (.jc (zbf sw)))),(10,.w (Pt (qq+5))),(4,.w (Pt 1)),(9,.w (Pt (qq+3))),(8,.w (Pt (qq+4)))],rdG qq m r len ps vs 0 gv u was NW SW w n 0 (zJY false 0 0)++[bxv 1 6 (zG now)]):=by
 rcases hq0 with⟨rfl,-⟩ |⟨rfl,-⟩<;>rcases hSW with⟨rfl,rfl⟩ |⟨k0,x,rfl,rfl⟩<;>simp[zv3,rdG,rdA,rdB,jC,zox,zh,zi,zf,zG,zJY,own,zg,zH]
theorem znP(m:zD)(r:List Int)(len:Int)(ps:List Pss)(vs:List Vis)(qq:Nat)(hq0:qq=0/\vs=[]\/qq=1/\vs≠[])(gv u:Nat)(was:zci)(NW:List Cl)(now:zci)(SW:Cl)(hSW:zKq NW SW)(sw:List Swp)(w n:Nat)(hn:n<1000)(why:Int)
  (g:Y L Cs zHE (some [47,10,4,46,48,9,8]) (qq+7) (aEG qq 0) (aMG qq m r len ps vs gv (u+1+1) was now sw (w+1) (n+1) 0 (zJY false 0 0)) =
   some (if why=0 then(.exit 2,[(49,.w (Bo false)),(46,.w (.c (.slice (qq+6) 5 1 0 5 none))),(4,.w (Pt 1)),(10,.w (Pt (qq+5))),(47,.w (W 5)),(48,.w (W 5)),(9,.w (Pt (qq+3))),(8,.w (Pt (qq+4)))],aMG qq m r len ps vs gv (u+1+1) was now sw (w+1) (n+1) 0 (zJY false 0 0)) else(.ret,[],aMG qq m r len ps vs gv (u+1+1) was now sw (w+1) (n+1) 1 (zJY false (n+1) why)))) :
  ∃E,X L Cs zHO.code [(11,.w (.c (.jc (zbf sw)))),(10,.w (Pt (qq+5))),(4,.w (Pt 1)),(9,.w (Pt (qq+3))),(8,.w (Pt (qq+4)))] (rdG qq m r len ps vs 1 gv u was NW SW w n 0 (zJY false 0 0)++[bxv 1 6 (zG now)]) =
   some (if why=0 then(.normal,E,aMG qq m r len ps vs gv (u+1+1+1) now now sw (w+1) (n+1) 0 (zJY false 0 0)) else(.ret,[],aMG qq m r len ps vs gv (u+1+1) was now sw (w+1) (n+1) 1 (zJY false (n+1) why))):=by
 have hw:=zB (i:=n) (by omega);have n0:((0:Nat):Int)=0:=rfl;refine⟨[],?_⟩;by_cases c:why=0
 ·rw[if_pos c];rw[if_pos c]at g;rcases hq0 with⟨rfl,-⟩ |⟨rfl,-⟩<;>simp only[jH,↓reduceIte,jz,Nat.reduceAdd,aEG,aMG,rdG,rdA,rdB,jC,zh,zi,zf,zG,zJY,own,zJZ,jg,jf,n0]at g<;>rcases hSW with⟨rfl,rfl⟩ |⟨k0,x,rfl,rfl⟩<;>simp (maxSteps:=1000000) [zHO,aEG,aMG,rdG,rdA,rdB,jC,zox,zh,zi,zf,zG,zJY,own,zg,zH,zi2,okW,hw,g]
 ·rw[if_neg c];rw[if_neg c]at g;rcases hq0 with⟨rfl,-⟩ |⟨rfl,-⟩<;>simp only[jH,↓reduceIte,jz,Nat.reduceAdd,aEG,aMG,rdG,rdA,rdB,jC,zh,zi,zf,zG,zJY,own,zJZ,jg,jf,n0]at g<;>rcases hSW with⟨rfl,rfl⟩ |⟨k0,x,rfl,rfl⟩<;>simp (maxSteps:=1000000) [zHO,aEG,aMG,rdG,rdA,rdB,jC,zox,zh,zi,zf,zG,zJY,own,zg,zH,zi2,okW,hw,g]
theorem zV5(m:zD)(r:List Int)(len:Int)(ps:List Pss)(vs:List Vis)(qq:Nat)(hq0:qq=0/\vs=[]\/qq=1/\vs≠[])(gv u:Nat)(was:zci)(NW:List Cl)(now:zci)(SW:Cl)(hSW:zKq NW SW)(sw:List Swp)(w n:Nat)(hn:n<1000)(why:Int)
  (g:Y L Cs zHE (some [47,10,4,46,48,9,8]) (qq+7) (aEG qq 0) (aMG qq m r len ps vs (gv+1) (u+1+1) was now sw (w+1) (n+1) 0 (zJY false 0 0)) =
   some (if why=0 then(.exit 2,[(49,.w (Bo false)),(46,.w (.c (.slice (qq+6) 5 1 0 5 none))),(4,.w (Pt 1)),(10,.w (Pt (qq+5))),(47,.w (W 5)),(48,.w (W 5)),(9,.w (Pt (qq+3))),(8,.w (Pt (qq+4)))],aMG qq m r len ps vs (gv+1) (u+1+1) was now sw (w+1) (n+1) 0 (zJY false 0 0)) else(.ret,[],aMG qq m r len ps vs (gv+1) (u+1+1) was now sw (w+1) (n+1) 1 (zJY false (n+1) why)))) :
  R L Cs zJ0 [.c (.yld 0 zJ0 rsh),.a (zG now),.c (.jc (zbf sw))] (rdG qq m r len ps vs 0 gv u was NW SW w n 0 (zJY false 0 0)) =
    some (if why=0 then(.w (Bo true),rdG qq m r len ps vs 0 (gv+1+1) (u+1+1+1) now (zG now) (.jc (zbf sw)) (w+1) (n+1) 0 (zJY false 0 0)) else(.w (Bo false),rdG qq m r len ps vs 2 (gv+1+1) (u+1+1) was (zG now) (.jc (zbf sw)) (w+1) (n+1) 1 (zJY false (n+1) why))):=by
 obtain⟨E,hc⟩:=znP m r len ps vs qq hq0 (gv+1) u was NW now SW hSW sw w n hn why g;have hp:=zVY m r len ps vs qq hq0 gv u was NW now SW hSW sw w n;by_cases c:why=0
 ·rw[if_pos c]at hc ⊢;exact zOg (cells:=[.ptr 1 0 0 0,.ptr (qq+3) 0 0 0,.ptr (qq+4) 0 0 0]) (M2:=rdG qq m r len ps vs 1 (gv+1) u was NW SW w n 0 (zJY false 0 0)++[bxv 1 6 (zG now)]) (M4:=rdG qq m r len ps vs 0 (gv+1+1) (u+1+1+1) now (zG now) (.jc (zbf sw)) (w+1) (n+1) 0 (zJY false 0 0)++[bxv 1 6 (zG now),zOE]) zKg rfl rfl (by rcases hq0 with⟨rfl,-⟩ |⟨rfl,-⟩<;>simp[Eng.kq,rdG,rdA,rdB]) (by rcases hq0 with⟨rfl,-⟩ |⟨rfl,-⟩<;>simp[zxb,rdG,rdA,rdB]) (by rcases hq0 with⟨rfl,-⟩ |⟨rfl,-⟩<;>rfl) hp (by rcases hq0 with⟨rfl,-⟩ |⟨rfl,-⟩<;>simp[zsR,rdG,rdA,rdB]) hc (by rcases hq0 with⟨rfl,-⟩ |⟨rfl,-⟩<;>simp[zsR,zxZ,rdG,rdA,rdB,aMG]) (by rcases hq0 with⟨rfl,-⟩ |⟨rfl,-⟩<;>simp[finish,zH,rdG,rdA,rdB,jC,zh,zi,zf,zG,zJY,own])
 ·rw[if_neg c]at hc ⊢;exact zOg (cells:=[.ptr 1 0 0 0,.ptr (qq+3) 0 0 0,.ptr (qq+4) 0 0 0]) (M2:=rdG qq m r len ps vs 1 (gv+1) u was NW SW w n 0 (zJY false 0 0)++[bxv 1 6 (zG now)]) (M4:=rdG qq m r len ps vs 2 (gv+1+1) (u+1+1) was (zG now) (.jc (zbf sw)) (w+1) (n+1) 1 (zJY false (n+1) why)++[bxv 1 6 (zG now),zOE]) zKg rfl rfl (by rcases hq0 with⟨rfl,-⟩ |⟨rfl,-⟩<;>simp[Eng.kq,rdG,rdA,rdB]) (by rcases hq0 with⟨rfl,-⟩ |⟨rfl,-⟩<;>simp[zxb,rdG,rdA,rdB]) (by rcases hq0 with⟨rfl,-⟩ |⟨rfl,-⟩<;>rfl) hp (by rcases hq0 with⟨rfl,-⟩ |⟨rfl,-⟩<;>simp[zsR,rdG,rdA,rdB]) hc (by rcases hq0 with⟨rfl,-⟩ |⟨rfl,-⟩<;>simp[zsR,zxZ,rdG,rdA,rdB,aMG]) (by rcases hq0 with⟨rfl,-⟩ |⟨rfl,-⟩<;>simp[finish,zH,rdG,rdA,rdB,jC,zh,zi,zf,zG,zJY,own])
abbrev zEt(m:zD)(zs:List Zon)(ss:List Sgn)(r:List Int)(len:Int)(signals:Bool)(k:zci)(a:Int):zci:=zpg m zs ss r len k (zaN m r k.ego a) signals
theorem zFs{p b:zk}(h:¬zmM p b):Apt p b:=by
 unfold zmM at h;unfold Apt;omega
theorem zEO{m:zD}(h:zcp m):∀(r:List zk) (p:zk),zls m p r=0->r.Pairwise Apt/\∀b∈r,Apt p b
 |[],p,_=>⟨List.Pairwise.nil,by simp⟩
 |x::r,p,hc=>by
  unfold zls at hc;split at hc
  ·rename_i h1;exact absurd hc h1
  ·rename_i h1;have h1:zer m p x=0:=by simpa using h1
   obtain⟨a1,a2,a3,a4,a5,a6,a7,a8,a9,a10,_,a12⟩:=zui h h1;have hx:=zFs a12;obtain⟨i1,i2⟩:=zEO h r x hc;refine⟨jY.2 ⟨i2,i1⟩,fun b hb=>?_⟩;rcases jB.1 hb with rfl|hb
   ·exact hx
   ·have:=i2 b hb;unfold Apt at this hx ⊢;omega
theorem zFn{m:zD}(h:zcp m){k:zci}(hc:zdf m k=0):k.jW.Pairwise Apt:=by
 unfold zdf at hc;split at hc
 ·cases hc
 ·exact(zEO h _ _ hc).1
abbrev zFC:Sh:=.st [zmN,zmN,zmN,zmN,zmN,zmN]
theorem zE2:∀{rows:List (List Cl)},(∀r∈rows,zfo zFC r)->∃l,rows=zDS l/\∀b∈l,zk0 b.hold
 |[],_=>⟨[],rfl,by simp⟩
 |r::rows,h=>by
  have h1:=h r (jr ..);simp only[zfo,znD]at h1;obtain⟨_,_,rfl,⟨a1,rfl,q1⟩,_,_,rfl,⟨a2,rfl,q2⟩,_,_,rfl,⟨a3,rfl,q3⟩,_,_,rfl,⟨a4,rfl,q4⟩,_,_,rfl,⟨a5,rfl,q5⟩,_,_,rfl,⟨a6,rfl,q6⟩,rfl⟩:=h1;obtain⟨l,rfl,hl⟩:=zE2 fun x hx=>h x (jt _ hx)
  refine⟨⟨a1,a2,a3,a4,a5,a6⟩::l,rfl,fun x hx=>?_⟩;rcases jB.1 hx with rfl|hx
  ·exact q6
  ·exact hl x hx
theorem zO4{l:List Swp}{s:Swp}(h:s∈zlg l):s∈l:=(zsK l).mem_iff.1 h
structure KJ(m:zD)(k:zci):Prop where
 vb:∀b∈k.jW,VB m b
 apt:k.jW.Pairwise Apt
 ego:znd k.ego
theorem zN7{m:zD}(h:zcp m)(hs:zmX m){k:zci}(hk:KJ m k):k.jW.length<=200000000:=by
 have hc:zls m zqY k.jW=0:=zED _ _ hk.vb hk.apt fun b hb=>by
  have:=(hk.vb b hb).lane;simp only[zmM,zqY];omega
 have:=zvw h _ _ hc (show(-1:Int)<_ by omega) (show(0:Int)<=_ by omega);have:=hs.few;simp only[zqY]at *;omega
theorem zPP{m:zD}(h:zcp m){k:zci}(hc:zdf m k=0):KJ m k:=⟨zxJ h hc,zFn h hc,(zte hc).1⟩
theorem zLs{m:zD}(h:zcp m){r:List Int}(hr:zdA m r=0){e:Ego}(he:znd e)(act:Int) :
  0<=(zaN m r e act).slo/\(zaN m r e act).slo<=(zaN m r e act).shi/\(zaN m r e act).shi<=e.shi+2000/\0<=(zaN m r e act).vlo/\(zaN m r e act).vlo<=(zaN m r e act).vhi/\(zaN m r e act).vhi<=2000:=by
 obtain⟨hon,hne,_⟩:=zg1 h hr;obtain⟨x0,r',rfl⟩:∃x r',r=x::r':=by cases r with|nil=>exact absurd rfl hne|cons x r'=>exact⟨x,r',rfl⟩
 have hx0:=hon x0 (jr ..);have s1:=zge h r' hx0 act e.vlo;have s2:=zge h r' hx0 act e.vhi;have hes:=he.s;have hev:=he.v;have s3:=zEJ m (x0::r') act hev.2.1;simp only[zaN];omega
theorem zNm{m:zD}{zs:List Zon}{ss:List Sgn}(hf:zmq m zs ss){r:List Int}(hr:zdA m r=0)(len:Int)(signals:Bool){k:zci}(hk:KJ m k)(act:Int)(hs:(zEt m zs ss r len signals k act).ego.shi<=1099511627776):KJ m (zEt m zs ss r len signals k act):=by
 obtain⟨j1,j2⟩:=zEl _ (zE4 hf r len k (zaN m r k.ego act) signals hk.vb);have hd:=zLs hf.uL hr hk.ego act;have hs':(zaN m r k.ego act).shi<=1099511627776:=hs;exact⟨ztK _ _ _ _ j1,zFg _ _ _ _ _ j2,⟨⟨hd.1,hd.2.1,hs'⟩,⟨hd.2.2.2.1,hd.2.2.2.2.1,hd.2.2.2.2.2⟩⟩⟩
abbrev zKu(m:zD)(zs:List Zon)(ss:List Sgn)(r:List Int)(len:Int)(signals:Bool)(k:zci)(a:Int):List Swp:=zhp (zlg (zfV m zs ss r len k (zaN m r k.ego a) signals))
theorem zNq{m:zD}{zs:List Zon}{ss:List Sgn}(hf:zmq m zs ss){r:List Int}(hr:zdA m r=0)(len:Int)(signals:Bool){k:zci}(hk:KJ m k)(a:Int):(zKu m zs ss r len signals k a).length<=100000000000:=by
 have hr2:=zlP hf.Ao hr;have h4:=zoA hf.Ao zs ss r (zfx len (zaN m r k.ego a)) (zaN m r k.ego a).slo len k signals (zkr m k.ego len r k.jW);have h5:=zij m k.ego len hr2 k.jW;have h0:=zN7 hf.uL hf.Ao hk;obtain⟨_,_,_,_,_,_,h6,_⟩:=zrS (zlg (zfV m zs ss r len k (zaN m r k.ego a) signals)) (by rw[zhh];unfold zfV;omega) 0;rw[zhh]at h6;unfold zfV at h6;unfold zKu zfV;omega
theorem zOm{m:zD}{zs:List Zon}{ss:List Sgn}(hf:zmq m zs ss)(r:List Int)(len:Int)(k:zci)(e:Ego)(signals:Bool)(hvb:∀b∈k.jW,VB m b):∀s∈zfV m zs ss r len k e signals,zPI m s:=by
 have h:=hf.uL;intro s hs;unfold zfV zhM at hs;obtain⟨b,hb,hx⟩:=qe.1 hs;obtain⟨z,hz,rfl⟩:=ko.1 hx;have hv:=ztK k.ego len r k.jW hvb b hb;have hbd:=zwE h zs ss k signals hv;unfold zn0 at hz;split at hz
 ·have ho:=zBF h r (zfx len e) e.slo (mvF m zs ss k signals b) (by rw[hbd.1];exact hv.lane) _ _ _ z hz;have h1:=zcX h ho.on;have h2:=ho.lo;have h3:=ho.le;have h4:=ho.hi;exact⟨ho.on,by show 0<=z.1.lo/\z.1.lo<=1000000;omega,by show 0<=z.1.hi/\z.1.hi<=1000000;omega⟩
 ·cases hz
theorem zOa{m:zD}{zs:List Zon}{ss:List Sgn}(hf:zmq m zs ss)(r:List Int)(len:Int)(signals:Bool){k:zci}(hk:KJ m k)(a:Int):∀s∈zKu m zs ss r len signals k a,zPI m s:=fun s hs =>
 zOm hf r len k _ signals hk.vb s (zO4 ((zrs _ _).1 hs))
def zMi(m:zD)(zs:List Zon)(ss:List Sgn)(r:List Int)(len:Int)(ps:List Pss)(vs:List Vis)(was now:zci)(sw:List Swp):Int :=
 zKs [onW m r now,zMt m r now,zMF m r now sw,zMG zs len ps vs was now sw,zMH zs ss vs was now]
def zKr(m:zD)(zs:List Zon)(ss:List Sgn)(r:List Int)(len:Int)(ps:List Pss)(vs:List Vis)(signals:Bool):List Int->Nat->zci->Option (Nat×Int)×zci
 |[],n,k=>(none,k)
 |a::t,n,k=>if zMi m zs ss r len ps vs k (zEt m zs ss r len signals k a) (zKu m zs ss r len signals k a)=0 then zKr m zs ss r len ps vs signals t (n+1) (zEt m zs ss r len signals k a) else(some (n+1,zMi m zs ss r len ps vs k (zEt m zs ss r len signals k a) (zKu m zs ss r len signals k a)),k)
theorem zNe{m:zD}{zs:List Zon}{ss:List Sgn}{r:List Int}{len:Int}{ps:List Pss}{vs:List Vis}{was now:zci}{sw:List Swp}(h:zMi m zs ss r len ps vs was now sw=0):now.ego.shi<=zmd m 0 r:=by
 have ho:onW m r now=0:=by
  unfold zMi at h;rw[zKs]at h;by_cases c:onW m r now=0
  ·exact c
  ·rw[if_neg c]at h;exact absurd h c
 unfold onW at ho;split at ho
 ·cases ho
 ·omega
def zV2(m:zD)(r:List Int)(tick:Int)(e:Ego)(a:Int):Prop:=1099511627776<=tick\/1099511627776<(zaN m r e a).shi
instance(m:zD)(r:List Int)(tick:Int)(e:Ego)(a:Int):Decidable (zV2 m r tick e a):=by unfold zV2;infer_instance
def fbF(m:zD)(r:List Int):List Int->Int->Ego->Option Nat
 |[],_,_=>none
 |a::t,tk,e=>if zV2 m r tk e a then some 0 else if zmd m 0 r<(zaN m r e a).shi then none else(fbF m r t (tk+1) (zaN m r e a)).map (· + 1)
theorem zO8(m:zD)(r:List Int):∀(t:List Int) (tk:Int) (e:Ego) (b:Nat),fbF m r t tk e=some b->b<t.length
 |[],_,_,_,h=>by cases h
 |a::t,tk,e,b,h=>by
  unfold fbF at h;split at h
  ·cases h;simp
  ·split at h
   ·cases h
   ·rw[ja]at h;obtain⟨b',h1,rfl⟩:=h;have:=zO8 m r t _ _ _ h1;simp;omega
theorem zLX(m:zD)(r:List Int):∀(t:List Int) (tk:Int) (e:Ego) (n:Nat),fbF m r (t.take n) tk e=(fbF m r t tk e).bind fun b=>if b<n then some b else none
 |[],_,_,n=>by simp[fbF]
 |a::t,tk,e,0=>by
  rw[List.take_zero,show fbF m r [] tk e=none from rfl];cases fbF m r (a::t) tk e<;>simp
 |a::t,tk,e,n+1=>by
  rw[List.take_succ_cons];unfold fbF;split
  ·simp
  ·split
   ·rfl
   ·rw[zLX m r t _ _ n];cases fbF m r t (tk+1) (zaN m r e a)with
    |none=>rfl
    |some b =>
     by_cases h:b<n
     ·simp[h]
     ·simp[h]
def zKX(x:Bool×Int×Int):Option Nat->Bool×Int×Int
 |none=>x
 |some b=>if 0<x.2.1/\x.2.1<=b/\x.2.2≠7 then x else(false,0,1)
def zOP(NW:List Cl)(SW:Cl):Prop:=∃k x,NW=zG k/\SW=.jc x
theorem zVX{m:zD}{zs:List Zon}{ss:List Sgn}(hF:zKj m zs ss){r:List Int}(hr:zdA m r=0)(len:Int)(hlen:0<=len/\len<=20000)(ps:List Pss)(hp:ps.length<=1000)(vs:List Vis)(qq:Nat)(hq0:qq=0/\vs=[]\/qq=1/\vs≠[])(hvl:vs.length<=100)(hvo:∀v∈vs,zKN zs v)(signals:Bool)(gv u w n:Nat)(hn:n<1000)(k:zci)(NW:List Cl)(SW:Cl)(hSW:zKq NW SW)(hk:KJ m k)(a:Int) :
  R L Cs zJ0 [.c (.yld 0 zJ0 rsh),.a (zG (zEt m zs ss r len signals k a)),.c (.jc (zbf (zKu m zs ss r len signals k a)))] (rdG qq m r len ps vs 0 gv u k NW SW w n 0 (zJY false 0 0)) =
    some (if zMi m zs ss r len ps vs k (zEt m zs ss r len signals k a) (zKu m zs ss r len signals k a)=0 then(.w (Bo true),rdG qq m r len ps vs 0 (gv+1+1) (u+1+1+1) (zEt m zs ss r len signals k a) (zG (zEt m zs ss r len signals k a)) (.jc (zbf (zKu m zs ss r len signals k a))) (w+1) (n+1) 0 (zJY false 0 0))
     else(.w (Bo false),rdG qq m r len ps vs 2 (gv+1+1) (u+1+1) k (zG (zEt m zs ss r len signals k a)) (.jc (zbf (zKu m zs ss r len signals k a))) (w+1) (n+1) 1 (zJY false (n+1) (zMi m zs ss r len ps vs k (zEt m zs ss r len signals k a) (zKu m zs ss r len signals k a))))):=by
 have hf:=hF.full;have h:=hf.uL;obtain⟨hon,hne,hl8⟩:=zg1 h hr;have hsl:=zNq (zs:=zs) (ss:=ss) hf hr len signals hk a;have hso:=zOa (zs:=zs) (ss:=ss) hf r len signals hk a;have hd:=zLs h hr hk.ego a;have hes:=hk.ego.s;have hE:=zFu h r hl8 hon;have he1:(zEt m zs ss r len signals k a).ego=zaN m r k.ego a:=rfl;rw[<-he1]at hd;generalize zEt m zs ss r len signals k a=nx at *;generalize zKu m zs ss r len signals k a=sw at *;have e1:=zNc m r len ps vs (u+1+1) k nx sw;have e2:=fun(h0':onW m r nx=0)=>zPf h hF.kS r (by omega) hon len ps vs (u+1+1) k nx (by
   have:nx.ego.shi<=zmd m 0 r:=by
    unfold onW at h0';split at h0'
    ·cases h0'
    ·omega
   omega) sw
 have e3:=zOh h r hl8 hon len ps vs (u+1+1) k nx sw hsl hso;have e4:=zOi hf.zd.z r len (by omega) ps hp vs hvl hvo (u+1+1) k nx (by omega) sw hsl;have e5:=zNd hf r len ps vs hvl hvo (u+1+1) k nx sw;exact zV5 m r len ps vs qq hq0 gv u k NW nx SW hSW sw w n hn _ (zVZ m r len ps vs qq hq0 (gv+1) (u+1+1) k nx sw (w+1) ((n:Int)+1) (onW m r nx) (zMt m r nx) (zMF m r nx sw) (zMG zs len ps vs k nx sw) (zMH zs ss vs k nx) e1 e2 e3 e4 e5)
abbrev zVG(qq:Nat)(m:zD)(r:List Int)(len:Int)(ps:List Pss)(vs:List Vis)(s:Int)(gv u:Nat)(was:zci)(NW:List Cl)(SW:Cl)(w:Nat)(n:Int)(fv:Nat)(F:List Cl)(jN:List Int)(kv:Nat)(k:zci)(signals:Bool):Mem:=rdG qq m r len ps vs s gv u was NW SW w n fv F++[bx 1 [.jc (zu jN)],bx 1 [.ptr 2 0 0 0],bxv kv 6 (zG k),bx 1 [.bool signals]]
abbrev zVK(qq:Nat)(jN:List Int)(i:Nat):Env:=[(12,.w (W jN.length)),(11,.w (.c (.jc (zu jN)))),(2,.w (Pt (qq+6))),(4,.w (Pt (qq+8))),(0,.w (.c (.yld 0 zJ0 rsh))),(3,.w (Pt (qq+7))),(13,.w (W i))]
theorem zVU{m:zD}{zs:List Zon}{ss:List Sgn}(hF:zKj m zs ss){r:List Int}(hr:zdA m r=0)(len:Int)(hlen:0<=len/\len<=20000)(ps:List Pss)(hp:ps.length<=1000)(vs:List Vis)(qq:Nat)(hq0:qq=0/\vs=[]\/qq=1/\vs≠[])(hvl:vs.length<=100)(hvo:∀v∈vs,zKN zs v)(signals:Bool)(jN:List Int)(hin:∀a∈jN,zk0 a)(hal:jN.length<=500):∀(t:List Int) (i:Nat) (gv u w:Nat) (k:zci) (NW:List Cl) (SW:Cl) (kv:Nat),jN.drop i=t->i<=jN.length->KJ m k->0<=k.tick/\k.tick<=1099511627776+i->zKq NW SW ->
  match zKr m zs ss r len ps vs signals t i k with
  |(none,kf)=>∃gv' u' w' NW' SW' kv',zKq NW' SW'/\(gv+min 1 t.length<=gv'/\u+min 1 t.length<=u'/\w+min 1 t.length<=w'/\(kv'=kv/\kf=k\/kv<kv')/\(zOP NW' SW'\/t=[]/\NW'=NW/\SW'=SW))/\Y L Cs zHM (some [12,11,2,4,0,3,13]) (qq+9) (zVK qq jN i) (zVG qq m r len ps vs 0 gv u k NW SW w i 0 (zJY false 0 0) jN kv k signals) =
    some (.exit 0,[(14,.w (Bo false)),(3,.w (Pt (qq+7))),(0,.w (.c (.yld 0 zJ0 rsh))),(4,.w (Pt (qq+8))),(2,.w (Pt (qq+6))),(11,.w (.c (.jc (zu jN)))),(12,.w (W jN.length)),(13,.w (W jN.length))],zVG qq m r len ps vs 0 gv' u' kf NW' SW' w' jN.length 0 (zJY false 0 0) jN kv' kf signals)
  |(some (at',why),kf)=>∃gv' u' w' NW' SW' kv' kk X E,zKq NW' SW'/\(gv+min 1 t.length<=gv'/\u+min 1 t.length<=u'/\w+min 1 t.length<=w'/\(kv'=kv/\kk=k\/kv<kv')/\zOP NW' SW')/\Y L Cs zHM (some [12,11,2,4,0,3,13]) (qq+9) (zVK qq jN i) (zVG qq m r len ps vs 0 gv u k NW SW w i 0 (zJY false 0 0) jN kv k signals) =
    some (.ret,E,zVG qq m r len ps vs 2 gv' u' kf NW' SW' w' at' 1 (zJY false at' why) jN kv' kk signals++[bxv 1 6 (zG X)]):=by
 have hf:=hF.full;have h:=hf.uL;obtain⟨hon,hne,hl8⟩:=zg1 h hr;have hEb:=zFu h r hl8 hon;intro t;induction t with
 |nil =>
  intro i gv u w k NW SW kv hd hi hk ht hSW;obtain rfl:=zUb hd hi;refine⟨gv,u,w,NW,SW,kv,hSW,⟨jl _,jl _,jl _,.inl ⟨rfl,rfl⟩,.inr ⟨rfl,rfl,rfl⟩⟩,?_⟩;rw[zj zHM.eq_1];simp[zVK,zVG]
 |cons a t ih =>
  intro i gv u w k NW SW kv hd hi hk ht hSW;obtain⟨hil,ha,hd'⟩:=zL hd;have hw:=zB (i:=i) (by omega);have v1:¬gv+1+1=gv:=by omega
  have v2:¬u+1+1+1=u:=by omega
  have v3:¬u+1+1=u:=by omega
  have v4:¬w+1=w:=by omega
  have hS:=zux hf hr len hlen k (zN7 h hf.Ao hk) (by omega) hk.ego hk.vb a (hin a (by rw[<-ha];exact jk hil)) signals;have hRd:=zVX hF hr len hlen ps hp vs qq hq0 hvl hvo signals gv u w i (by omega) k NW SW hSW hk a;have hKs:=zNm hf hr len signals hk a (zs:=zs) (ss:=ss);have htk:(zEt m zs ss r len signals k a).tick=k.tick+1:=rfl;have hon2:=zNe (m:=m) (zs:=zs) (ss:=ss) (r:=r) (len:=len) (ps:=ps) (vs:=vs) (was:=k) (now:=zEt m zs ss r len signals k a) (sw:=zKu m zs ss r len signals k a);rw[show zpg m zs ss r len k (zaN m r k.ego a) signals=zEt m zs ss r len signals k a from rfl,show zhp (zlg (zfV m zs ss r len k (zaN m r k.ego a) signals))=zKu m zs ss r len signals k a from rfl]at hS;unfold zKr;by_cases c:zMi m zs ss r len ps vs k (zEt m zs ss r len signals k a) (zKu m zs ss r len signals k a)=0
  ·rw[if_pos c];rw[if_pos c]at hRd;have hshi:=hon2 c;have hK:=hKs (by omega);have ih':=ih (i+1) (gv+1+1) (u+1+1+1) (w+1) (zEt m zs ss r len signals k a) (zG (zEt m zs ss r len signals k a)) (.jc (zbf (zKu m zs ss r len signals k a))) (kv+1) hd' hil hK (by rw[htk];omega) (.inr ⟨_,_,rfl,rfl⟩);have step:Y L Cs zHM (some [12,11,2,4,0,3,13]) (qq+9) (zVK qq jN i) (zVG qq m r len ps vs 0 gv u k NW SW w i 0 (zJY false 0 0) jN kv k signals)=Y L Cs zHM (some [12,11,2,4,0,3,13]) (qq+9) (zVK qq jN (i+1)) (zVG qq m r len ps vs 0 (gv+1+1) (u+1+1+1) (zEt m zs ss r len signals k a) (zG (zEt m zs ss r len signals k a)) (.jc (zbf (zKu m zs ss r len signals k a))) (w+1) ((i+1:Nat):Int) 0 (zJY false 0 0) jN (kv+1) (zEt m zs ss r len signals k a) signals):=by
    clear ih ih' hKs hon2 hK htk hshi;generalize zEt m zs ss r len signals k a=nx at *;generalize zKu m zs ss r len signals k a=sw at *;rw[zj zHM.eq_1];rcases hq0 with⟨rfl,-⟩ |⟨rfl,-⟩<;>rcases hSW with⟨rfl,rfl⟩ |⟨k0,x,rfl,rfl⟩<;>simp only[jH,↓reduceIte,jz,Nat.reduceAdd,rdG,rdA,rdB,jC,zox,zh,zi,zf,zG,zJY,own,zJZ,jg,jf]at hS hRd<;>simp (maxSteps:=1000000) [zVK,zVG,rdG,rdA,rdB,jC,zox,zh,zi,zf,zG,zJY,own,hil,ha,hw,hS,hRd,v1,v2,v3,v4,zg,zH]
   rw[step];clear step;revert ih';generalize zKr m zs ss r len ps vs signals t (i+1) (zEt m zs ss r len signals k a)=V;obtain⟨V1,kf⟩:=V;cases V1 with
   |none =>
    rintro⟨gv',u',w',NW',SW',kv',hO,⟨q1,q2,q3,q4,q5⟩,g⟩;exact⟨gv',u',w',NW',SW',kv',hO,⟨by simp only[ji];omega,by simp only[ji];omega,by simp only[ji];omega,.inr (by omega),.inl (q5.elim id fun q=>⟨_,_,q.2.1,q.2.2⟩)⟩,g⟩
   |some y =>
    rintro⟨gv',u',w',NW',SW',kv',kk,X,E,hO,⟨q1,q2,q3,q4,q5⟩,g⟩;exact⟨gv',u',w',NW',SW',kv',kk,X,E,hO,⟨by simp only[ji];omega,by simp only[ji];omega,by simp only[ji];omega,.inr (by omega),q5⟩,g⟩
  ·rw[if_neg c];rw[if_neg c]at hRd;refine⟨gv+1+1,u+1+1,w+1,zG (zEt m zs ss r len signals k a),.jc (zbf (zKu m zs ss r len signals k a)),kv,k,zEt m zs ss r len signals k a,[(32,.w (Bo true)),(3,.w (Pt (qq+7))),(0,.w (.c (.yld 0 zJ0 rsh))),(4,.w (Pt (qq+8))),(2,.w (Pt (qq+6))),(11,.w (.c (.jc (zu jN)))),(12,.w (W jN.length)),(13,.w (W i)),(8,.w (Pt (qq+9)))],.inr ⟨_,_,rfl,rfl⟩,⟨by simp only[ji];omega,by simp only[ji];omega,by simp only[ji];omega,.inl ⟨rfl,rfl⟩,⟨_,_,rfl,rfl⟩⟩,?_⟩;clear ih hKs hon2 htk;generalize zMi m zs ss r len ps vs k (zEt m zs ss r len signals k a) (zKu m zs ss r len signals k a)=why at *;generalize zEt m zs ss r len signals k a=nx at *;generalize zKu m zs ss r len signals k a=sw at *;rw[zj zHM.eq_1];rcases hq0 with⟨rfl,-⟩ |⟨rfl,-⟩<;>rcases hSW with⟨rfl,rfl⟩ |⟨k0,x,rfl,rfl⟩<;>simp only[jH,↓reduceIte,jz,Nat.reduceAdd,rdG,rdA,rdB,jC,zox,zh,zi,zf,zG,zJY,own,zJZ,jg,jf]at hS hRd<;>simp (maxSteps:=1000000) [zVK,zVG,rdG,rdA,rdB,jC,zox,zh,zi,zf,zG,zJY,own,hil,ha,hw,hS,hRd,v1,v2,v3,v4,zg,zH]
def zOS(len:Int)(x:Ego)(v:Vis):Bool:=decide (v.first.lo<=x.shi)&&decide (x.slo-len<=v.last.hi)
abbrev zPQ(vs:List Vis):Option Blk:=some { box:=false,esz:=10,rows:=zKt vs,gen:=vs.length,fz:=true,ver:=vs.length+1 }
abbrev zMj(m:zD)(r:List Int)(len:Int)(ps:List Pss)(vs:List Vis)(u:Nat)(was:zci)(NW:List Cl)(SW:Cl)(x:Ego):Mem:=[bxv 1 4 (zch x),bx 1 [.ptr 2 0 0 0],bxv u 26 (jC m r len ps (.slice 3 vs.length 10 0 vs.length none) (zG was) NW SW),zPQ vs]
abbrev zMc:Cl:=.fn zKC [] [.ptr 0 0 0 0,.ptr 1 0 0 0]
theorem zN2(m:zD)(r:List Int)(len:Int)(hlen:0<=len/\len<=100000)(ps:List Pss)(vs:List Vis)(u:Nat)(was:zci)(NW:List Cl)(SW:Cl)(hO:zKq NW SW)(x:Ego)(hx:0<=x.slo/\x.slo<=1000000000000000)(v:Vis) :
  R L Cs zKC [.a (zJ1 v),.c (.ptr 0 0 0 0),.c (.ptr 1 0 0 0)] (zMj m r len ps vs u was NW SW x)=some (.w (Bo (zOS len x v)),zMj m r len ps vs u was NW SW x):=by
 rcases hO with⟨rfl,rfl⟩ |⟨k0,x0,rfl,rfl⟩
 all_goals
  have w1:=ku (x.slo-len);rw[zUa zLm rfl];unfold zOS;by_cases c1:v.first.lo<=x.shi<;>by_cases c2:x.slo-len<=v.last.hi<;>simp[zHQ,zMj,zch,zJ1,jC,zox,zh,zi,zf,zG,c1,c2,w1,zg,zH,own]
theorem zM0(m:zD)(r:List Int)(len:Int)(hlen:0<=len/\len<=100000)(ps:List Pss)(vs:List Vis)(hvl:vs.length<=100)(u:Nat)(was:zci)(NW:List Cl)(SW:Cl)(hO:zKq NW SW)(x:Ego)(hx:0<=x.slo/\x.slo<=1000000000000000) :
  R L Cs zKe [.c (.jc (zKt vs)),.c zMc] (zMj m r len ps vs u was NW SW x)=some (.w (Bo (vs.any (zOS len x))),zMj m r len ps vs u was NW SW x):=by
 have key:=zOy vs (by omega) zMc (zOS len x) (zMj m r len ps vs u was NW SW x) (fun v _=>by
  have h:=zN2 m r len hlen ps vs u was NW SW hO x hx v;rcases hO with⟨rfl,rfl⟩ |⟨k0,x0,rfl,rfl⟩<;>simp only[zMj,zch,zJ1,jC,zox,zh,zi,zf,zG,own,zJZ,jg,jf]at h<;>simp[h,zMj,zch,zJ1,jC,zox,zh,zi,zf,zG,own])
 obtain⟨k,h1,h2⟩:=key;rw[zUa zKf rfl];rcases hO with⟨rfl,rfl⟩ |⟨k0,x0,rfl,rfl⟩<;>simp only[zMj,zch,jC,zox,zh,zi,zf,zG,own,zJZ,jg,jf]at h1<;>simp[zHs,h1,h2,zMj,zch,jC,zox,zh,zi,zf,zG,own]
def zLQ(len:Int)(vs:List Vis)(was:zci):Bool:=decide (was.ego.vhi=0) && !vs.any (zOS len was.ego)
theorem zNF(m:zD)(r:List Int)(len:Int)(hlen:0<=len/\len<=100000)(ps:List Pss)(vs:List Vis)(hvl:vs.length<=100)(u:Nat)(was:zci)(NW:List Cl)(SW:Cl)(hO:zKq NW SW)(hx:0<=was.ego.slo/\was.ego.slo<=1000000000000000) :
  R L Cs zLC [J0] (zJ3 m r len ps vs u (zG was) NW SW)=some (.w (Bo (zLQ len vs was)),zJ3 m r len ps vs u (zG was) NW SW):=by
 have hC:=zM0 m r len hlen ps vs hvl u was NW SW hO was.ego hx;unfold zLQ;rcases hO with⟨rfl,rfl⟩ |⟨k0,x0,rfl,rfl⟩
 ·by_cases c:was.ego.vhi=0
  ·have cb:(was.ego.vhi==0)=true:=by simp[c]
   have ce:(was.ego.vhi=0)=True:=eq_true c;rw[zUa zKo rfl];by_cases h0:vs=[]
   ·subst h0;have hI:∀(fnv:Cl) (M:Mem),Y L Cs zHq (some [7,1,0,8]) M.length [(7,.w (W 0)),(1,.w (.c fnv)),(0,.w (.c (.jc []))),(8,.w (W 0))] M=some (.exit 0,[(9,.w (Bo false)),(0,.w (.c (.jc []))),(1,.w (.c fnv)),(7,.w (W 0)),(8,.w (W 0))],M):=by
     intro fnv M;rw[zj zHq.eq_1];simp
    have hC0:R L Cs zKe [.c (.jc []),.c zMc] [bxv 1 4 (zch was.ego),bx 1 [.ptr 2 0 0 0],bxv u 26 (jC m r len ps .je (zG was) zox .je)]=some (.w (Bo false),[bxv 1 4 (zch was.ego),bx 1 [.ptr 2 0 0 0],bxv u 26 (jC m r len ps .je (zG was) zox .je)]):=by
     have h1:R L Cs zKm [.c (.jc []),.c zMc] [bxv 1 4 (zch was.ego),bx 1 [.ptr 2 0 0 0],bxv u 26 (jC m r len ps .je (zG was) zox .je)]=some (.w (W (-1)),[bxv 1 4 (zch was.ego),bx 1 [.ptr 2 0 0 0],bxv u 26 (jC m r len ps .je (zG was) zox .je)]):=by
      have h2:=hI zMc [bxv 1 4 (zch was.ego),bx 1 [.ptr 2 0 0 0],bxv u 26 (jC m r len ps .je (zG was) zox .je)];simp only[zch,jC,zh,zi,zf,zox,zG,ji,jp,jg,jf]at h2;rw[zUa zKb rfl];simp[zHF,zch,jC,zh,zi,zf,zox,zG,h2]
     rw[zUa zKf rfl];simp only[zch,jC,zh,zi,zf,zox,zG,jg,jf]at h1;simp[zHs,h1,zch,jC,zh,zi,zf,zox,zG]
    simp only[zch,jC,zh,zi,zf,zox,zG,jg,jf]at hC0;simp[zH3,zJ3,jC,zh,zi,zf,zox,zG,zch,cb,ce,hC0,zg,zH,own,zX]
   ·simp only[zMj,zPQ,zch,jC,zh,zi,zf,zox,zG,own,zJZ,jg,jf]at hC;simp[zH3,zJ3,h0,jC,zh,zi,zf,zox,zG,zch,cb,ce,hC,zg,zH,own,zX]
  ·have cb:(was.ego.vhi==0)=false:=by simp[c]
   rw[zUa zKo rfl];by_cases h0:vs=[]<;>simp[zH3,zJ3,h0,jC,zh,zi,zf,zox,zG,zch,c,cb,zg,zH,own]
 ·by_cases c:was.ego.vhi=0
  ·have cb:(was.ego.vhi==0)=true:=by simp[c]
   have ce:(was.ego.vhi=0)=True:=eq_true c;rw[zUa zKo rfl];by_cases h0:vs=[]
   ·subst h0;have hI:∀(fnv:Cl) (M:Mem),Y L Cs zHq (some [7,1,0,8]) M.length [(7,.w (W 0)),(1,.w (.c fnv)),(0,.w (.c (.jc []))),(8,.w (W 0))] M=some (.exit 0,[(9,.w (Bo false)),(0,.w (.c (.jc []))),(1,.w (.c fnv)),(7,.w (W 0)),(8,.w (W 0))],M):=by
     intro fnv M;rw[zj zHq.eq_1];simp
    have hC0:R L Cs zKe [.c (.jc []),.c zMc] [bxv 1 4 (zch was.ego),bx 1 [.ptr 2 0 0 0],bxv u 26 (jC m r len ps .je (zG was) (zG k0) (.jc x0))]=some (.w (Bo false),[bxv 1 4 (zch was.ego),bx 1 [.ptr 2 0 0 0],bxv u 26 (jC m r len ps .je (zG was) (zG k0) (.jc x0))]):=by
     have h1:R L Cs zKm [.c (.jc []),.c zMc] [bxv 1 4 (zch was.ego),bx 1 [.ptr 2 0 0 0],bxv u 26 (jC m r len ps .je (zG was) (zG k0) (.jc x0))]=some (.w (W (-1)),[bxv 1 4 (zch was.ego),bx 1 [.ptr 2 0 0 0],bxv u 26 (jC m r len ps .je (zG was) (zG k0) (.jc x0))]):=by
      have h2:=hI zMc [bxv 1 4 (zch was.ego),bx 1 [.ptr 2 0 0 0],bxv u 26 (jC m r len ps .je (zG was) (zG k0) (.jc x0))];simp only[zch,jC,zh,zi,zf,zox,zG,ji,jp,jg,jf]at h2;rw[zUa zKb rfl];simp[zHF,zch,jC,zh,zi,zf,zox,zG,h2]
     rw[zUa zKf rfl];simp only[zch,jC,zh,zi,zf,zox,zG,jg,jf]at h1;simp[zHs,h1,zch,jC,zh,zi,zf,zox,zG]
    simp only[zch,jC,zh,zi,zf,zox,zG,jg,jf]at hC0;simp[zH3,zJ3,jC,zh,zi,zf,zox,zG,zch,cb,ce,hC0,zg,zH,own,zX]
   ·simp only[zMj,zPQ,zch,jC,zh,zi,zf,zox,zG,own,zJZ,jg,jf]at hC;simp[zH3,zJ3,h0,jC,zh,zi,zf,zox,zG,zch,cb,ce,hC,zg,zH,own,zX]
  ·have cb:(was.ego.vhi==0)=false:=by simp[c]
   rw[zUa zKo rfl];by_cases h0:vs=[]<;>simp[zH3,zJ3,h0,jC,zh,zi,zf,zox,zG,zch,c,cb,zg,zH,own]
abbrev jmA(m:zD)(r:List Int)(len:Int)(ps:List Pss)(vs:List Vis)(u:Nat)(was NW:List Cl)(SW:Cl):Mem:=[bxv u 26 (jC m r len ps (.slice 1 vs.length 10 0 vs.length none) was NW SW),some (own 10 (zKt vs))]
abbrev jmB(m:zD)(r:List Int)(len:Int)(ps:List Pss)(vs:List Vis)(u:Nat)(was NW:List Cl)(SW:Cl):Mem:=[bxv u 26 (jC m r len ps .je was NW SW)]
abbrev jmG(qq:Nat)(m:zD)(r:List Int)(len:Int)(ps:List Pss)(vs:List Vis)(u:Nat)(was NW:List Cl)(SW:Cl):Mem:=if qq=0 then jmB m r len ps vs u was NW SW else jmA m r len ps vs u was NW SW
theorem zVV(m:zD)(r:List Int)(len:Int)(ps:List Pss)(vs:List Vis)(qq:Nat)(hq0:qq=0/\vs=[]\/qq=1/\vs≠[])(u:Nat)(k k0:zci)(NW:List Cl)(SW:Cl)(hSW:zKq NW SW)(jN:List Int)(signals:Bool) :
  R L Cs zKZ [J0,.a (zG k),.a [.jc (zu jN)],Bo signals] (jmG qq m r len ps vs u (zG k0) NW SW)=some (.w (.c (.fn zJ8 [] [.ptr (qq+1) 0 0 0,.ptr (qq+2) 0 0 0,.ptr (qq+3) 0 0 0,.ptr (qq+4) 0 0 0])),jmG qq m r len ps vs u (zG k0) NW SW++[bx 1 [.jc (zu jN)],bx 1 [.ptr 0 0 0 0],bx 6 (zG k),bx 1 [.bool signals]]):=by
 rw[zUa zK4 rfl];rcases hq0 with⟨rfl,-⟩ |⟨rfl,-⟩<;>rcases hSW with⟨rfl,rfl⟩ |⟨k1,x,rfl,rfl⟩<;>simp[zIc,jmG,jmA,jmB,jC,zox,zh,zi,zf,zG,zJY,own,zg,zH,List.range,List.range.loop]
theorem zVT{m:zD}{zs:List Zon}{ss:List Sgn}(hF:zKj m zs ss){r:List Int}(hr:zdA m r=0)(len:Int)(hlen:0<=len/\len<=20000)(ps:List Pss)(hp:ps.length<=1000)(vs:List Vis)(qq:Nat)(hq0:qq=0/\vs=[]\/qq=1/\vs≠[])(hvl:vs.length<=100)(hvo:∀v∈vs,zKN zs v)(signals:Bool)(jN:List Int)(hin:∀a∈jN,zk0 a)(hal:jN.length<=500)(u:Nat)(k:zci)(NW:List Cl)(SW:Cl)(hk:KJ m k)(ht:0<=k.tick/\k.tick<=1099511627776)(hSW:zKq NW SW)(hne:jN≠[]) :
  ∃gv' u' w' NW' SW' kv' kk,zOP NW' SW'/\(gv'≠0/\u<u'/\w'≠1/\(kv'=0->kk=k))/\R L Cs zJ8 [.c (.yld 0 zJ0 rsh),Pt (qq+5),Pt (qq+6),Pt (qq+7),Pt (qq+8)] (zVG qq m r len ps vs 0 0 u k NW SW 1 0 0 (zJY false 0 0) jN 0 k signals) =
   some (.t [],match (zKr m zs ss r len ps vs signals jN 0 k).1 with
    |none=>zVG qq m r len ps vs 0 gv' u' (zKr m zs ss r len ps vs signals jN 0 k).2 NW' SW' w' jN.length 0 (zJY false 0 0) jN kv' kk signals
    |some (at',why)=>zVG qq m r len ps vs 2 gv' u' (zKr m zs ss r len ps vs signals jN 0 k).2 NW' SW' w' at' 1 (zJY false at' why) jN kv' kk signals):=by
 have g:=zVU hF hr len hlen ps hp vs qq hq0 hvl hvo signals jN hin hal jN 0 0 u 1 k NW SW 0 rfl (jx _) hk (by omega) hSW;generalize zKr m zs ss r len ps vs signals jN 0 k=V at *;obtain⟨V1,kf⟩:=V;have hlp:=kx.2 hne;cases V1 with
 |none =>
  obtain⟨gv',u',w',NW',SW',kv',hO,⟨q1,q2,q3,q4,q5⟩,g⟩:=g;have hO:=q5.resolve_right fun q=>hne q.1
  refine⟨gv',u',w',NW',SW',kv',kf,hO,⟨by omega,by omega,by omega,fun e=>q4.elim (fun q=>q.2) fun q=>by omega⟩,?_⟩;clear q1 q2 q3 q4 q5;rw[zUa zKl rfl];rcases hq0 with⟨rfl,-⟩ |⟨rfl,-⟩<;>rcases hSW with⟨rfl,rfl⟩ |⟨k0,x,rfl,rfl⟩<;>obtain⟨k1,x1,rfl,rfl⟩:=hO<;>simp only[jH,↓reduceIte,jz,Nat.reduceAdd,zVK,zVG,rdG,rdA,rdB,jC,zox,zh,zi,zf,zG,zJY,own,zJZ,jg,jf,jh]at g<;>simp (maxSteps:=1000000) [zHZ,zVK,zVG,rdG,rdA,rdB,jC,zox,zh,zi,zf,zG,zJY,own,g,zg,zH,List.range,List.range.loop]
 |some y =>
  obtain⟨at',why⟩:=y;obtain⟨gv',u',w',NW',SW',kv',kk,X,E,hO,⟨q1,q2,q3,q4,hO⟩,g⟩:=g;refine⟨gv',u',w',NW',SW',kv',kk,hO,⟨by omega,by omega,by omega,fun e=>q4.elim (fun q=>q.2) fun q=>by omega⟩,?_⟩;clear q1 q2 q3 q4;rw[zUa zKl rfl];rcases hq0 with⟨rfl,-⟩ |⟨rfl,-⟩<;>rcases hSW with⟨rfl,rfl⟩ |⟨k0,x,rfl,rfl⟩<;>obtain⟨k1,x1,rfl,rfl⟩:=hO<;>simp only[jH,↓reduceIte,jz,Nat.reduceAdd,zVK,zVG,rdG,rdA,rdB,jC,zox,zh,zi,zf,zG,zJY,own,zJZ,jg,jf,jh]at g<;>simp (maxSteps:=1000000) [zHZ,zVK,zVG,rdG,rdA,rdB,jC,zox,zh,zi,zf,zG,zJY,own,g,zg,zH,List.range,List.range.loop]
theorem zN8{m:zD}{zs:List Zon}{ss:List Sgn}(hF:zKj m zs ss){r:List Int}(hr:zdA m r=0)(len:Int)(ps:List Pss)(vs:List Vis)(signals:Bool):∀(t:List Int) (i:Nat) (k:zci),KJ m k->KJ m (zKr m zs ss r len ps vs signals t i k).2:=by
 have hf:=hF.full;have h:=hf.uL;obtain⟨hon,hne,hl8⟩:=zg1 h hr;have hEb:=zFu h r hl8 hon;intro t;induction t with
 |nil=>intro i k hk;exact hk
 |cons a t ih =>
  intro i k hk;unfold zKr;split
  ·rename_i c;exact ih _ _ (zNm hf hr len signals hk a (by have:=zNe c;omega))
  ·exact hk
def zLH(len:Int)(vs:List Vis)(jN:List Int)(V:Option (Nat×Int)×zci):Bool×Int×Int:=match V.1 with
 |none=>if zLQ len vs V.2 then(true,0,0) else(false,jN.length,7)
 |some (at',why)=>(false,at',why)
def zJ4(x:Bool×Int×Int):List Cl:=zJY x.1 x.2.1 x.2.2
def zMo(WAS:List Cl):Prop:=WAS=zox\/∃k0,WAS=zG k0
theorem zVS{m:zD}{zs:List Zon}{ss:List Sgn}(hF:zKj m zs ss){r:List Int}(hr:zdA m r=0)(len:Int)(hlen:0<=len/\len<=20000)(ps:List Pss)(hp:ps.length<=1000)(vs:List Vis)(qq:Nat)(hq0:qq=0/\vs=[]\/qq=1/\vs≠[])(hvl:vs.length<=100)(hvo:∀v∈vs,zKN zs v)(signals:Bool)(jN:List Int)(hin:∀a∈jN,zk0 a)(hal:jN.length<=500)(u:Nat)(k:zci)(WAS NW:List Cl)(SW:Cl)(hk:KJ m k)(ht:0<=k.tick/\k.tick<=1099511627776)(hW:zMo WAS)(hSW:zKq NW SW)(hne0:jN≠[]) :
  ∃u' NW' SW',zKq NW' SW'/\u'≠u/\R L Cs zKM [J0,.a (zG k),.a [.jc (zu jN)],Bo signals] (jmG qq m r len ps vs u WAS NW SW) =
   some (.w (.a (zJ4 (zLH len vs jN (zKr m zs ss r len ps vs signals jN 0 k)))),jmG qq m r len ps vs u' (zG (zKr m zs ss r len ps vs signals jN 0 k).2) NW' SW'):=by
 obtain⟨gv',u',w',NW',SW',kv',kk,hO,⟨q1,q20,q3,q4⟩,g⟩:=zVT hF hr len hlen ps hp vs qq hq0 hvl hvo signals jN hin hal (u+1) k NW SW hk ht hSW hne0;have hA:=zVV m r len ps vs qq hq0 (u+1) k k NW SW hSW jN signals;have hkf:=zN8 hF hr len ps vs signals jN 0 k hk;have hST:=zNF m r len (by omega) ps vs hvl u' (zKr m zs ss r len ps vs signals jN 0 k).2 NW' SW' (.inr hO) (by have:=hkf.ego.s;omega);have q6:(kv'=0/\kk=k)\/¬kv'=0:=(Classical.em (kv'=0)).imp (fun e=>⟨e,q4 e⟩) id;have hne:¬(zJ0=zJ8):=by decide
 have q2:u'≠u+1:=by omega
 refine⟨u',NW',SW',.inr hO,by omega,?_⟩;clear hkf;generalize zKr m zs ss r len ps vs signals jN 0 k=V at *;obtain⟨V1,kf⟩:=V;rw[zUa zKO rfl];cases V1 with
 |none =>
  rw[zJ3,zVW hq0]at hST;cases hq:zLQ len vs kf with
  |true =>
   rw[hq]at hST;rcases hq0 with⟨rfl,-⟩ |⟨rfl,-⟩<;>rcases hW with rfl |⟨kw,rfl⟩<;>rcases hSW with⟨rfl,rfl⟩ |⟨k0,x,rfl,rfl⟩<;>obtain⟨k1,x1,rfl,rfl⟩:=hO<;>rcases q6 with⟨c4,rfl⟩|c4<;>simp only[jH,↓reduceIte,jz,Nat.reduceAdd,rdG,rdA,rdB,jC,zox,zh,zi,zf,zG,zJY,own,zJZ,jg,jf,jh,jmG,jmA,jmB,zVG,rsh]at g hA hST<;>simp (maxSteps:=1000000) [zH2,jmG,jmA,jmB,zVG,rdG,rdA,rdB,jC,zox,zh,zi,zf,zG,zJY,own,zJ4,zLH,zNb,zeN,ghost,znr,zsR,Eng.kq,hne,zg,zH,List.range,List.range.loop,rsh,g,q1,q2,q3,c4,hA,hq,hST]
  |false =>
   rw[hq]at hST;rcases hq0 with⟨rfl,-⟩ |⟨rfl,-⟩<;>rcases hW with rfl |⟨kw,rfl⟩<;>rcases hSW with⟨rfl,rfl⟩ |⟨k0,x,rfl,rfl⟩<;>obtain⟨k1,x1,rfl,rfl⟩:=hO<;>rcases q6 with⟨c4,rfl⟩|c4<;>simp only[jH,↓reduceIte,jz,Nat.reduceAdd,rdG,rdA,rdB,jC,zox,zh,zi,zf,zG,zJY,own,zJZ,jg,jf,jh,jmG,jmA,jmB,zVG,rsh]at g hA hST<;>simp (maxSteps:=1000000) [zH2,jmG,jmA,jmB,zVG,rdG,rdA,rdB,jC,zox,zh,zi,zf,zG,zJY,own,zJ4,zLH,zNb,zeN,ghost,znr,zsR,Eng.kq,hne,zg,zH,List.range,List.range.loop,rsh,g,q1,q2,q3,c4,hA,hq,hST]
 |some y =>
  obtain⟨at',why⟩:=y;clear hST;rcases hq0 with⟨rfl,-⟩ |⟨rfl,-⟩<;>rcases hW with rfl |⟨kw,rfl⟩<;>rcases hSW with⟨rfl,rfl⟩ |⟨k0,x,rfl,rfl⟩<;>obtain⟨k1,x1,rfl,rfl⟩:=hO<;>rcases q6 with⟨c4,rfl⟩|c4<;>simp only[jH,↓reduceIte,jz,Nat.reduceAdd,rdG,rdA,rdB,jC,zox,zh,zi,zf,zG,zJY,own,zJZ,jg,jf,jh,jmG,jmA,jmB,zVG,rsh]at g hA<;>simp (maxSteps:=1000000) [zH2,jmG,jmA,jmB,zVG,rdG,rdA,rdB,jC,zox,zh,zi,zf,zG,zJY,own,zJ4,zLH,zNb,zeN,ghost,znr,zsR,Eng.kq,hne,zg,zH,List.range,List.range.loop,rsh,g,q1,q2,q3,c4,hA]
abbrev zVM(qq:Nat)(jN:List Int)(i:Nat):Env:=[(13,.w (W i)),(12,.w (W jN.length)),(11,.w (.c (.jc (zu jN)))),(4,.w (Pt (qq+1))),(0,.w J0)]
abbrev zVI(qq:Nat)(m:zD)(r:List Int)(len:Int)(ps:List Pss)(vs:List Vis)(u:Nat)(was NW:List Cl)(SW:Cl)(v:Nat)(k:zci)(jN:List Int):Mem:=jmG qq m r len ps vs u was NW SW++[bxv v 6 (zG k),bx 1 [.jc (zu jN)]]
theorem zVO{m:zD}(h:zcp m){r:List Int}(hr:zdA m r=0)(len:Int)(ps:List Pss)(vs:List Vis)(qq:Nat)(hq0:qq=0/\vs=[]\/qq=1/\vs≠[])(u:Nat)(was:zci)(NW:List Cl)(SW:Cl)(hSW:zKq NW SW)(jN:List Int)(hin:∀a∈jN,zk0 a)(hal:jN.length<=500)(bs:List zk):∀(t:List Int) (i v:Nat) (tk:Int) (e:Ego),jN.drop i=t->i<=jN.length->znd e->0<=tk/\tk<=1099511627776 ->
  (fbF m r t tk e=none->∃v' k' E T,(T=[]\/∃e2,T=[bxv 1 4 (zch e2)])/\Y L Cs zIC (some [13,12,11,4,0]) (qq+3) (zVM qq jN i) (zVI qq m r len ps vs u (zG was) NW SW v ⟨tk,bs,e⟩ jN)=some (.exit 0,E,zVI qq m r len ps vs u (zG was) NW SW v' k' jN++T)) /\
  (fbF m r t tk e≠none->∃v' k' e2,Y L Cs zIC (some [13,12,11,4,0]) (qq+3) (zVM qq jN i) (zVI qq m r len ps vs u (zG was) NW SW v ⟨tk,bs,e⟩ jN)=some (.ret,[(6,.w (Bo false))],zVI qq m r len ps vs u (zG was) NW SW v' k' jN++[bxv 1 4 (zch e2)])):=by
 obtain⟨hon,hne,hl8⟩:=zg1 h hr;have hEb:=zFu h r hl8 hon;intro t;induction t with
 |nil =>
  intro i v tk e hd hi he ht;obtain rfl:=zUb hd hi;refine⟨fun _=>⟨v,⟨tk,bs,e⟩,[(14,.w (Bo false)),(13,.w (W jN.length)),(12,.w (W jN.length)),(11,.w (.c (.jc (zu jN)))),(4,.w (Pt (qq+1))),(0,.w J0)],[],.inl rfl,?_⟩,fun hq=>absurd rfl hq⟩;rw[zj zIC.eq_1];simp
 |cons a t ih =>
  intro i v tk e hd hi he ht;obtain⟨hil,ha,hd'⟩:=zL hd;have hw:=zB (i:=i) (by omega);have hD:R L Cs zgW [.a (zh m r len),.a (zch e),W a] []=some (.w (.a (zch (zaN m r e a))),[]):=by
   obtain⟨x0,r',rfl⟩:∃x r',r=x::r':=by cases r with|nil=>exact absurd rfl hne|cons x r'=>exact⟨x,r',rfl⟩
   exact zvQ h x0 r' len (hon x0 (jr ..)) e he a (hin a (by rw[<-ha];exact jk hil))
  have hd2:=zLs h hr he a;unfold fbF;have w2:tk<1099511627776->IntKind.i64.wrap (tk+1)=tk+1:=fun q=>zTd _ (by omega) (by omega)
  by_cases c:zV2 m r tk e a
  ·rw[if_pos c];refine⟨fun q=>(by cases q),fun _=>?_⟩;clear ih;unfold zV2 at c;generalize zaN m r e a=x at *;refine⟨v,⟨tk,bs,e⟩,x,?_⟩;by_cases c1:1099511627776<=tk
   ·rw[zj zIC.eq_1];rcases hq0 with⟨rfl,-⟩ |⟨rfl,-⟩<;>rcases hSW with⟨rfl,rfl⟩ |⟨k0,y,rfl,rfl⟩<;>simp only[jH,↓reduceIte,jz,Nat.reduceAdd,zh,zi,zf,zch,jg,jf]at hD<;>simp (maxSteps:=1000000) [zVM,zVI,jmG,jmA,jmB,jC,zox,zh,zi,zf,zG,own,zch,hil,ha,hw,hD,c1,zg,zH]
   ·have c2:1099511627776<x.shi:=c.resolve_left c1;rw[zj zIC.eq_1];rcases hq0 with⟨rfl,-⟩ |⟨rfl,-⟩<;>rcases hSW with⟨rfl,rfl⟩ |⟨k0,y,rfl,rfl⟩<;>simp only[jH,↓reduceIte,jz,Nat.reduceAdd,zh,zi,zf,zch,jg,jf]at hD<;>simp (maxSteps:=1000000) [zVM,zVI,jmG,jmA,jmB,jC,zox,zh,zi,zf,zG,own,zch,hil,ha,hw,hD,c1,c2,zg,zH]
  ·rw[if_neg c];unfold zV2 at c;have c1:¬1099511627776<=tk:=fun q=>c (.inl q)
   have c2:¬1099511627776<(zaN m r e a).shi:=fun q=>c (.inr q)
   by_cases d:zmd m 0 r<(zaN m r e a).shi
   ·rw[if_pos d];refine⟨fun _=>?_,fun q=>absurd rfl q⟩;clear ih;generalize zaN m r e a=x at *;refine⟨v,⟨tk,bs,e⟩,[(40,.w (Bo true)),(0,.w J0),(4,.w (Pt (qq+1))),(11,.w (.c (.jc (zu jN)))),(12,.w (W jN.length)),(13,.w (W i)),(9,.w (Pt (qq+3)))],[bxv 1 4 (zch x)],.inr ⟨x,rfl⟩,?_⟩;rw[zj zIC.eq_1];rcases hq0 with⟨rfl,-⟩ |⟨rfl,-⟩<;>rcases hSW with⟨rfl,rfl⟩ |⟨k0,y,rfl,rfl⟩<;>simp only[jH,↓reduceIte,jz,Nat.reduceAdd,zh,zi,zf,zch,jg,jf]at hD<;>simp (maxSteps:=1000000) [zVM,zVI,jmG,jmA,jmB,jC,zox,zh,zi,zf,zG,own,zch,hil,ha,hw,hD,c1,c2,d,zg,zH]
   ·rw[if_neg d];obtain⟨i1,i2⟩:=ih (i+1) (v+1+1) (tk+1) (zaN m r e a) hd' hil ⟨⟨hd2.1,hd2.2.1,by omega⟩,⟨hd2.2.2.2.1,hd2.2.2.2.2.1,hd2.2.2.2.2.2⟩⟩ (by omega);have step:Y L Cs zIC (some [13,12,11,4,0]) (qq+3) (zVM qq jN i) (zVI qq m r len ps vs u (zG was) NW SW v ⟨tk,bs,e⟩ jN)=Y L Cs zIC (some [13,12,11,4,0]) (qq+3) (zVM qq jN (i+1)) (zVI qq m r len ps vs u (zG was) NW SW (v+1+1) ⟨tk+1,bs,zaN m r e a⟩ jN):=by
     clear ih i1 i2;have w3:=w2 (by omega);generalize zaN m r e a=x at *;rw[zj zIC.eq_1];rcases hq0 with⟨rfl,-⟩ |⟨rfl,-⟩<;>rcases hSW with⟨rfl,rfl⟩ |⟨k0,y,rfl,rfl⟩<;>simp only[jH,↓reduceIte,jz,Nat.reduceAdd,zh,zi,zf,zch,jg,jf]at hD<;>simp (maxSteps:=1000000) [zVM,zVI,jmG,jmA,jmB,jC,zox,zh,zi,zf,zG,own,zch,hil,ha,hw,hD,c1,c2,d,w3,zg,zH]
    rw[step];cases hq:fbF m r t (tk+1) (zaN m r e a)with
    |none=>exact⟨fun _=>i1 hq,fun q=>absurd rfl q⟩
    |some b=>exact⟨fun q=>(by cases q),fun _=>i2 (by rw[hq];simp)⟩
theorem zVL{m:zD}(h:zcp m){r:List Int}(hr:zdA m r=0)(len:Int)(ps:List Pss)(vs:List Vis)(qq:Nat)(hq0:qq=0/\vs=[]\/qq=1/\vs≠[])(u:Nat)(was:zci)(NW:List Cl)(SW:Cl)(hSW:zKq NW SW)(jN:List Int)(hin:∀a∈jN,zk0 a)(hal:jN.length<=500)(k:zci)(he:znd k.ego)(ht:0<=k.tick/\k.tick<=1099511627776) :
  R L Cs zLY [J0,.a (zG k),.a [.jc (zu jN)]] (jmG qq m r len ps vs u (zG was) NW SW)=some (.w (Bo (fbF m r jN k.tick k.ego).isNone),jmG qq m r len ps vs u (zG was) NW SW):=by
 obtain⟨g1,g2⟩:=zVO h hr len ps vs qq hq0 u was NW SW hSW jN hin hal k.jW jN 0 0 k.tick k.ego rfl (jx _) he ht;rw[zUa zL1 rfl];cases hq:fbF m r jN k.tick k.ego with
 |none =>
  obtain⟨v',k',E,T,hT,g⟩:=g1 hq;clear g1 g2;rcases hq0 with⟨rfl,-⟩ |⟨rfl,-⟩<;>rcases hSW with⟨rfl,rfl⟩ |⟨k0,y,rfl,rfl⟩<;>rcases hT with rfl |⟨e2,rfl⟩<;>simp only[jH,↓reduceIte,jz,Nat.reduceAdd,zVM,zVI,jmG,jmA,jmB,jC,zox,zh,zi,zf,zG,own,zch,zJZ,jg,jf,qD,jh]at g<;>simp (maxSteps:=1000000) [zIU,jmG,jmA,jmB,jC,zox,zh,zi,zf,zG,own,zch,g,zg,zH]
 |some b =>
  obtain⟨v',k',e2,g⟩:=g2 (by rw[hq];simp);clear g1 g2;rcases hq0 with⟨rfl,-⟩ |⟨rfl,-⟩<;>rcases hSW with⟨rfl,rfl⟩ |⟨k0,y,rfl,rfl⟩<;>simp only[jH,↓reduceIte,jz,Nat.reduceAdd,zVM,zVI,jmG,jmA,jmB,jC,zox,zh,zi,zf,zG,own,zch,zJZ,jg,jf,qD,jh]at g<;>simp (maxSteps:=1000000) [zIU,jmG,jmA,jmB,jC,zox,zh,zi,zf,zG,own,zch,g,zg,zH]
abbrev zVN(qq:Nat)(jN:List Int)(i:Nat):Env:=[(24,.w (W i)),(23,.w (W jN.length)),(5,.w (Pt (qq+1))),(6,.w (Pt (qq+2))),(0,.w J0),(9,.w (Pt (qq+4))),(8,.w (Pt (qq+3)))]
abbrev zVJ(qq:Nat)(m:zD)(r:List Int)(len:Int)(ps:List Pss)(vs:List Vis)(u:Nat)(was NW:List Cl)(SW:Cl)(k:zci)(jN:List Int)(v:Nat)(y:Bool×Int×Int)(x:Bool×Int×Int):Mem:=jmG qq m r len ps vs u was NW SW++[bx 6 (zG k),bx 1 [.jc (zu jN)],bxv v 3 (zJ4 y),bxv 1 3 (zJ4 x)]
theorem zVP{m:zD}(h:zcp m){r:List Int}(hr:zdA m r=0)(len:Int)(ps:List Pss)(vs:List Vis)(qq:Nat)(hq0:qq=0/\vs=[]\/qq=1/\vs≠[])(u:Nat)(was:zci)(NW:List Cl)(SW:Cl)(hSW:zKq NW SW)(jN:List Int)(hin:∀a∈jN,zk0 a)(hal:jN.length<=500)(k:zci)(he:znd k.ego)(ht:0<=k.tick/\k.tick<=1099511627776)(x:Bool×Int×Int)(b:Nat)(hb:fbF m r jN k.tick k.ego=some b):∀(f i:Nat),i+f=b ->
  Y L Cs zHK (some [24,23,5,6,0,9,8]) (qq+5) (zVN qq jN i) (zVJ qq m r len ps vs u (zG was) NW SW k jN 0 (false,0,0) x)=some (.ret,[(8,.w (Pt (qq+3)))],zVJ qq m r len ps vs u (zG was) NW SW k jN 1 (zKX x (some b)) x):=by
 have hbl:=zO8 m r jN _ _ b hb;obtain⟨x1,x2,x3⟩:=x;intro f;induction f with
 |zero =>
  intro i hi;obtain rfl:i=b:=by omega
  have hw:=zB (i:=i) (by omega);have hil:(i:Int)<jN.length:=by omega
  have e1:(0:Int)<=(i:Int)+1:=by omega
  have e2:(i:Int)+1<=jN.length:=by omega
  have e3:i+1<=jN.length:=by omega
  have hS:=zVL h hr len ps vs qq hq0 u was NW SW hSW (jN.take (i+1)) (fun y hy=>hin y (qy hy)) (by simp;omega) k he ht;rw[zLX,hb]at hS;simp only[jH,↓reduceIte,jz,Nat.reduceAdd,qH,Nat.lt_succ_self,if_true,Option.isNone_some]at hS;rw[show zu (jN.take (i+1))=(zu jN).take (i+1) from by simp[zu,yu]]at hS;unfold zKX;rw[zj zHK.eq_1];by_cases c1:0<x2
  ·by_cases c2:x2<=(i:Int)
   ·by_cases c3:x3=7
    ·have cb:(x3 !=7)=false:=by simp[c3]
     have cb2:(x3==7)=true:=by simp[c3]
     rcases hq0 with⟨rfl,-⟩ |⟨rfl,-⟩<;>rcases hSW with⟨rfl,rfl⟩ |⟨k0,z,rfl,rfl⟩<;>simp only[jH,↓reduceIte,jz,Nat.reduceAdd,jmG,jmA,jmB,jC,zox,zh,zi,zf,zG,own,zJY,zJ4,zJZ,jg,jf]at hS<;>simp (maxSteps:=1000000) [zVN,zVJ,jmG,jmA,jmB,jC,zox,zh,zi,zf,zG,own,zJY,zJ4,hil,hbl,hw,e1,e2,e3,hS,c1,c2,c3,cb,cb2,zg,zH]
    ·have cb:(x3 !=7)=true:=by simp[c3]
     have cb2:(x3==7)=false:=by simp[c3]
     rcases hq0 with⟨rfl,-⟩ |⟨rfl,-⟩<;>rcases hSW with⟨rfl,rfl⟩ |⟨k0,z,rfl,rfl⟩<;>simp only[jH,↓reduceIte,jz,Nat.reduceAdd,jmG,jmA,jmB,jC,zox,zh,zi,zf,zG,own,zJY,zJ4,zJZ,jg,jf]at hS<;>simp (maxSteps:=1000000) [zVN,zVJ,jmG,jmA,jmB,jC,zox,zh,zi,zf,zG,own,zJY,zJ4,hil,hbl,hw,e1,e2,e3,hS,c1,c2,c3,cb,cb2,zg,zH]
   ·rcases hq0 with⟨rfl,-⟩ |⟨rfl,-⟩<;>rcases hSW with⟨rfl,rfl⟩ |⟨k0,z,rfl,rfl⟩<;>simp only[jH,↓reduceIte,jz,Nat.reduceAdd,jmG,jmA,jmB,jC,zox,zh,zi,zf,zG,own,zJY,zJ4,zJZ,jg,jf]at hS<;>simp (maxSteps:=1000000) [zVN,zVJ,jmG,jmA,jmB,jC,zox,zh,zi,zf,zG,own,zJY,zJ4,hil,hbl,hw,e1,e2,e3,hS,c1,c2,zg,zH]
  ·rcases hq0 with⟨rfl,-⟩ |⟨rfl,-⟩<;>rcases hSW with⟨rfl,rfl⟩ |⟨k0,z,rfl,rfl⟩<;>simp only[jH,↓reduceIte,jz,Nat.reduceAdd,jmG,jmA,jmB,jC,zox,zh,zi,zf,zG,own,zJY,zJ4,zJZ,jg,jf]at hS<;>simp (maxSteps:=1000000) [zVN,zVJ,jmG,jmA,jmB,jC,zox,zh,zi,zf,zG,own,zJY,zJ4,hil,hbl,hw,e1,e2,e3,hS,c1,zg,zH]
 |succ f ih =>
  intro i hi;have hw:=zB (i:=i) (by omega);have hil:(i:Int)<jN.length:=by omega
  have e1:(0:Int)<=(i:Int)+1:=by omega
  have e2:(i:Int)+1<=jN.length:=by omega
  have e3:i+1<=jN.length:=by omega
  have BB:i<jN.length:=by omega
  have hS:=zVL h hr len ps vs qq hq0 u was NW SW hSW (jN.take (i+1)) (fun y hy=>hin y (qy hy)) (by simp;omega) k he ht;rw[zLX,hb]at hS;simp only[jH,↓reduceIte,jz,Nat.reduceAdd,qH,show ¬b<i+1 by omega,if_false,Option.isNone_none]at hS;rw[show zu (jN.take (i+1))=(zu jN).take (i+1) from by simp[zu,yu]]at hS;have ih':=ih (i+1) (by omega);clear ih;by_cases cc:0<x2/\x2<=i/\x3≠7
  ·obtain⟨c1,c2,c3⟩:=cc;clear ih';rw[show zKX (x1,x2,x3) (some b)=(x1,x2,x3) from by rw[zKX,if_pos ⟨c1,by show x2<=b;omega,c3⟩]];have cb:(x3 !=7)=true:=by simp[c3]
   have cb2:(x3==7)=false:=by simp[c3]
   rw[zj zHK.eq_1];rcases hq0 with⟨rfl,-⟩ |⟨rfl,-⟩<;>rcases hSW with⟨rfl,rfl⟩ |⟨k0,z,rfl,rfl⟩<;>simp only[jH,↓reduceIte,jz,Nat.reduceAdd,jmG,jmA,jmB,jC,zox,zh,zi,zf,zG,own,zJY,zJ4,zJZ,jg,jf]at hS<;>simp (maxSteps:=1000000) [zVN,zVJ,jmG,jmA,jmB,jC,zox,zh,zi,zf,zG,own,zJY,zJ4,hil,BB,hw,e1,e2,e3,hS,c1,c2,c3,cb,cb2,zg,zH]
  ·rw[<-ih'];clear ih';rw[zj zHK.eq_1];by_cases c1:0<x2
   ·by_cases c2:x2<=(i:Int)
    ·have c3:x3=7:=Classical.not_not.1 fun q=>cc ⟨c1,c2,q⟩
     have cb:(x3 !=7)=false:=by simp[c3]
     have cb2:(x3==7)=true:=by simp[c3]
     rcases hq0 with⟨rfl,-⟩ |⟨rfl,-⟩<;>rcases hSW with⟨rfl,rfl⟩ |⟨k0,z,rfl,rfl⟩<;>simp only[jH,↓reduceIte,jz,Nat.reduceAdd,jmG,jmA,jmB,jC,zox,zh,zi,zf,zG,own,zJY,zJ4,zJZ,jg,jf]at hS<;>simp (maxSteps:=1000000) [zVN,zVJ,jmG,jmA,jmB,jC,zox,zh,zi,zf,zG,own,zJY,zJ4,hil,BB,hw,e1,e2,e3,hS,c1,c2,c3,cb,cb2,zg,zH]
    ·rcases hq0 with⟨rfl,-⟩ |⟨rfl,-⟩<;>rcases hSW with⟨rfl,rfl⟩ |⟨k0,z,rfl,rfl⟩<;>simp only[jH,↓reduceIte,jz,Nat.reduceAdd,jmG,jmA,jmB,jC,zox,zh,zi,zf,zG,own,zJY,zJ4,zJZ,jg,jf]at hS<;>simp (maxSteps:=1000000) [zVN,zVJ,jmG,jmA,jmB,jC,zox,zh,zi,zf,zG,own,zJY,zJ4,hil,BB,hw,e1,e2,e3,hS,c1,c2,zg,zH]
   ·rcases hq0 with⟨rfl,-⟩ |⟨rfl,-⟩<;>rcases hSW with⟨rfl,rfl⟩ |⟨k0,z,rfl,rfl⟩<;>simp only[jH,↓reduceIte,jz,Nat.reduceAdd,jmG,jmA,jmB,jC,zox,zh,zi,zf,zG,own,zJY,zJ4,zJZ,jg,jf]at hS<;>simp (maxSteps:=1000000) [zVN,zVJ,jmG,jmA,jmB,jC,zox,zh,zi,zf,zG,own,zJY,zJ4,hil,BB,hw,e1,e2,e3,hS,c1,zg,zH]
theorem zVQ{m:zD}{zs:List Zon}{ss:List Sgn}(hF:zKj m zs ss){r:List Int}(hr:zdA m r=0)(len:Int)(hlen:0<=len/\len<=20000)(ps:List Pss)(hp:ps.length<=1000)(vs:List Vis)(qq:Nat)(hq0:qq=0/\vs=[]\/qq=1/\vs≠[])(hvl:vs.length<=100)(hvo:∀v∈vs,zKN zs v)(signals:Bool)(jN:List Int)(hin:∀a∈jN,zk0 a)(hal:jN.length<=500)(u:Nat)(k:zci)(WAS NW:List Cl)(SW:Cl)(hk:KJ m k)(ht:0<=k.tick/\k.tick<=1099511627776)(hW:zMo WAS)(hSW:zKq NW SW)(hne0:jN≠[]) :
  ∃u' Br NW' SW',zMo Br/\zKq NW' SW'/\u'≠u/\R L Cs zKv [J0,.a (zG k),.a [.jc (zu jN)],Bo signals] (jmG qq m r len ps vs u WAS NW SW) =
   some (.w (.a (zJ4 (zKX (zLH len vs jN (zKr m zs ss r len ps vs signals jN 0 k)) (fbF m r jN k.tick k.ego)))),jmG qq m r len ps vs u' Br NW' SW'):=by
 obtain⟨u',NW',SW',hO,hu,hV⟩:=zVS hF hr len hlen ps hp vs qq hq0 hvl hvo signals jN hin hal u k WAS NW SW hk ht hW hSW hne0;have hS:=zVL hF.full.uL hr len ps vs qq hq0 u' (zKr m zs ss r len ps vs signals jN 0 k).2 NW' SW' hO jN hin hal k hk.ego ht;have hL:=zVP hF.full.uL hr len ps vs qq hq0 u' (zKr m zs ss r len ps vs signals jN 0 k).2 NW' SW' hO jN hin hal k hk.ego ht (zLH len vs jN (zKr m zs ss r len ps vs signals jN 0 k));refine⟨u',_,NW',SW',.inr ⟨(zKr m zs ss r len ps vs signals jN 0 k).2,rfl⟩,hO,hu,?_⟩;generalize zLH len vs jN (zKr m zs ss r len ps vs signals jN 0 k)=x at *;generalize (zKr m zs ss r len ps vs signals jN 0 k).2=kf at *;rw[zUa zKI rfl];cases hq:fbF m r jN k.tick k.ego with
 |none =>
  rw[hq]at hS;clear hL;rcases hq0 with⟨rfl,-⟩ |⟨rfl,-⟩<;>rcases hW with rfl |⟨kw,rfl⟩<;>rcases hSW with⟨rfl,rfl⟩ |⟨k0,y,rfl,rfl⟩<;>rcases hO with⟨rfl,rfl⟩ |⟨k1,y1,rfl,rfl⟩<;>simp only[jH,↓reduceIte,jz,Nat.reduceAdd,jmG,jmA,jmB,jC,zox,zh,zi,zf,zG,own,zJY,zJ4,zJZ,jg,jf,Option.isNone_none]at hS hV<;>simp (maxSteps:=1000000) [zHW,zKX,jmG,jmA,jmB,jC,zox,zh,zi,zf,zG,own,zJY,zJ4,hS,hV,hu,zg,zH]
 |some b =>
  rw[hq]at hS;have hL':=hL b hq b 0 (by omega);clear hL;generalize zKX x (some b)=y2 at *;rcases hq0 with⟨rfl,-⟩ |⟨rfl,-⟩<;>rcases hW with rfl |⟨kw,rfl⟩<;>rcases hSW with⟨rfl,rfl⟩ |⟨k0,y,rfl,rfl⟩<;>rcases hO with⟨rfl,rfl⟩ |⟨k1,y1,rfl,rfl⟩<;>simp only[jH,↓reduceIte,jz,Nat.reduceAdd,jmG,jmA,jmB,jC,zox,zh,zi,zf,zG,own,zJY,zJ4,zVN,zVJ,zJZ,jg,jf,Option.isNone_some,jh]at hS hV hL'<;>simp (maxSteps:=1000000) [zHW,jmG,jmA,jmB,jC,zox,zh,zi,zf,zG,own,zJY,zJ4,hS,hV,hL',hu,zg,zH]
end Go.TrRun
/- Plain laws of cars, ramps, stops and profiles: no program in sight. -/
namespace Go.PlanLaw
structure Car where
 len:Int
 kP:Int
 kF:Int
 u0:Int
 Am:Int
def Car.ok(c:Car):Prop:=300<=c.len/\c.len<=20000/\1<=c.kP/\c.kP<=30/\20<=c.kF/\c.kF<=90/\5<=c.u0/\c.u0<=120/\0<=c.Am/\c.Am<=5
instance(c:Car):Decidable c.ok:=by unfold Car.ok;infer_instance
def zVH(c:Car)(x:Int):Int:=max (-c.kF) (min x c.kP)
def zFX(c:Car)(last w:Int):Int:=max (zVH c last-c.u0) (min (zVH c w) (zVH c last+c.u0))
def doV(v x:Int):Int:=min (max (v+max (-2000) (min x 2000)) 0) 2000
theorem zG1(v x:Int):0<=doV v x/\doV v x<=2000:=by unfold doV;omega
theorem zG2{c:Car}(h:c.ok)(x:Int):-c.kF<=zVH c x/\zVH c x<=c.kP:=by
 obtain⟨h1,h2,h3,h4,h5,h6,h7,h8,h9,h10⟩:=h;unfold zVH;omega
theorem zNt{c:Car}(h:c.ok)(x w:Int):-c.kF<=zFX c x w/\zFX c x w<=c.kP:=by
 have h1:=zG2 h x;have h2:=zG2 h w;obtain⟨h1,h2,h3,h4,h5,h6,h7,h8,h9,h10⟩:=h;unfold zFX;omega
theorem zG3{c:Car}(h:c.ok){x:Int}(h1:-c.kF<=x)(h2:x<=c.kP):zVH c x=x:=by unfold zVH;omega
theorem zMv{c:Car}(h:c.ok){x:Int}(h1:-c.kF<=x)(h2:x<=c.kP)(w:Int):-c.u0<=zFX c x w-x/\zFX c x w-x<=c.u0:=by
 have h3:=zG2 h w;have h4:=zG3 h h1 h2;obtain⟨h1,h2,h3,h4,h5,h6,h7,h8,h9,h10⟩:=h;unfold zFX;omega
def zGI(c:Car):Nat->Bool->Int->Int->Option (List Int)
 |0,_,_,_=>none
 |m+1,f,last,v=>if f=true\/0<v\/0<last then(zGI c m false (zFX c last (-c.kF)) (doV v (zFX c last (-c.kF)))).map (zFX c last (-c.kF) :: ·) else some []
theorem zF7(c:Car)(m:Nat)(f:Bool)(last v:Int):zGI c (m+1) f last v=if(f=true\/0<v\/0<last) then(zGI c m false (zFX c last (-c.kF)) (doV v (zFX c last (-c.kF)))).map (zFX c last (-c.kF) :: ·) else some []:=rfl
theorem zG8(v x:Int)(hv:0<=v/\v<=2000)(hx:-100<=x/\x<=100):doV v x=max 0 (min 2000 (v+x)):=by unfold doV;omega
theorem zGx{c:Car}(h:c.ok)(last:Int):zFX c last (-c.kF)=max (zVH c last-c.u0) (-c.kF):=by
 obtain⟨h1,h2,h3,h4,h5,h6,h7,h8,h9,h10⟩:=h;unfold zFX zVH;omega
theorem zGM{c:Car}{last:Int}(h:c.ok)(h1:-c.kF<=last)(h2:last<=c.kP):zFX c last (-c.kF)=max (last-c.u0) (-c.kF):=by
 rw[zGx h last,zG3 h h1 h2]
theorem ends2{c:Car}(h:c.ok):∀(m:Nat) (last v:Int),-c.kF<=last->last<=-20->0<=v->v<=2000->v<=20*m->∃l,zGI c (m+1) false last v=some l/\l.length<=m
 |0,last,v,h1,h2,h3,h4,h5=>⟨[],by
   rw[zF7,if_neg (by simp;omega)],by simp⟩
 |m+1,last,v,h1,h2,h3,h4,h5=>by
  have hcar:=h;obtain⟨q1,q2,q3,q4,q5,q6,q7,q8,q9,q10⟩:=hcar;rw[zF7];split
  ·have hr:=zGM h h1 (by omega:last<=c.kP);have hd:=zG8 v (zFX c last (-c.kF)) ⟨h3,h4⟩ (by omega);obtain⟨l,hl,hn⟩:=ends2 h m (zFX c last (-c.kF)) (doV v (zFX c last (-c.kF))) (by omega) (by omega) (by omega) (by omega) (by omega);exact⟨_::l,by rw[hl];rfl,by simp;omega⟩
  ·exact⟨[],rfl,by simp⟩
theorem ends1{c:Car}(h:c.ok):∀(t:Nat) (last v:Int),-c.kF<=last->last<=c.kP->last<=5*t-20->0<=v->v<=2000->∃l,zGI c (101+t) false last v=some l/\l.length<=100+t
 |0,last,v,h1,h2,h3,h4,h5=>ends2 h 100 last v h1 (by omega) h4 h5 (by omega)
 |t+1,last,v,h1,h2,h3,h4,h5=>by
  have hcar:=h;obtain⟨q1,q2,q3,q4,q5,q6,q7,q8,q9,q10⟩:=hcar;rw[show 101+(t+1)=(101+t)+1 by omega,zF7];split
  ·have hr:=zGM h h1 h2;have hd:=zG1 v (zFX c last (-c.kF));obtain⟨l,hl,hn⟩:=ends1 h t (zFX c last (-c.kF)) (doV v (zFX c last (-c.kF))) (by omega) (by omega) (by omega) hd.1 hd.2;exact⟨_::l,by rw[hl];rfl,by simp;omega⟩
  ·exact⟨[],rfl,by simp⟩
theorem ends{c:Car}(h:c.ok)(last v:Int)(h4:0<=v)(h5:v<=2000):∃l,zGI c 111 true last v=some l/\0<l.length/\l.length<=110:=by
 have hcar:=h;obtain⟨q1,q2,q3,q4,q5,q6,q7,q8,q9,q10⟩:=hcar;have hr:=zGx h last;have hcl:=zG2 h last;have hd:=zG1 v (zFX c last (-c.kF));obtain⟨l,hl,hn⟩:=ends1 h 9 (zFX c last (-c.kF)) (doV v (zFX c last (-c.kF))) (by omega) (by omega) (by omega) hd.1 hd.2;refine⟨_::l,by rw[show 111=(101+9)+1 from rfl,zF7,if_pos (.inl rfl),hl];rfl,by simp,by simp;omega⟩
def stops(c:Car)(last v:Int):List Int:=(zGI c 111 true last v).getD []
theorem zMs{c:Car}(h:c.ok)(last v:Int)(h4:0<=v)(h5:v<=2000):zGI c 111 true last v=some (stops c last v)/\0<(stops c last v).length/\(stops c last v).length<=110:=by
 obtain⟨l,h1,h2,h3⟩:=ends h last v h4 h5;simp only[stops,h1,vG];exact⟨trivial,h2,h3⟩
def chain(c:Car):Int->List Int->Prop
 |_,[]=>True
 |a,x::xs=>(-c.kF<=x/\x<=c.kP)/\(-c.u0<=x-a/\x-a<=c.u0)/\chain c x xs
def zG0:Int->List Int->Int
 |a,[]=>a
 |_,x::xs=>zG0 x xs
theorem zLT(a:Int)(l m:List Int):zG0 a (l++m)=zG0 (zG0 a l) m:=by
 induction l generalizing a with
 |nil=>rfl
 |cons x l ih=>exact ih x
theorem zLi{c:Car}:∀{a:Int} {l m:List Int},chain c a l->chain c (zG0 a l) m->chain c a (l++m)
 |_,[],_,_,h=>h
 |_,_::_,_,⟨h1,h2,h3⟩,h=>⟨h1,h2,zLi h3 h⟩
theorem zND{c:Car}:∀{a:Int} {l:List Int},chain c a l->∀x∈l,-c.kF<=x/\x<=c.kP
 |_,[],_,x,hx=>by cases hx
 |_,y::l,⟨h1,_,h3⟩,x,hx=>by
  rcases jB.1 hx with rfl|hx
  ·exact h1
  ·exact zND h3 x hx
theorem zLK{c:Car}:∀{a:Int} {l:List Int},(-c.kF<=a/\a<=c.kP)->chain c a l->-c.kF<=zG0 a l/\zG0 a l<=c.kP
 |_,[],h,_=>h
 |_,_::_,_,⟨h1,_,h3⟩=>have q:=zLK h1 h3;q
theorem zMb{c:Car}(h:c.ok):∀{m:Nat} {f:Bool} {last v:Int} {l:List Int},-c.kF<=last->last<=c.kP->zGI c m f last v=some l->chain c last l
 |0,f,last,v,l,_,_,hl=>by simp[zGI]at hl
 |m+1,f,last,v,l,h1,h2,hl=>by
  rw[zF7]at hl;split at hl
  ·simp only[ja]at hl;obtain⟨l',h',rfl⟩:=hl;have hi:=zNt h last (-c.kF);exact⟨hi,zMv h h1 h2 _,zMb h hi.1 hi.2 h'⟩
  ·cases hl;trivial
theorem zNV(a b:Int){l:List Int}(h:l≠[]):zG0 a l=zG0 b l:=by
 cases l with
 |nil=>exact absurd rfl h
 |cons x l=>rfl
def zHd:Int->List Int->Int
 |v,[]=>v
 |v,x::xs=>zHd (doV v x) xs
theorem zM3{c:Car}:∀{m:Nat} {f:Bool} {last v:Int} {l:List Int},0<=v->zGI c m f last v=some l->zHd v l=0/\zG0 last l<=0
 |0,f,last,v,l,_,hl=>by simp[zGI]at hl
 |m+1,f,last,v,l,hv,hl=>by
  rw[zF7]at hl;split at hl
  ·simp only[ja]at hl;obtain⟨l',h',rfl⟩:=hl;have q:=zM3 (zG1 v (zFX c last (-c.kF))).1 h';exact q
  ·rename_i hc;cases hl;simp only[not_or]at hc;exact⟨by simp only[zHd];omega,by simp only[zG0];omega⟩
structure Drv where
 last:Int
 v:Int
 l:List Int
def Drv.ub(s:Drv)(a:Int):Drv:=⟨a,doV s.v a,s.l++[a]⟩
def Drv.qj(c:Car)(w:Int):Nat->Drv->Drv
 |0,s=>s
 |n+1,s=>Drv.qj c w n (s.ub (zFX c s.last w))
def Drv.queue:List Int->Drv->Drv
 |[],s=>s
 |x::xs,s=>Drv.queue xs (s.ub x)
def zJ2(c:Car)(q:List Int)(last v:Int)(up hold:Nat):List Int :=
 let s:=(((Drv.mk last v []).queue (q.take 5)) |>.qj c c.kP up) |>.qj c 0 hold
 s.l++stops c s.last s.v
def Drv.from(c:Car)(a:Int)(s:Drv):Prop:=chain c a s.l/\s.last=zG0 a s.l/\0<=s.v/\s.v<=2000
theorem Drv.from.ub{c:Car}{a:Int}{s:Drv}(h:s.from c a){x:Int}(hx:-c.kF<=x/\x<=c.kP)(hn:-c.u0<=x-s.last/\x-s.last<=c.u0):(s.ub x).from c a:=by
 refine⟨zLi h.1 ⟨hx,?_,trivial⟩,?_,zG1 ..⟩
 ·rw[<-h.2.1];exact hn
 ·simp only[Drv.ub,zLT];rfl
theorem Drv.from.qj{c:Car}(hc:c.ok){a w:Int}(ha:-c.kF<=a/\a<=c.kP):∀{n:Nat} {s:Drv},s.from c a->(Drv.qj c w n s).from c a
 |0,s,h=>h
 |n+1,s,h=>by
  have hl:=zLK ha h.1;rw[<-h.2.1]at hl;have q:=Drv.from.qj (w:=w) (n:=n) hc ha (h.ub (zNt hc s.last w) (zMv hc hl.1 hl.2 w));exact q
theorem Drv.from.queue{c:Car}{a:Int}:∀{q:List Int} {s:Drv},s.from c a->chain c s.last q->(Drv.queue q s).from c a
 |[],s,h,_=>h
 |x::q,s,h,⟨h1,h2,h3⟩=>have r:=Drv.from.queue (h.ub h1 h2) h3;r
theorem Drv.vz{c:Car}{w:Int}:∀{n:Nat} {s:Drv},(Drv.qj c w n s).l.length=s.l.length+n
 |0,s=>rfl
 |n+1,s=>by rw[Drv.qj,Drv.vz];simp[Drv.ub];omega
theorem Drv.yX:∀{q:List Int} {s:Drv},(Drv.queue q s).l.length=s.l.length+q.length
 |[],s=>rfl
 |x::q,s=>by rw[Drv.queue,Drv.yX];simp[Drv.ub];omega
theorem Drv.BH:∀{q:List Int} {s:Drv},(Drv.queue q s).l=s.l++q
 |[],s=>by simp[Drv.queue]
 |x::q,s=>by rw[Drv.queue,Drv.BH];simp[Drv.ub]
theorem Drv.A7{c:Car}{w:Int}:∀{n:Nat} {s:Drv},∃m,(Drv.qj c w n s).l=s.l++m
 |0,s=>⟨[],by simp[Drv.qj]⟩
 |n+1,s=>by
  obtain⟨m,hm⟩:=Drv.A7 (c:=c) (w:=w) (n:=n) (s:=s.ub (zFX c s.last w));exact⟨zFX c s.last w::m,by rw[Drv.qj,hm];simp[Drv.ub]⟩
theorem zOW{c:Car}(hc:c.ok){q:List Int}{last v:Int}{up hold:Nat}(ha:-c.kF<=last/\last<=c.kP)(hq:chain c last q)(hn:q.length<=5)(hv:0<=v/\v<=2000)(hu:up<=20)(hh:hold<=20) :
  chain c last (zJ2 c q last v up hold)/\0<(zJ2 c q last v up hold).length/\(zJ2 c q last v up hold).length<=200/\zG0 last (zJ2 c q last v up hold)<=0/\(zJ2 c q last v up hold).take q.length=q/\q.length<=(zJ2 c q last v up hold).length:=by
 have h0:(Drv.mk last v []).from c last:=⟨trivial,rfl,hv⟩;have ht:q.take 5=q:=jM hn;simp only[zJ2,ht];have h1:=Drv.from.queue h0 hq;have h2:=Drv.from.qj (w:=c.kP) (n:=up) hc ha h1;have h3:=Drv.from.qj (w:=0) (n:=hold) hc ha h2;have hl1:(Drv.queue q (Drv.mk last v [])).l.length=q.length:=by rw[Drv.yX];simp
 have hl2:=Drv.vz (c:=c) (w:=c.kP) (n:=up) (s:=Drv.queue q (Drv.mk last v []));have hl3:=Drv.vz (c:=c) (w:=0) (n:=hold) (s:=Drv.qj c c.kP up (Drv.queue q (Drv.mk last v [])));obtain⟨m2,e2⟩:=Drv.A7 (c:=c) (w:=c.kP) (n:=up) (s:=Drv.queue q (Drv.mk last v []));obtain⟨m3,e3⟩:=Drv.A7 (c:=c) (w:=0) (n:=hold) (s:=Drv.qj c c.kP up (Drv.queue q (Drv.mk last v [])));have e1:=Drv.BH (q:=q) (s:=Drv.mk last v []);generalize Drv.qj c 0 hold (Drv.qj c c.kP up (Drv.queue q (Drv.mk last v [])))=s at *;obtain⟨hs,hp,hs1⟩:=zMs hc s.last s.v h3.2.2.1 h3.2.2.2;have hsl:=zLK ha h3.1;rw[<-h3.2.1]at hsl;have hne:stops c s.last s.v≠[]:=by intro h;rw[h]at hp;simp at hp
 refine⟨zLi h3.1 ?_,by simp;omega,by simp;omega,?_,?_,by simp;omega⟩
 ·rw[<-h3.2.1];exact zMb hc hsl.1 hsl.2 hs
 ·rw[zLT,zNV _ s.last hne];exact(zM3 h3.2.2.1 hs).2
 ·rw[e3,e2,e1];simp
def zLD(c:Car)(x:Int):Bool:=!(decide (-c.kF<=x)&&decide (x<=c.kP))
def zIY(c:Car):Int->List Int->Bool
 |_,[]=>false
 |l,x::xs=>!(decide (-c.u0<=x-l)&&decide (x-l<=c.u0))||zIY c x xs
def qX(c:Car)(l:List Int):Int :=
 if ¬c.ok then 2 else if l.length=0 then 6 else if 200<l.length then 5
 else if 0<l.getLastD 0 then 2 else if l.any (zLD c) then 2 else if zIY c (l.headD 0) l then 11 else 0
end Go.PlanLaw
namespace Go.TrRun.Pl
open Go Go.Eng Go.PlanLaw
def ki(c:Car):List Cl:=[I c.len,I c.kP,I c.kF,I c.u0,I c.Am]
theorem zF6(x a b:Int):R L Cs zGF [W x,W a,W b] []=some (.w (Bo (decide (a<=x)&&decide (x<=b))),[]):=by
 rw[zUa zGH rfl];by_cases h:a<=x<;>simp[zF3,h]
theorem zGS{c:Car}(h:c.ok):R L Cs zGe [.a (ki c)] []=some (.w (W 0),[]):=by
 obtain⟨h1,h2,h3,h4,h5,h6,h7,h8,h9,h10⟩:=h;rw[zUa zGf rfl];simp[zFN,ki,zF6,h1,h2,h3,h4,h5,h6,h7,h8,h9,h10]
def dB(c:Car)(last v:Int)(jN:Cl)(ver:Nat):Blk:={ box:=true,esz:=8,rows:=[ki c++[I last,I v,jN]],gen:=0,fz:=false,ver }
def zI0(k:Nat):List Int->Cl
 |[]=>.je
 |x::l=>sl (k+1) 1 (zu (x::l))
def zI1:List Int->Mem
 |[]=>[]
 |x::l=>[some (own 1 (zu (x::l)))]
def kq(k:Nat)(c:Car)(s:Drv):Mem:=some (dB c s.last s.v (zI0 k s.l) (3*s.l.length))::zI1 s.l
abbrev st(c:Car)(s:Drv):Mem:=kq 0 c s
abbrev P0:WV:=.c (.ptr 0 0 0 0)
theorem zP6{c:Car}(h:c.ok)(last v x:Int)(jN:Cl)(ver:Nat)(M:Mem):R L Cs zLJ [P0,W x] (some (dB c last v jN ver)::M)=some (.w (W (zVH c x)),some (dB c last v jN ver)::M):=by
 obtain⟨h1,h2,h3,h4,h5,h6,h7,h8,h9,h10⟩:=h;have hw:=ku (-c.kF);rw[zUa zLP rfl];simp[zGq,dB,ki,hw,zVH]
theorem zP5{c:Car}(h:c.ok)(s:Drv)(w:Int):R L Cs zK1 [P0,W w] (st c s)=some (.w (W (zFX c s.last w)),st c s):=by
 have hk1:=zG2 h s.last;have hk2:=zG2 h w;have Cv:=fun x jN ver M=>zP6 h s.last s.v x jN ver M
 obtain⟨h1,h2,h3,h4,h5,h6,h7,h8,h9,h10⟩:=h;have w1:=ku (zVH c s.last-c.u0);have w2:=ku (zVH c s.last+c.u0);simp only[dB,ki,jg,jf]at Cv;rw[zUa zLO rfl];obtain⟨last,v,l⟩:=s;cases l with
 |nil=>simp[kq,zI0,zI1,zGp,dB,ki,Cv,w1,w2,zFX]
 |cons y l=>simp[kq,zI0,zI1,zGp,dB,ki,Cv,w1,w2,zFX]
theorem zQF(c:Car)(s:Drv)(x:Int)(hv:0<=s.v/\s.v<=2000)(hn:s.l.length<=1000):R L Cs zLf [P0,W x] (st c s)=some (.t [],st c (s.ub x)):=by
 have w1:=ku (s.v+max (-2000) (min x 2000));obtain⟨last,v,l⟩:=s;simp only at hv hn w1;rw[zUa zMa rfl];cases l with
 |nil=>simp[kq,zI0,zI1,zGu,dB,ki,w1,Drv.ub,doV]
 |cons y l =>
  have hr:(l.length+1+1)*8<=140737488355328:=by simp at hn;omega
  simp[kq,zI0,zI1,zGu,dB,ki,w1,Drv.ub,doV,hr];omega
theorem zL6{α:Type}(p:List α)(x:α)(l:List α):(p++x::l)[p.length]?=some x:=by simp
theorem zLz{α:Type}(p:List α)(x y:α)(l:List α):(p++x::y::l)[p.length+1]?=some y:=by simp
theorem zL5{α:Type}(p:List α)(x z:α)(l:List α):(p++x::l).set p.length z=p++z::l:=by simp
theorem zLy{α:Type}(p:List α)(x y z:α)(l:List α):(p++x::y::l).set (p.length+1) z=p++x::z::l:=by simp
def zNy(k:Nat):List Int->FP
 |[]=>.wr [(k,0,whole)]
 |_::_=>.wr [(k,0,whole),(k+1,0,whole)]
theorem zMr(c:Car)(s:Drv)(x:Int)(hv:0<=s.v/\s.v<=2000)(hn:s.l.length<=1000)(p:Mem):zx (R L Cs) ⟨true⟩ (.c (.fn zLf [] [])) [.c (.ptr p.length 0 0 0),W x] (p++kq p.length c s)=some (.t [],p++kq p.length c (s.ub x),zNy p.length s.l):=by
 have hd:=zQF c s x hv hn;obtain⟨last,v,l⟩:=s;cases l with
 |nil =>
  simp[kq,zI0,zI1,dB,ki,Drv.ub]at hd;simp[kq,zI0,zI1,dB,ki,Drv.ub,hd,zL6,zLz,zL5,zLy,zNy]
 |cons y l =>
  have hne:¬3*(l.length+1+1)=3*(l.length+1):=by omega
  simp[kq,zI0,zI1,dB,ki,Drv.ub]at hd;simp[kq,zI0,zI1,dB,ki,Drv.ub,hd,zL6,zLz,zL5,zLy,zNy,hne]
theorem zL7{c:Car}(h:c.ok)(s:Drv)(w:Int)(p:Mem):zx (R L Cs) ⟨true⟩ (.c (.fn zK1 [] [])) [.c (.ptr p.length 0 0 0),W w] (p++kq p.length c s)=some (.w (W (zFX c s.last w)),p++kq p.length c s,.no):=by
 have hd:=zP5 h s w;obtain⟨last,v,l⟩:=s;cases l with
 |nil =>
  simp[kq,zI0,zI1,dB,ki,Drv.ub]at hd;simp[kq,zI0,zI1,dB,ki,Drv.ub,hd,zL6,zLz,zL5,zLy,zNy]
 |cons y l =>
  simp[kq,zI0,zI1,dB,ki,Drv.ub]at hd;simp[kq,zI0,zI1,dB,ki,Drv.ub,hd,zL6,zLz,zL5,zLy,zNy]
def Drv.run(s:Drv)(l:List Int):Drv:=⟨zG0 s.last l,zHd s.v l,s.l++l⟩
theorem Drv.CE(s:Drv):Drv.run s []=s:=by simp[Drv.run,zG0,zHd]
theorem Drv.Cc(s:Drv)(x:Int)(l:List Int):Drv.run s (x::l)=Drv.run (s.ub x) l:=by simp[Drv.run,Drv.ub,zG0,zHd]
@[simp] theorem zb(k:Nat)(c:Car)(s:Drv):(kq k c s)[0]?=some (some (dB c s.last s.v (zI0 k s.l) (3*s.l.length))):=rfl
@[simp] theorem z5(c:Car)(s:Drv):(st c s)[0]?=some (some (dB c s.last s.v (zI0 0 s.l) (3*s.l.length))):=rfl
theorem zM7{n:Nat}{E:Env}{M:Mem}(h:M.length<=n):km n E M=M:=by unfold km;rw[if_pos h]
theorem zLr(p:Mem)(c:Car)(s:Drv)(n:Nat)(E:Env)(hp:p.length+1<=n):km n E (p++kq p.length c s)=p++kq p.length c s:=by
 obtain⟨last,v,l⟩:=s;cases l with
 |nil=>exact zM7 (by simpa [kq,zI1]using hp)
 |cons y l =>
  by_cases h:p.length+2<=n
  ·exact zM7 (by simpa [kq,zI1]using h)
  ·obtain rfl:n=p.length+1:=by omega
   have ht:(p++kq p.length c ⟨last,v,y::l⟩).take (p.length+1)=p++[some (dB c last v (zI0 p.length (y::l)) (3*(y::l).length))]:=List.take_length_add_append 1;have hm:zH (p.length+1) (p++[some (dB c last v (zI0 p.length (y::l)) (3*(y::l).length))])=false:=by
    simp[zH,dB,zI0,ki]
   unfold km;rw[ht,hm,if_neg (by simp[kq,zI1])];simp
theorem zM2{c:Car}(hc:c.ok)(n0:Nat)(hn0:1<=n0):∀(m:Nat) (s:Drv) (f:Bool) (l:List Int),zGI c m f s.last s.v=some l->s.l.length+l.length<=1000->0<=s.v/\s.v<=2000 ->
  ∃E',Y L Cs zGg (some [2,0]) n0 [(2,.w (Bo f)),(0,.w P0)] (st c s)=some (.exit 0,E',st c (Drv.run s l))
 |0,s,f,l,h,_,_=>by simp[zGI]at h
 |m+1,s,f,l,h,hl,hv=>by
  have hbr:=hc;obtain⟨h1,h2,h3,h4,h5,h6,h7,h8,h9,h10⟩:=hbr;have hw:=ku (-c.kF);rw[zF7]at h;split at h
  ·rename_i vK;simp only[ja]at h;obtain⟨l',h',rfl⟩:=h;have hr:=zL7 hc s (-c.kF) [];have hd:=zMr c s (zFX c s.last (-c.kF)) hv (by simp at hl;omega) [];obtain⟨E',hE⟩:=zM2 hc n0 hn0 m (s.ub (zFX c s.last (-c.kF))) false l' h' (by simp[Drv.ub]at hl ⊢;omega) (zG1 ..);refine⟨E',?_⟩;rw[Drv.Cc,<-hE];have hdr:=fun E=>zLr [] c (s.ub (zFX c s.last (-c.kF))) n0 E hn0
   refine zP2 (E':=[(2,.w (Bo false)),(0,.w P0)]) (M':=st c (s.ub (zFX c s.last (-c.kF)))) (s:=([(2,.w (Bo false)),(0,.w P0)],st c (s.ub (zFX c s.last (-c.kF))))) ?_ ?_
   ·simp only[jf,jp]at hr hd;cases f with
    |true=>simp[zGg,hr,hd,hw,dB,ki,-zx]
    |false =>
     by_cases hv0:0<s.v
     ·simp[zGg,hr,hd,hw,dB,ki,hv0,-zx]
     ·have hl0:0<s.last:=by simpa [hv0]using vK
      simp[zGg,hr,hd,hw,dB,ki,hv0,hl0,-zx]
   ·simp only[jf,jp]at hdr;simp[hdr,-km]
  ·rename_i vK;cases h;simp only[not_or]at vK;obtain⟨q1,q2,q3⟩:=vK;cases f with
   |true=>exact absurd rfl q1
   |false =>
    rw[Drv.CE];refine⟨_,zhJ (r:=(.exit 0,[(17,.w (Bo false)),(0,.w P0)],st c s)) ?_ (by simp)⟩;simp[zGg,dB,ki,q2,q3]
theorem zOA(c:Car)(s s':Drv)(h:s.l=[]\/s'.l≠[]):finish (st c s).length (.t []) (st c s')=some (.t [],st c s'):=by
 obtain⟨last,v,l⟩:=s;obtain⟨last',v',l'⟩:=s';cases l with
 |nil=>cases l' with
  |nil=>exact zMe _ (st c ⟨last',v',[]⟩)
  |cons y l'=>simp[kq,zI1,zI0,dB,ki]
 |cons x l=>cases l' with
  |nil=>simp at h
  |cons y l'=>exact zMe _ (st c ⟨last',v',y::l'⟩)
theorem zP3{c:Car}(hc:c.ok)(s:Drv){l:List Int}(h:zGI c 111 true s.last s.v=some l)(hl:s.l.length+l.length<=1000)(hv:0<=s.v/\s.v<=2000):R L Cs zK0 [P0] (st c s)=some (.t [],st c (Drv.run s l)):=by
 obtain⟨E',hE⟩:=zM2 hc (st c s).length (by simp[kq]) 111 s true l h hl hv;have hdr:=fun E=>zLr [] c s (st c s).length E (by simp[kq])
 simp only[jf,jp]at hdr;rw[zUa zLN rfl];simp[zGo,hdr,hE,-km,-finish];refine zOA c s _ ?_;cases hs:s.l with
 |nil=>exact .inl rfl
 |cons x t=>exact .inr (by simp[Drv.run,hs])
theorem zOD{c:Car}(hc:c.ok)(s:Drv){l:List Int}(h:zGI c 111 true s.last s.v=some l)(hl0:0<l.length)(hl:s.l.length+l.length<=1000)(hv:0<=s.v/\s.v<=2000)(p:Mem):zx (R L Cs) ⟨true⟩ (.c (.fn zK0 [] [])) [.c (.ptr p.length 0 0 0)] (p++kq p.length c s)=some (.t [],p++kq p.length c (Drv.run s l),zNy p.length s.l):=by
 have hd:=zP3 hc s h hl hv;cases l with
 |nil=>simp at hl0
 |cons z l =>
 obtain⟨last,v,a⟩:=s;cases a with
 |nil =>
  simp[kq,zI0,zI1,dB,ki,Drv.run]at hd;simp[kq,zI0,zI1,dB,ki,Drv.run,hd,zL6,zLz,zL5,zLy,zNy]
 |cons y a =>
  have hne:¬3*(a.length+(l.length+1)+1)=3*(a.length+1):=by omega
  have hne2:¬a.length+(l.length+1)+1=a.length+1:=by omega
  simp[kq,zI0,zI1,dB,ki,Drv.run]at hd;simp[kq,zI0,zI1,dB,ki,Drv.run,hd,zL6,zLz,zL5,zLy,zNy,hne,hne2]
theorem zOs{l:List Int}{i:Nat}(h:i<l.length):(zu l)[i]?=some [I l[i]]:=by simp[zu,h]
abbrev zKk(c:Car):Blk:={ box:=true,esz:=5,rows:=[ki c],gen:=0,fz:=false,ver:=0 }
abbrev fnB:WV:=.c (.fn zLp [] [.ptr 0 0 0 0])
theorem zOO{c:Car}(hc:c.ok)(x:Int):R L Cs zLp [W x,P0] [some (zKk c)]=some (.w (Bo (zLD c x)),[some (zKk c)]):=by
 obtain⟨h1,h2,h3,h4,h5,h6,h7,h8,h9,h10⟩:=hc;have hw:=ku (-c.kF);rw[zUa zMQ rfl];simp[zGB,ki,hw,zF6,zLD]
theorem zO5{c:Car}(hc:c.ok)(l:List Int)(hl:l.length<=1000):∀(r:List Int) (i:Nat),l.drop i=r->i<=l.length ->
  (r.any (zLD c)=false->∃E',Y L Cs zFZ (some [7,1,0,8]) 1 [(7,.w (W l.length)),(1,.w fnB),(0,.w (.c (.jc (zu l)))),(8,.w (W i))] [some (zKk c)]=some (.exit 0,E',[some (zKk c)])) /\
  (r.any (zLD c)=true->∃k:Nat,Y L Cs zFZ (some [7,1,0,8]) 1 [(7,.w (W l.length)),(1,.w fnB),(0,.w (.c (.jc (zu l)))),(8,.w (W i))] [some (zKk c)]=some (.ret,[(4,.w (W k))],[some (zKk c)])):=by
 intro r;induction r with
 |nil =>
  intro i hd hi;obtain rfl:=zUb hd hi;refine⟨fun _=>⟨_,zhJ (r:=(.exit 0,[(9,.w (Bo false)),(0,.w (.c (.jc (zu l)))),(1,.w fnB),(7,.w (W l.length)),(8,.w (W l.length))],[some (zKk c)])) ?_ (by simp)⟩,fun h=>by simp at h⟩;simp[zFZ]
 |cons x r ih =>
  intro i hd hi;obtain⟨hil,hx,hd'⟩:=zL hd;obtain⟨ih1,ih2⟩:=ih (i+1) hd' hil;have hch:=zOO hc x;have hw:=zB (i:=i) (by omega);have hg:=zOs hil;rw[hx]at hg;by_cases hb:zLD c x=true
  ·refine⟨fun h=>by simp[hb]at h,fun _=>⟨i,zhJ ?_ (by simp)⟩⟩;rw[hb]at hch;simp[zKk,ki]at hch;simp[zFZ,hil,hx,hch,zKk,ki]
  ·have hb:zLD c x=false:=by simpa using hb
   rw[hb]at hch;simp[zKk,ki]at hch;have vo:Y L Cs zFZ (some [7,1,0,8]) 1 [(7,.w (W l.length)),(1,.w fnB),(0,.w (.c (.jc (zu l)))),(8,.w (W i))] [some (zKk c)] =
     Y L Cs zFZ (some [7,1,0,8]) 1 [(7,.w (W l.length)),(1,.w fnB),(0,.w (.c (.jc (zu l)))),(8,.w (W (i+1:Nat)))] [some (zKk c)]:=by
    rw[zrL];simp[zFZ,hil,hx,hch,zKk,ki,hw]
   rw[vo];simp only[yw,hb,um];exact⟨ih1,ih2⟩
theorem zvV{c:Car}(hc:c.ok)(l:List Int)(hl:l.length<=1000):∃k:Int,R L Cs zK9 [.c (.jc (zu l)),fnB] [some (zKk c)]=some (.w (W k),[some (zKk c)])/\(decide (0<=k)=l.any (zLD c)):=by
 obtain⟨h1,h2⟩:=zO5 hc l hl l 0 rfl (jx _);cases hb:l.any (zLD c)with
 |false =>
  obtain⟨E',hE⟩:=h1 hb;refine⟨-1,?_,by decide⟩;rw[zUa zKx rfl];simp at hE;simp[zF2,hE]
 |true =>
  obtain⟨k,hE⟩:=h2 hb;refine⟨k,?_,by simp⟩;rw[zUa zKx rfl];simp at hE;simp[zF2,hE]
theorem zMN{c:Car}(hc:c.ok)(l:List Int)(hl:l.length<=1000):R L Cs zKQ [.c (.jc (zu l)),fnB] [some (zKk c)]=some (.w (Bo (l.any (zLD c))),[some (zKk c)]):=by
 obtain⟨k,h1,h2⟩:=zvV hc l hl;rw[zUa zKT rfl];simp[zKk,ki]at h1;simp[zF0,h1,h2,zKk,ki]
abbrev zKp(l:List Int):Blk:={ box:=true,esz:=1,rows:=[[.jc (zu l)]],gen:=0,fz:=false,ver:=0 }
theorem zw9{c:Car}(hc:c.ok)(l:List Int)(hl:l.length<=1000)(hr:∀x∈l,-1000<=x/\x<=1000):∀(r:List Int) (i:Nat) (a:Int),-1000<=a/\a<=1000->l.drop i=r->i<=l.length ->
  (zIY c a r=false->∃E',Y L Cs zGw (some [7,44,43,2,45]) 2 [(7,.w (W a)),(44,.w (W l.length)),(43,.w (.c (.jc (zu l)))),(2,.w P0),(45,.w (W i))] [some (zKk c),some (zKp l)]=some (.exit 1,E',[some (zKk c),some (zKp l)])) /\
  (zIY c a r=true->Y L Cs zGw (some [7,44,43,2,45]) 2 [(7,.w (W a)),(44,.w (W l.length)),(43,.w (.c (.jc (zu l)))),(2,.w P0),(45,.w (W i))] [some (zKk c),some (zKp l)]=some (.ret,[(4,.w (W 11))],[some (zKk c),some (zKp l)])):=by
 intro r;have hcc:=hc;obtain⟨q1,q2,q3,q4,q5,q6,q7,q8,q9,q10⟩:=hcc;have hwr:=ku (-c.u0);induction r with
 |nil =>
  intro i a ha hd hi;obtain rfl:=zUb hd hi;refine⟨fun _=>⟨_,zhJ (r:=(.exit 1,[(46,.w (Bo false)),(7,.w (W a)),(2,.w P0),(43,.w (.c (.jc (zu l)))),(44,.w (W l.length)),(45,.w (W l.length))],[some (zKk c),some (zKp l)])) ?_ (by simp)⟩,fun h=>by simp[zIY]at h⟩;simp[zGw]
 |cons x r ih =>
  intro i a ha hd hi;obtain⟨hil,hx,hd'⟩:=zL hd;have hxr:=hr x (by rw[<-hx];exact jk hil);obtain⟨ih1,ih2⟩:=ih (i+1) x hxr hd' hil;have hw:=zB (i:=i) (by omega);have hws:=ku (x-a);have hwi:=zF6 (x-a) (-c.u0) c.u0;by_cases hb:(decide (-c.u0<=x-a)&&decide (x-a<=c.u0))=true
  ·rw[hb]at hwi;have vo:Y L Cs zGw (some [7,44,43,2,45]) 2 [(7,.w (W a)),(44,.w (W l.length)),(43,.w (.c (.jc (zu l)))),(2,.w P0),(45,.w (W i))] [some (zKk c),some (zKp l)] =
     Y L Cs zGw (some [7,44,43,2,45]) 2 [(7,.w (W x)),(44,.w (W l.length)),(43,.w (.c (.jc (zu l)))),(2,.w P0),(45,.w (W (i+1:Nat)))] [some (zKk c),some (zKp l)]:=by
    rw[zrL];simp[zGw,hil,hx,zKk,ki,hw,hws,hwr,hwi]
   rw[vo];simp only[zIY,hb,Bool.not_true,um];exact⟨ih1,ih2⟩
  ·have hb:(decide (-c.u0<=x-a)&&decide (x-a<=c.u0))=false:=by simpa using hb
   rw[hb]at hwi;refine⟨fun h=>(by simp only[zIY,hb,Bool.not_false,Bool.true_or]at h;cases h),fun _=>zhJ ?_ (by simp)⟩;simp[zGw,hil,hx,zKk,ki,hw,hws,hwr,hwi]
theorem zPK{c:Car}(hc:c.ok)(l:List Int)(hl:l.length<=1000):R L Cs zLZ [.a (ki c),.a [.jc (zu l)]] []=some (.w (W (qX c l)),[]):=by
 have hck:=zGS hc;have hcf:=zMN hc l hl;simp[zKk,ki]at hck hcf;rw[zUa zL3 rfl];cases l with
 |nil=>simp[zGK,ki,hck,qX,hc]
 |cons x r =>
 simp only[zaP]at hcf;have hne:¬((r.length:Int)+1=0):=by omega
 by_cases h200:200<r.length+1
 ·have A5:(200:Int)<(r.length:Int)+1:=by omega
  simp[zGK,ki,hck,qX,hc,hne,h200,A5]
 have A5:¬(200:Int)<(r.length:Int)+1:=by omega
 have uF:∀h,([I x]::zu r)[r.length]'h=[I ((x::r).getLastD 0)]:=by
  intro h;have e:[I x]::zu r=zu (x::r):=rfl;simp only[e,zBd];simp[List.getLastD_eq_getLast?,List.getLast?_eq_getElem?]
 have hw:IntKind.i64.wrap (r.length:Int)=r.length:=zTd _ (by omega) (by omega);simp only[List.getLastD_cons]at uF;have hlt:(r.length:Int)<(r.length:Int)+1:=by omega
 have hF:qX c (x::r)=if 0<r.getLastD x then 2 else if(x::r).any (zLD c)=true then 2 else if zIY c x (x::r)=true then 11 else 0:=by
  unfold qX;rw[if_neg (by simp[hc]),if_neg (by simp),if_neg (by simpa using h200),List.getLastD_cons,List.headD_cons]
 rw[hF];generalize r.getLastD x=z at uF;by_cases hp:0<z
 ·simp[zGK,ki,hck,hne,A5,hlt,uF,hw,hp]
 have hlen:((r.length:Int)+1)=((x::r).length:Nat):=by simp
 by_cases hb:(x::r).any (zLD c)=true
 ·rw[hb]at hcf;simp only[yw]at hb;simp[zGK,ki,hck,hne,A5,hlt,uF,hw,hp,hcf,hb]
 ·have hb:(x::r).any (zLD c)=false:=by simpa using hb
  have hr:∀y∈(x::r),-1000<=y/\y<=1000:=by
   intro y hy;have h1:=yn.1 hb y hy;obtain⟨q1,q2,q3,q4,q5,q6,q7,q8,q9,q10⟩:=hc;simp[zLD]at h1;omega
  obtain⟨h1,h2⟩:=zw9 hc (x::r) hl hr (x::r) 0 x (hr x (jr ..)) rfl (jx _);rw[hb]at hcf;cases hs:zIY c x (x::r)with
  |false =>
   obtain⟨E',h1⟩:=h1 hs;simp[zKk,ki,zKp]at h1;simp[zGK,ki,hck,hne,A5,hlt,uF,hw,hp,hcf,hb,hs,h1]
   |true =>
   have h2:=h2 hs;simp[zKk,ki,zKp]at h2;simp[zGK,ki,hck,hne,A5,hlt,uF,hw,hp,hcf,hb,hs,h2]
 end Go.TrRun.Pl
namespace Go.TrRun.Pl
open Go Go.Eng Go.PlanLaw
@[simp] theorem z4(k:Nat)(c:Car)(s:Drv)(A B:Option Blk):(A::B::kq k c s)[2]?=some (some (dB c s.last s.v (zI0 k s.l) (3*s.l.length))):=rfl
theorem zOl(x n:Int)(hn:0<n):(if x.tmod n<0 then x.tmod n+n else x.tmod n)=x % n:=by
 have h1:=qO x (by omega:n≠0);have h2:=qt x hn;have h3:=Int.tmod_eq_emod (a:=x) (b:=n);split at h3
 ·rw[h3];split<;>omega
 ·have e:(n.natAbs:Int)=n:=by omega
  rw[e]at h3;rw[h3];split<;>omega
theorem zD0(x n:Int)(hn:0<n)(hn':n<=1000000000000):R L Cs zEd [W x,W n] []=some (.w (W (x % n)),[]):=by
 have h0:=zOl x n hn;have h1:=qO x (by omega:n≠0);have h2:=qt x hn;have h3:=Int.tmod_lt_of_pos x hn;have h4:=Int.lt_tmod_of_pos x hn;have hne:n≠0:=by omega
 rw[zUa zEh rfl];by_cases h:x.tmod n<0
 ·rw[if_pos h]at h0;have hw:=ku (x % n);simp[zDP,hne,h,h0,hw]
 ·rw[if_neg h]at h0;simp[zDP,hne,h];exact h0
def Bg(l a b r:Int):Car:=⟨300+l % 4700,1+a % 30,50+b % 41,20+r % 101,0⟩
theorem Cf(l a b r:Int):(Bg l a b r).ok:=by
 simp only[Car.ok,Bg];omega
theorem R_made(l a b r:Int):R L Cs zLl [.a [I l,I a,I b,I r]] []=some (.w (.a (ki (Bg l a b r))),[]):=by
 have m1:=zD0 l 4700 (by omega) (by omega);have m2:=zD0 a 30 (by omega) (by omega);have m3:=zD0 b 41 (by omega) (by omega);have m4:=zD0 r 101 (by omega) (by omega);have w1:=ku (300+l % 4700);have w2:=ku (1+a % 30);have w3:=ku (50+b % 41);have w4:=ku (20+r % 101);rw[zUa zLo rfl];simp[zHT,m1,m2,m3,m4,w1,w2,w3,w4,ki,Bg]
theorem BQ:R L Cs zF9 [] []=some (.w (Bo true),[]):=zah.2 ⟨200,by kernel_rfl⟩
abbrev Pt(k:Nat):WV:=.c (.ptr k 0 0 0)
theorem zNR{c:Car}(q:List Int)(hq:q.length<=5)(A B:Blk)(up hold:Int):∀(r:List Int) (i:Nat) (s:Drv),q.drop i=r->i<=q.length->s.l.length<=i->0<=s.v/\s.v<=2000 ->
  Y L Cs zGt (some [29,28,6,5,12,4,27,13]) 3 [(29,.w (W i)),(28,.w (W q.length)),(6,.w (Pt 0)),(5,.w (W hold)),(12,.w (Pt 1)),(4,.w (W up)),(27,.w (.c (.jc (zu q)))),(13,.w (Pt 2))] (some A::some B::kq 2 c s) =
    some (.exit 0,[(30,.w (Bo false)),(29,.w (W q.length)),(28,.w (W q.length)),(6,.w (Pt 0)),(5,.w (W hold)),(12,.w (Pt 1)),(4,.w (W up)),(27,.w (.c (.jc (zu q)))),(13,.w (Pt 2))],some A::some B::kq 2 c (Drv.queue r s)):=by
 intro r;induction r with
 |nil =>
  intro i s hd hi hs hv;obtain rfl:=zUb hd hi;refine zhJ ?_ (by simp);simp[zGt,Drv.queue]
 |cons x r ih =>
  intro i s hd hi hs hv;obtain⟨hil,hx,hd'⟩:=zL hd;have yk:=ih (i+1) (s.ub x) hd' hil (by simp[Drv.ub];omega) (zG1 ..);have hw:=zB (i:=i) (by omega);have qx:=zMr c s x hv (by omega) [some A,some B];have hdr:=fun E=>zLr [some A,some B] c (s.ub x) 3 E (by simp)
  simp only[jg,jf,ji,jp,Nat.reduceAdd]at qx hdr;rw[Drv.queue,<-yk,zrL];simp[zGt,hil,hx,qx,hw,hdr,-zx,-km]
theorem zNQ{c:Car}(hc:c.ok)(B:Blk)(hold:Int)(n:Nat)(hn:n<=20)(n0:Nat)(hn0:3<=n0):∀(m i:Nat) (s:Drv),i+m=n->s.l.length<=5+i->0<=s.v/\s.v<=2000 ->
  Y L Cs zGs (some [40,39,12,5,13,6]) n0 [(40,.w (W i)),(39,.w (W n)),(12,.w (Pt 1)),(5,.w (W hold)),(13,.w (Pt 2)),(6,.w (Pt 0))] (some (zKk c)::some B::kq 2 c s) =
    some (.exit 2,[(41,.w (Bo false)),(40,.w (W n)),(39,.w (W n)),(12,.w (Pt 1)),(5,.w (W hold)),(13,.w (Pt 2)),(6,.w (Pt 0))],some (zKk c)::some B::kq 2 c (Drv.qj c c.kP m s)):=by
 intro m;induction m with
 |zero =>
  intro i s hi hs hv;obtain rfl:i=n:=by omega
  refine zhJ ?_ (by simp);simp[zGs,Drv.qj]
 |succ m ih =>
  intro i s hi hs hv;have hil:(i:Int)<n:=by omega
  have yk:=ih (i+1) (s.ub (zFX c s.last c.kP)) (by omega) (by simp[Drv.ub];omega) (zG1 ..);have hw:=zB (i:=i) (by omega);have AZ:=zL7 hc s c.kP [some (zKk c),some B];have qx:=zMr c s (zFX c s.last c.kP) hv (by omega) [some (zKk c),some B];have hdr:=fun E=>zLr [some (zKk c),some B] c (s.ub (zFX c s.last c.kP)) n0 E hn0
  simp only[jg,jf,ji,jp,Nat.reduceAdd]at qx AZ hdr;simp only[zKk,ki]at qx AZ hdr yk ⊢;rw[Drv.qj,<-yk,zrL];simp[zGs,hil,qx,AZ,hw,hdr,-zx,-km]
theorem zNP{c:Car}(hc:c.ok)(A B:Blk)(n:Nat)(hn:n<=20)(n0:Nat)(hn0:3<=n0):∀(m i:Nat) (s:Drv),i+m=n->s.l.length<=25+i->0<=s.v/\s.v<=2000 ->
  Y L Cs zGr (some [52,51,12,13]) n0 [(52,.w (W i)),(51,.w (W n)),(12,.w (Pt 1)),(13,.w (Pt 2))] (some A::some B::kq 2 c s) =
    some (.exit 4,[(53,.w (Bo false)),(52,.w (W n)),(51,.w (W n)),(12,.w (Pt 1)),(13,.w (Pt 2))],some A::some B::kq 2 c (Drv.qj c 0 m s)):=by
 intro m;induction m with
 |zero =>
  intro i s hi hs hv;obtain rfl:i=n:=by omega
  refine zhJ ?_ (by simp);simp[zGr,Drv.qj]
 |succ m ih =>
  intro i s hi hs hv;have hil:(i:Int)<n:=by omega
  have yk:=ih (i+1) (s.ub (zFX c s.last 0)) (by omega) (by simp[Drv.ub];omega) (zG1 ..);have hw:=zB (i:=i) (by omega);have AZ:=zL7 hc s 0 [some A,some B];have qx:=zMr c s (zFX c s.last 0) hv (by omega) [some A,some B];have hdr:=fun E=>zLr [some A,some B] c (s.ub (zFX c s.last 0)) n0 E hn0
  simp only[jg,jf,ji,jp,Nat.reduceAdd]at qx AZ hdr;rw[Drv.qj,<-yk,zrL];simp[zGr,hil,qx,AZ,hw,hdr,-zx,-km]
theorem zOn(k:Nat)(c:Car)(s:Drv)(h:s.l≠[]):kq k c s=[some (dB c s.last s.v (sl (k+1) 1 (zu s.l)) (3*s.l.length)),some (own 1 (zu s.l))]:=by
 obtain⟨last,v,l⟩:=s;cases l with
 |nil=>exact absurd rfl h
 |cons x l=>rfl
theorem zOI{c:Car}(hc:c.ok)(q:List Int)(hq:q.length<=5)(last v up hold:Int):R L Cs zMD [.a (ki c),.c (.jc (zu q)),W last,W v,W up,W hold] [] =
  some (.w (.a [.jc (zu (zJ2 c q last (max 0 (min v 2000)) (max 0 (min up 20)).toNat (max 0 (min hold 20)).toNat))]),[]):=by
 have hu:((max 0 (min up 20)).toNat:Int)=max 0 (min up 20):=by omega
 have hh:((max 0 (min hold 20)).toNat:Int)=max 0 (min hold 20):=by omega
 have hun:(max 0 (min up 20)).toNat<=20:=by omega
 have hhn:(max 0 (min hold 20)).toNat<=20:=by omega
 generalize (max 0 (min up 20)).toNat=nu at *;generalize (max 0 (min hold 20)).toNat=nh at *;have hv:0<=max 0 (min v 2000)/\max 0 (min v 2000)<=2000:=by omega
 generalize hv':max 0 (min v 2000)=v' at *;have l1:=zNR (c:=c) q hq (zKk c) { box:=true,esz:=1,rows:=[[.je]],gen:=0,fz:=false,ver:=0 } up hold q 0 ⟨last,v',[]⟩ rfl (jx _) (by simp) hv;have n1:(Drv.queue q ⟨last,v',[]⟩).l.length=q.length:=by rw[Drv.yX];simp
 have vv:∀(q:List Int) (s:Drv),0<=s.v/\s.v<=2000->0<=(Drv.queue q s).v/\(Drv.queue q s).v<=2000:=by
  intro q;induction q with
  |nil=>intro s h;exact h
  |cons x q ih=>intro s h;exact ih _ (zG1 ..)
 have vr:∀(n:Nat) (w:Int) (s:Drv),0<=s.v/\s.v<=2000->0<=(Drv.qj c w n s).v/\(Drv.qj c w n s).v<=2000:=by
  intro n w;induction n with
  |zero=>intro s h;exact h
  |succ n ih=>intro s h;exact ih _ (zG1 ..)
 have v1:=vv q ⟨last,v',[]⟩ hv;have l2:=zNQ hc { box:=true,esz:=1,rows:=[[.je]],gen:=0,fz:=false,ver:=0 } hold nu hun ((kq 2 c (Drv.queue q ⟨last,v',[]⟩)).length+1+1) (by simp[kq]) nu 0 (Drv.queue q ⟨last,v',[]⟩) (by omega) (by omega) v1;have n2:=Drv.vz (c:=c) (w:=c.kP) (n:=nu) (s:=Drv.queue q ⟨last,v',[]⟩);have v2:=vr nu c.kP _ v1;have hprof:zJ2 c q last v' nu nh=(Drv.qj c 0 nh (Drv.qj c c.kP nu (Drv.queue q ⟨last,v',[]⟩))).l++stops c (Drv.qj c 0 nh (Drv.qj c c.kP nu (Drv.queue q ⟨last,v',[]⟩))).last (Drv.qj c 0 nh (Drv.qj c c.kP nu (Drv.queue q ⟨last,v',[]⟩))).v:=by
  simp only[zJ2];rw[jM hq]
 generalize Drv.qj c c.kP nu (Drv.queue q ⟨last,v',[]⟩)=s2 at *;generalize Drv.queue q ⟨last,v',[]⟩=s1 at *;have l3:=zNP hc (zKk c) { box:=true,esz:=1,rows:=[[.je]],gen:=0,fz:=false,ver:=0 } nh hhn ((kq 2 c s2).length+1+1) (by simp[kq]) nh 0 s2 (by omega) (by omega) v2;have n3:=Drv.vz (c:=c) (w:=0) (n:=nh) (s:=s2);have v3:=vr nh 0 s2 v2;generalize Drv.qj c 0 nh s2=s3 at *;obtain⟨e1,e2,e3⟩:=zMs hc s3.last s3.v v3.1 v3.2;have hst:=zOD hc s3 e1 e2 (by omega) v3 [some (zKk c),some { box:=true,esz:=1,rows:=[[.je]],gen:=0,fz:=false,ver:=0 }];have hne:(Drv.run s3 (stops c s3.last s3.v)).l≠[]:=by
  intro h;have:=congrArg List.length h;simp[Drv.run]at this;rw[this.2]at e2;simp at e2
 have hl:(Drv.run s3 (stops c s3.last s3.v)).l=zJ2 c q last v' nu nh:=hprof.symm;rw[zOn _ c _ hne,hl]at hst;generalize zJ2 c q last v' nu nh=l at *;simp only[jg,jf,ji,jp,Nat.reduceAdd]at hst;have h0:kq 2 c ⟨last,v',[]⟩=[some { box:=true,esz:=8,rows:=[[I c.len,I c.kP,I c.kF,I c.u0,I c.Am,I last,I v',.je]],gen:=0,fz:=false,ver:=0 }]:=rfl;rw[h0]at l1;clear h0;simp only[zKk,ki,dB,jg,jf,sl,own,zfq]at l1 l2 l3 hst;have hmin:min (q.length:Int) 5=q.length:=by omega
 have u6:(zu q).all (fun r=>r.length==1)=true:=by simp[zu]
 simp only[hu,hh,jh]at l1 l2 l3;rw[zUa zMP rfl];simp[zGz,ki,hv',l1,l2,l3,hst,hmin,u6,znj,sliceB,zcy,zgN,zxn,-zx]
abbrev qA(ps:List (List Int)):List (List Cl):=ps.map fun p=>[.jc (zu p)]
def zM5:List Cl:=[I 6,I 4,I 6,I 0,I 3,I 4,I 3,I 0,I 1,I 4,I 1,I 0,I 0,I 4,I 0,I 0]
abbrev zME(c:Car)(ps:List (List Int)):Mem:=[some (zKk c),some { box:=false,esz:=1,rows:=[],gen:=0,fz:=false,ver:=0 },some { box:=true,esz:=16,rows:=[zM5],gen:=0,fz:=false,ver:=1 },some (own 1 (qA ps))]
abbrev zNE(q:List Int)(last v:Int)(i:Nat)(ps:List (List Int)):Env:=[(10,.w (.c (sl 3 1 (qA ps)))),(26,.w (W i)),(25,.w (.a zM5)),(4,.w (Pt 0)),(1,.w (.c (.jc (zu q)))),(2,.w (W last)),(3,.w (W v))]
theorem zOB{c:Car}(hc:c.ok)(q:List Int)(hq:q.length<=5)(last v up hold:Int)(ps:List (List Int))(hi:ps.length<8)(Ar:Eng.cut zM5 (ps.length*2) 2=some [I up,I hold]) :
  Y L Cs zH0 (some [10,26,25,4,1,2,3]) 4 (zNE q last v ps.length ps) (zME c ps) =
  Y L Cs zH0 (some [10,26,25,4,1,2,3]) 4 (zNE q last v (ps.length+1) (ps++[zJ2 c q last (max 0 (min v 2000)) (max 0 (min up 20)).toNat (max 0 (min hold 20)).toNat])) (zME c (ps++[zJ2 c q last (max 0 (min v 2000)) (max 0 (min up 20)).toNat (max 0 (min hold 20)).toNat])):=by
 have h2:=zOI hc q hq last v up hold;generalize zJ2 c q last (max 0 (min v 2000)) (max 0 (min up 20)).toNat (max 0 (min hold 20)).toNat=l at *;simp only[ki]at h2;have hw:=zB (i:=ps.length) (by omega);have hi':(ps.length:Int)<8:=by omega
 have hr:(ps.length+1)*24<=140737488355328:=by omega
 have htake:(ps.map fun p=>([.jc (zu p)]:List Cl)).take ps.length=ps.map fun p=>[.jc (zu p)]:=jM (by simp)
 have hbelow:zM5.all (Eng.below 4)=true:=by decide
 simp only[Eng.cut]at Ar
 conv=>lhs;rw[zrL]
 simp[zH0,hi',hw,h2,Ar,zNE,zME,qA,zKk,ki,hr,htake,hbelow]
def qL(c:Car)(q:List Int)(last v:Int):List (List Int):=[zJ2 c q last v 6 4,zJ2 c q last v 6 0,zJ2 c q last v 3 4,zJ2 c q last v 3 0,zJ2 c q last v 1 4,zJ2 c q last v 1 0,zJ2 c q last v 0 4,zJ2 c q last v 0 0]
theorem zOC{c:Car}(hc:c.ok)(q:List Int)(hq:q.length<=5)(last v:Int):∃E',Y L Cs zH0 (some [10,26,25,4,1,2,3]) 4 (zNE q last v 0 []) (zME c [])=some (.exit 0,E',zME c (qL c q last (max 0 (min v 2000))))/\E'.get 10=some (.w (.c (sl 3 1 (qA (qL c q last (max 0 (min v 2000))))))):=by
 have s:=fun up hold ps hi Ar=>zOB hc q hq last v up hold ps hi Ar
 have s0:=s 6 4 [] (by simp) rfl;simp only[jp]at s0;rw[s0];simp only[jf,jz];rw[show(max 0 (min (6:Int) 20)).toNat=6 from rfl,show(max 0 (min (4:Int) 20)).toNat=4 from rfl];have s1:=s 6 0 [zJ2 c q last (max 0 (min v 2000)) 6 4] (by simp) rfl;simp only[ji,jp,jz]at s1;rw[s1];simp only[jg,jf,Nat.reduceAdd];rw[show(max 0 (min (6:Int) 20)).toNat=6 from rfl,show(max 0 (min (0:Int) 20)).toNat=0 from rfl];have s2:=s 3 4 [zJ2 c q last (max 0 (min v 2000)) 6 4,zJ2 c q last (max 0 (min v 2000)) 6 0] (by simp) rfl;simp only[ji,jp,Nat.reduceAdd]at s2;rw[s2];simp only[jg,jf,Nat.reduceAdd];rw[show(max 0 (min (3:Int) 20)).toNat=3 from rfl,show(max 0 (min (4:Int) 20)).toNat=4 from rfl];have s3:=s 3 0 [zJ2 c q last (max 0 (min v 2000)) 6 4,zJ2 c q last (max 0 (min v 2000)) 6 0,zJ2 c q last (max 0 (min v 2000)) 3 4] (by simp) rfl;simp only[ji,jp,Nat.reduceAdd]at s3;rw[s3];simp only[jg,jf,Nat.reduceAdd];rw[show(max 0 (min (3:Int) 20)).toNat=3 from rfl,show(max 0 (min (0:Int) 20)).toNat=0 from rfl];have s4:=s 1 4 [zJ2 c q last (max 0 (min v 2000)) 6 4,zJ2 c q last (max 0 (min v 2000)) 6 0,zJ2 c q last (max 0 (min v 2000)) 3 4,zJ2 c q last (max 0 (min v 2000)) 3 0] (by simp) rfl;simp only[ji,jp,Nat.reduceAdd]at s4;rw[s4];simp only[jg,jf,Nat.reduceAdd];rw[show(max 0 (min (1:Int) 20)).toNat=1 from rfl,show(max 0 (min (4:Int) 20)).toNat=4 from rfl];have s5:=s 1 0 [zJ2 c q last (max 0 (min v 2000)) 6 4,zJ2 c q last (max 0 (min v 2000)) 6 0,zJ2 c q last (max 0 (min v 2000)) 3 4,zJ2 c q last (max 0 (min v 2000)) 3 0,zJ2 c q last (max 0 (min v 2000)) 1 4] (by simp) rfl;simp only[ji,jp,Nat.reduceAdd]at s5;rw[s5];simp only[jg,jf,Nat.reduceAdd];rw[show(max 0 (min (1:Int) 20)).toNat=1 from rfl,show(max 0 (min (0:Int) 20)).toNat=0 from rfl];have s6:=s 0 4 [zJ2 c q last (max 0 (min v 2000)) 6 4,zJ2 c q last (max 0 (min v 2000)) 6 0,zJ2 c q last (max 0 (min v 2000)) 3 4,zJ2 c q last (max 0 (min v 2000)) 3 0,zJ2 c q last (max 0 (min v 2000)) 1 4,zJ2 c q last (max 0 (min v 2000)) 1 0] (by simp) rfl;simp only[ji,jp,Nat.reduceAdd]at s6;rw[s6];simp only[jg,jf,Nat.reduceAdd];rw[show(max 0 (min (0:Int) 20)).toNat=0 from rfl,show(max 0 (min (4:Int) 20)).toNat=4 from rfl];have s7:=s 0 0 [zJ2 c q last (max 0 (min v 2000)) 6 4,zJ2 c q last (max 0 (min v 2000)) 6 0,zJ2 c q last (max 0 (min v 2000)) 3 4,zJ2 c q last (max 0 (min v 2000)) 3 0,zJ2 c q last (max 0 (min v 2000)) 1 4,zJ2 c q last (max 0 (min v 2000)) 1 0,zJ2 c q last (max 0 (min v 2000)) 0 4] (by simp) rfl;simp only[ji,jp,Nat.reduceAdd]at s7;rw[s7];simp only[jg,jf,Nat.reduceAdd];rw[show(max 0 (min (0:Int) 20)).toNat=0 from rfl];refine⟨_,zhJ (r:=(.exit 0,[(27,.w (Bo false)),(10,.w (.c (sl 3 1 (qA (qL c q last (max 0 (min v 2000))))))),(26,.w (W 8)),(25,.w (.a zM5)),(4,.w (Pt 0)),(1,.w (.c (.jc (zu q)))),(2,.w (W last)),(3,.w (W v))],zME c (qL c q last (max 0 (min v 2000))))) ?_ (by simp),rfl⟩;simp[zH0,qL]
theorem An{c:Car}(hc:c.ok)(q:List Int)(hq:q.length<=5)(last v:Int):R L Cs zL0 [.a (ki c),.c (.jc (zu q)),W last,W v] [] =
  some (.w (.c (.jc (qA (qL c q last (max 0 (min v 2000)))))),[]):=by
 have h1:=zGS hc;obtain⟨E',hE,hg⟩:=zOC hc q hq last v;have hlen:(qL c q last (max 0 (min v 2000))).length=8:=rfl;generalize qL c q last (max 0 (min v 2000))=ps at *;simp only[ki,zNE,zME,zKk,zM5,sl,own,yG,jp,jh,qm,hlen]at h1 hE hg;have htk:List.take 8 (qA ps)=qA ps:=jM (by simp[qA,hlen]);rw[zUa zL4 rfl];simp[zIl,ki,h1,hE,hg,hlen,htk,zX,zg]
def BF(c:Car):Int:=if c.ok then 0 else 2
theorem yS(c:Car):R L Cs zGe [.a (ki c)] []=some (.w (W (BF c)),[]):=by
 by_cases h:c.ok
 ·rw[BF,if_pos h];exact zGS h
 rw[BF,if_neg h,zUa zGf rfl];have e:¬(((decide (300<=c.len)&&decide (c.len<=20000))=true)/\((decide (1<=c.kP)&&decide (c.kP<=30))=true)/\((decide (20<=c.kF)&&decide (c.kF<=90))=true)/\((decide (5<=c.u0)&&decide (c.u0<=120))=true)/\((decide (0<=c.Am)&&decide (c.Am<=5))=true)):=by
  intro e;simp only[jm,decide_eq_true_eq]at e;exact h (by simp only[Car.ok];omega)
 have w1:=zF6 c.len 300 20000;have w2:=zF6 c.kP 1 30;have w3:=zF6 c.kF 20 90;have w4:=zF6 c.u0 5 120;have w5:=zF6 c.Am 0 5;generalize (decide (300<=c.len)&&decide (c.len<=20000))=b1 at *;generalize (decide (1<=c.kP)&&decide (c.kP<=30))=b2 at *;generalize (decide (20<=c.kF)&&decide (c.kF<=90))=b3 at *;generalize (decide (5<=c.u0)&&decide (c.u0<=120))=b4 at *;generalize (decide (0<=c.Am)&&decide (c.Am<=5))=b5 at *;cases b1 with
 |false=>simp[zFN,ki,w1]
 |true=>cases b2 with
  |false=>simp[zFN,ki,w1,w2]
  |true=>cases b3 with
   |false=>simp[zFN,ki,w1,w2,w3]
   |true=>cases b4 with
    |false=>simp[zFN,ki,w1,w2,w3,w4]
    |true=>cases b5 with
     |false=>simp[zFN,ki,w1,w2,w3,w4,w5]
     |true=>simp at e
theorem Ax(c:Car)(l:List Int)(hl:l.length<=1000):R L Cs zLZ [.a (ki c),.a [.jc (zu l)]] []=some (.w (W (qX c l)),[]):=by
 by_cases h:c.ok
 ·exact zPK h l hl
 have h1:=yS c;rw[BF,if_neg h]at h1;simp only[ki]at h1;rw[qX,if_pos h,zUa zL3 rfl];simp[zGK,ki,h1]
end Go.TrRun.Pl
namespace Go.TrRun
open Go Go.Eng
abbrev zK8:=Go.PlanLaw.Car
def zKW(m:zD)(r:List Int)(c:zK8)(k:zci):Bool:=decide (zdA m r=0)&&decide (zaK m (r.headD 0)=1)&&decide (Pl.BF c=0)&&decide (zdf m k=0)
theorem zPi{m:zD}{zs:List Zon}{ss:List Sgn}(hF:zKj m zs ss)(r:List Int)(hl:r.length<=1000)(c:zK8)(k:zci)(hk:k.jW.length<=100000000000) :
  R L Cs zNB [.a (zf m),.c (.jc (zu r)),.a (Pl.ki c),.a (zG k)] []=some (.w (Bo (zKW m r c k)),[]):=by
 have h:=hF.full.uL;have h1:=zQC h hF.fit.1;have h2:=zos m h.small h.chk r hl;have h3:=Pl.yS c;have h4:=zuu h k hk;unfold zKW;by_cases hr:zdA m r=0
 ·obtain⟨hon,hne,hl8⟩:=zg1 h hr;obtain⟨x0,r',rfl⟩:∃x r',r=x::r':=by cases r with|nil=>exact absurd rfl hne|cons x r'=>exact⟨x,r',rfl⟩
  have hx0:=hon x0 (jr ..);obtain⟨n,rfl⟩:=jv hx0.1;have hn:n<m.jb.length:=by omega
  have hni:(n:Int)<m.jb.length:=by omega
  have ek:zaK m n=m.jb[n].kind:=by simp[zaK,hn]
  have e0:((n:Int)::r').headD 0=n:=rfl;rw[hr]at h2;rw[e0,ek];generalize hcv:Pl.BF c=cv at *;generalize hkv:zdf m k=kv at *;have w1:IntKind.i64.wrap 1=1:=rfl;have w0:IntKind.i64.wrap 0=0:=rfl;simp only[zf,zG,Pl.ki,zaP]at h1 h2 h3 h4;rw[zUa zMf rfl];rw[show decide (zdA m ((n:Int)::r')=0)=true from by simp[hr],ul];by_cases c1:m.jb[n].kind=1
  ·have b1:(m.jb[n].kind==1)=true:=by simp[c1]
   by_cases c2:cv=0
   ·have b2:(cv==0)=true:=by simp[c2]
    by_cases c3:kv=0
    ·have b3:(kv==0)=true:=by simp[c3]
     simp (maxSteps:=1000000) [zIW,zf,zG,Pl.ki,zo,h1,h2,h3,h4,hn,hni,c1,b1,c2,b2,c3,b3,zg,zH]
    ·have b3:(kv==0)=false:=by simp[c3]
     simp (maxSteps:=1000000) [zIW,zf,zG,Pl.ki,zo,h1,h2,h3,h4,hn,hni,c1,b1,c2,b2,c3,b3,zg,zH]
   ·have b2:(cv==0)=false:=by simp[c2]
    simp (maxSteps:=1000000) [zIW,zf,zG,Pl.ki,zo,h1,h2,h3,h4,hn,hni,c1,b1,c2,b2,zg,zH]
  ·have b1:(m.jb[n].kind==1)=false:=by simp[c1]
   simp (maxSteps:=1000000) [zIW,zf,zG,Pl.ki,zo,h1,h2,h3,h4,hn,hni,c1,b1,zg,zH]
 ·have hb:(zdA m r==0)=false:=by simp[hr]
  simp only[zf]at h1 h2;rw[zUa zMf rfl];generalize zdA m r=rv at *;simp[zIW,zf,zG,Pl.ki,h1,h2,hr,hb,zg,zH]
def zPn(zs:List Zon)(p:Pss):Prop:=(0<=p.kN/\p.kN<zs.length)/\0<=p.part/\p.part<(zMh zs p.kN).length
theorem zOf(st:Int)(z:Nat)(x:Int):∀(l:List Prt) (k:Nat) (p:Pss),p∈zLB st z x k l->p.kN=z/\(k:Int)<=p.part/\p.part<k+l.length
 |[],k,p,h=>by cases h
 |q::l,k,p,h=>by
  have ih:=zOf st z x l (k+1) p;unfold zLB at h;split at h
  ·rcases jB.1 h with rfl|h'
   ·simp only[ji];exact⟨trivial,by omega,by omega⟩
   ·have:=ih h';simp only[ji];omega
  ·have:=ih h;simp only[ji];omega
theorem zOe(st x:Int)(zs:List Zon):∀(l:List Zon) (z:Nat) (p:Pss),zs.drop z=l->p∈zLA st x z l->zPn zs p
 |[],z,p,_,h=>by cases h
 |q::l,z,p,hd,h=>by
  obtain⟨hz,hq,hd'⟩:=zL hd;unfold zLA at h;rcases jG.1 h with h'|h'
  ·have:=zOf st z x q.parts 0 p h';have e:zMh zs p.kN=q.parts:=by rw[this.1];simp[zMh,hz,hq]
   exact⟨by omega,by omega,by rw[e];omega⟩
  ·exact zOe st x zs l (z+1) p hd' h'
theorem zNh(m:zD)(zs:List Zon):∀(r:List Int) (a:Int) (p:Pss),p∈zKh m zs a r->zPn zs p
 |[],a,p,h=>by cases h
 |x::r,a,p,h=>by
  unfold zKh at h;rcases jG.1 h with h'|h'
  ·exact zOe a x zs zs 0 p rfl h'
  ·exact zNh m zs r _ p h'
def zLV(z:Int):List Pss->Pss×Pss×Bool->Pss×Pss×Bool
 |[],v=>v
 |p::t,v=>zLV z t (if p.kN=z then(if v.2.2 then v.1 else p,p,true) else v)
def zNx(ps:List Pss)(z:Int):Pss×Pss×Bool:=zLV z ps (zKw,zKw,false)
theorem zPq(z:Int):∀(t:List Pss) (v:Vis) (w:Pss×Pss×Bool),(∀p∈t,0<=p.part)->v.kN=z->(w.2.2=true->0<=v.entry/\v.entry=w.1.part)->(w.2.2=false->v.entry=-1)->v.first=w.1->v.last=w.2.1 ->
  (t.foldl (zJ5 z) v).kN=z/\((zLV z t w).2.2=true->0<=(t.foldl (zJ5 z) v).entry/\(t.foldl (zJ5 z) v).entry=(zLV z t w).1.part)/\((zLV z t w).2.2=false->(t.foldl (zJ5 z) v).entry=-1)/\(t.foldl (zJ5 z) v).first=(zLV z t w).1/\(t.foldl (zJ5 z) v).last=(zLV z t w).2.1:=by
 intro t;induction t with
 |nil=>intro v w _ h1 h2 h3 h4 h5;exact⟨h1,h2,h3,h4,h5⟩
 |cons p t ih =>
  intro v w hp h1 h2 h3 h4 h5;rw[jP];unfold zLV;have hp0:=hp p (jr ..);have hpt:∀q∈t,0<=q.part:=fun q hq=>hp q (jt _ hq)
  by_cases c:p.kN=z
  ·rw[if_pos c];cases hw:w.2.2 with
   |true =>
    obtain⟨g1,g2⟩:=h2 hw;have e:zJ5 z v p=⟨v.kN,v.entry,v.first,p⟩:=by simp only[zJ5,c,if_true,show ¬v.entry<0 by omega,if_false]
    rw[e];exact ih _ _ hpt h1 (fun _=>⟨g1,g2⟩) (fun q=>by cases q) h4 rfl
   |false =>
    have g:=h3 hw;have e:zJ5 z v p=⟨v.kN,p.part,p,p⟩:=by simp only[zJ5,c,if_true,show v.entry<0 by omega]
    rw[e];exact ih _ _ hpt h1 (fun _=>⟨hp0,rfl⟩) (fun q=>by cases q) rfl rfl
  ·rw[if_neg c];have e:zJ5 z v p=v:=by simp only[zJ5,c,if_false]
   rw[e];exact ih v w hpt h1 h2 h3 h4 h5
theorem zOR(ps:List Pss)(hp:∀p∈ps,0<=p.part)(z:Int):(zKn ps z).kN=z/\((zNx ps z).2.2=true->0<=(zKn ps z).entry/\(zKn ps z).entry=(zNx ps z).1.part)/\((zNx ps z).2.2=false->(zKn ps z).entry=-1)/\(zKn ps z).first=(zNx ps z).1/\(zKn ps z).last=(zNx ps z).2.1 :=
 zPq z ps ⟨z,-1,zKw,zKw⟩ (zKw,zKw,false) hp rfl (fun q=>by cases q) (fun _=>rfl) rfl rfl
theorem zPt(z:Int):∀(t:List Pss) (w:Pss×Pss×Bool),(zLV z t w).2.2=true->w.2.2=false->∃p∈t,p.kN=z/\(zLV z t w).1=p:=by
 have uR:∀(t:List Pss) (w:Pss×Pss×Bool),w.2.2=true->(zLV z t w).1=w.1:=by
  intro t;induction t with
  |nil=>intro w _;rfl
  |cons p t ih =>
   intro w hw;unfold zLV;by_cases c:p.kN=z
   ·rw[if_pos c,ih _ rfl,hw];rfl
   ·rw[if_neg c,ih _ hw]
 intro t;induction t with
 |nil=>intro w h1 h2;rw[show zLV z [] w=w from rfl,h2]at h1;cases h1
 |cons p t ih =>
  intro w h1 h2;unfold zLV at h1 ⊢;by_cases c:p.kN=z
  ·rw[if_pos c];refine⟨p,jr ..,c,?_⟩;rw[uR _ _ rfl,h2];rfl
  ·rw[if_neg c]at h1 ⊢;obtain⟨q,h3,h4⟩:=ih w h1 h2;exact⟨q,jt _ h3,h4⟩
theorem zNn(ps:List Pss):∀(n z:Nat) (v:Vis),v∈zKE ps z n<->∃y:Nat,z<=y/\y<z+n/\0<=(zKn ps y).entry/\v=zKn ps y
 |0,z,v=>by simp[zKE];intro y h1 h2;omega
 |n+1,z,v=>by
  have ih:=zNn ps n (z+1) v;unfold zKE;by_cases c:0<=(zKn ps z).entry
  ·rw[if_pos c,jB,ih];constructor
   ·rintro(rfl |⟨y,h1,h2,h3,h4⟩)
    ·exact⟨z,jl _,by omega,c,rfl⟩
    ·exact⟨y,by omega,by omega,h3,h4⟩
   ·rintro⟨y,h1,h2,h3,h4⟩;by_cases e:y=z
    ·subst e;exact .inl h4
    ·exact .inr ⟨y,by omega,by omega,h3,h4⟩
  ·rw[if_neg c,ih];constructor
   ·rintro⟨y,h1,h2,h3,h4⟩;exact⟨y,by omega,by omega,h3,h4⟩
   ·rintro⟨y,h1,h2,h3,h4⟩;by_cases e:y=z
    ·subst e;exact absurd h3 c
    ·exact⟨y,by omega,by omega,h3,h4⟩
theorem zNo(ps:List Pss):∀(n z:Nat),(zKE ps z n).length<=n
 |0,z=>by simp[zKE]
 |n+1,z=>by
  have:=zNo ps n (z+1);unfold zKE;split<;>simp<;>omega
theorem zPr{m:zD}{zs:List Zon}{ss:List Sgn}(hF:zKj m zs ss)(r:List Int):∀v∈zKE (zKh m zs 0 r) 0 zs.length,zKN zs v:=by
 intro v hv;obtain⟨y,_,h2,h3,rfl⟩:=(zNn _ _ _ _).1 hv;have hp:∀p∈zKh m zs 0 r,0<=p.part:=fun p hp=>(zNh m zs r 0 p hp).2.1
 obtain⟨k1,k2,k3,k4,k5⟩:=zOR (zKh m zs 0 r) hp y;have hb:(zNx (zKh m zs 0 r) y).2.2=true:=by
  cases hq:(zNx (zKh m zs 0 r) y).2.2 with
  |true=>rfl
  |false=>have:=k3 hq;omega
 obtain⟨p,hpm,hpz,hpe⟩:=zPt y _ _ hb rfl;have hok:=zNh m zs r 0 p hpm;have he:=(k2 hb).2;rw[show(zNx (zKh m zs 0 r) y).1=p from hpe]at he;have hyl:y<zs.length:=by omega
 refine⟨by rw[k1];omega,?_,?_⟩
 ·rw[k1];have:=hF.full.zd.pfew zs[y] (jk hyl);simpa [zMh,hyl]using this
 ·rw[k1,he];have:=hok.2;rw[hpz]at this;exact this
abbrev pvV(m:zD)(zs:List Zon)(r:List Int):List Vis:=zKE (zKh m zs 0 r) 0 zs.length
def zNw(m:zD)(zs:List Zon)(ss:List Sgn)(r:List Int)(len:Int)(k:zci)(jN:List Int)(signals:Bool):Bool×Int×Int :=
 zKX (zLH len (pvV m zs r) jN (zKr m zs ss r len (zKh m zs 0 r) (pvV m zs r) signals jN 0 k)) (fbF m r jN k.tick k.ego)
theorem zL8{m:zD}{zs:List Zon}{ss:List Sgn}(hF:zKj m zs ss){r:List Int}(hr:zdA m r=0)(len:Int)(hlen:0<=len/\len<=20000)(signals:Bool)(jN:List Int)(hin:∀a∈jN,zk0 a)(hal:jN.length<=500)(u:Nat)(k:zci)(WAS NW:List Cl)(SW:Cl)(hk:KJ m k)(ht:0<=k.tick/\k.tick<=1099511627776)(hW:zMo WAS)(hSW:zKq NW SW)(hne0:jN≠[]) :
  ∃u' Br NW' SW',zMo Br/\zKq NW' SW'/\u'≠u/\R L Cs zKv [J0,.a (zG k),.a [.jc (zu jN)],Bo signals] (zJ3 m r len (zKh m zs 0 r) (pvV m zs r) u WAS NW SW) =
   some (.w (.a (zJ4 (zNw m zs ss r len k jN signals))),zJ3 m r len (zKh m zs 0 r) (pvV m zs r) u' Br NW' SW'):=by
 have hvo:=zPr hF r;have hvl:(pvV m zs r).length<=zs.length:=zNo (zKh m zs 0 r) zs.length 0;have htwo:=hF.two;have hp:=hF.few r hr;obtain⟨qq,hq0⟩:∃qq,qq=0/\pvV m zs r=[]\/qq=1/\pvV m zs r≠[]:=by
  by_cases h0:pvV m zs r=[]
  ·exact⟨0,.inl ⟨rfl,h0⟩⟩
  ·exact⟨1,.inr ⟨rfl,h0⟩⟩
 obtain⟨u',W',N',S',a,b,hu,h⟩:=zVQ hF hr len hlen (zKh m zs 0 r) (by omega) (pvV m zs r) qq hq0 (by omega) hvo signals jN hin hal u k WAS NW SW hk ht hW hSW hne0;refine⟨u',W',N',S',a,b,hu,?_⟩;simp only[zJ3,zVW hq0];exact h
def zOk(m:zD)(zs:List Zon)(ss:List Sgn)(r:List Int)(c:zK8)(k:zci)(jN:List Int)(signals:Bool):Bool×Int×Int :=
 if zKW m r c k=true/\Go.PlanLaw.qX c jN=0 then zNw m zs ss r c.len k jN signals else(false,0,1)
theorem zVR{c:zK8}{l:List Int}(h:Go.PlanLaw.qX c l=0):c.ok/\l≠[]/\l.length<=200:=by
 unfold Go.PlanLaw.qX at h;split at h
 ·cases h
 ·rename_i h1;split at h
  ·cases h
  ·rename_i h2;split at h
   ·cases h
   ·rename_i h3;exact⟨Classical.not_not.1 h1,fun e=>h2 (by rw[e];rfl),by omega⟩
theorem zNz{m:zD}{r:List Int}{c:zK8}{k:zci}(h:zKW m r c k=true):zdA m r=0/\zaK m (r.headD 0)=1/\c.ok/\zdf m k=0:=by
 unfold zKW at h;simp only[jm,decide_eq_true_eq]at h;refine⟨h.1.1.1,h.1.1.2,?_,h.2⟩;have:=h.1.2;unfold Pl.BF at this;split at this
 ·assumption
 ·cases this
theorem zOJ{m:zD}{zs:List Zon}{ss:List Sgn}(hF:zKj m zs ss)(r:List Int)(hl:r.length<=1000)(c:zK8)(k:zci)(hk:k.jW.length<=100000000000)(jN:List Int)(hin:∀a∈jN,zk0 a)(hal:jN.length<=1000)(signals:Bool) :
  R L Cs zMY [.a (zf m),.c (.jc (zu r)),.a (Pl.ki c),.a (zG k),.a [.jc (zu jN)],Bo signals] []=some (.w (.a (zJ4 (zOk m zs ss r c k jN signals))),[]):=by
 have h1:=zPi hF r hl c k hk;have h2:=Pl.Ax c jN hal;unfold zOk;simp only[zf,zG,Pl.ki]at h1 h2;by_cases d1:zKW m r c k=true
 ·rw[d1]at h1;by_cases d2:Go.PlanLaw.qX c jN=0
  ·rw[if_pos ⟨d1,d2⟩];rw[d2]at h2;obtain⟨hr,_,hc,hck⟩:=zNz d1;obtain⟨_,hne,hal2⟩:=zVR d2;have hke:=zte hck;have hc1:=hc.1;have hc2:=hc.2.1;have hkj:=zPP hF.full.uL hck;obtain⟨u,h3⟩:=zMM hF hr c.len;obtain⟨u',W',N',S',oW,oS,hu,h4⟩:=zL8 hF hr c.len (by omega) signals jN hin (by omega) u k zox zox .je hkj (by omega) (.inl rfl) (.inl ⟨rfl,rfl⟩) hne;generalize zNw m zs ss r c.len k jN signals=y at *;simp only[pvV]at h4;generalize zKE (zKh m zs 0 r) 0 zs.length=vs at *;generalize zKh m zs 0 r=ps at *;rw[zUa zLb rfl];by_cases h0:vs=[]
   ·simp only[zJ3,if_pos h0]at h3 h4;rcases oW with rfl |⟨kw,rfl⟩<;>rcases oS with⟨rfl,rfl⟩ |⟨k0,x,rfl,rfl⟩<;>simp only[zf,zG,jC,zh,zi,zox,zJ4,zJY,jg,jf]at h3 h4<;>simp (maxSteps:=1000000) [zIR,zf,zG,Pl.ki,jC,zh,zi,zox,zJ4,zJY,h1,h2,h3,h4,hu,zg,zH,own]
   ·simp only[zJ3,if_neg h0]at h3 h4;rcases oW with rfl |⟨kw,rfl⟩<;>rcases oS with⟨rfl,rfl⟩ |⟨k0,x,rfl,rfl⟩<;>simp only[zf,zG,jC,zh,zi,zox,zJ4,zJY,own,zJZ,jg,jf]at h3 h4<;>simp (maxSteps:=1000000) [zIR,zf,zG,Pl.ki,jC,zh,zi,zox,zJ4,zJY,h1,h2,h3,h4,hu,zg,zH,own]
  ·rw[if_neg (fun q=>d2 q.2)];have hb:(Go.PlanLaw.qX c jN !=0)=true:=by simp[d2]
   rw[zUa zLb rfl];generalize Go.PlanLaw.qX c jN=e at *;simp[zIR,zf,zG,Pl.ki,zJ4,zJY,h1,h2,d2,hb,zg,zH]
 ·have hb:zKW m r c k=false:=by simpa using d1
  rw[if_neg (fun q=>d1 q.1)];rw[hb]at h1;rw[zUa zLb rfl];simp[zIR,zf,zG,Pl.ki,zJ4,zJY,h1,zg,zH]
open Go Go.Eng Go.PlanLaw
theorem zLx{c:zK8}{w:Int}:∀{n:Nat} {s:Drv},0<=s.v/\s.v<=2000->0<=(Drv.qj c w n s).v/\(Drv.qj c w n s).v<=2000
 |0,s,h=>h
 |n+1,s,h=>zLx (n:=n) (zG1 s.v _)
theorem zMg:∀{q:List Int} {s:Drv},0<=s.v/\s.v<=2000->0<=(Drv.queue q s).v/\(Drv.queue q s).v<=2000
 |[],s,h=>h
 |x::q,s,h=>zMg (q:=q) (zG1 s.v _)
theorem zOt{c:zK8}(hc:c.ok)(q:List Int)(last v:Int)(up hold:Nat)(hv:0<=v/\v<=2000):(zJ2 c q last v up hold).length<=115+up+hold:=by
 unfold zJ2;have h1:=zMg (q:=q.take 5) (s:=Drv.mk last v []) hv;have h2:=zLx (c:=c) (w:=c.kP) (n:=up) h1;have h3:=zLx (c:=c) (w:=0) (n:=hold) h2;have hl1:(Drv.queue (q.take 5) (Drv.mk last v [])).l.length=(q.take 5).length:=by rw[Drv.yX];simp
 have hl2:=Drv.vz (c:=c) (w:=c.kP) (n:=up) (s:=Drv.queue (q.take 5) (Drv.mk last v []));have hl3:=Drv.vz (c:=c) (w:=0) (n:=hold) (s:=Drv.qj c c.kP up (Drv.queue (q.take 5) (Drv.mk last v [])));generalize Drv.qj c 0 hold (Drv.qj c c.kP up (Drv.queue (q.take 5) (Drv.mk last v [])))=s at *;have h4:=(zMs hc s.last s.v h3.1 h3.2).2.2;have h5:(q.take 5).length<=5:=by simp;omega
 simp only[js];omega
theorem zNC{c:zK8}{l:List Int}(h:qX c l=0):(∀a∈l,zk0 a)/\l.length<=200/\l≠[]:=by
 obtain⟨hc,hne,hl⟩:=zVR h;refine⟨?_,hl,hne⟩;unfold qX at h;rw[if_neg (by simp[hc]),if_neg (by simpa using hne),if_neg (by omega)]at h;split at h
 ·cases h
 split at h
 ·cases h
 rename_i hb;have hb:l.any (zLD c)=false:=by simpa using hb
 intro a ha;have h1:=yn.1 hb a ha;obtain⟨q1,q2,q3,q4,q5,q6,q7,q8,q9,q10⟩:=hc;simp[zLD]at h1;constructor<;>omega
theorem zNa{c:zK8}(hc:c.ok)(q:List Int)(last v:Int)(hv:0<=v/\v<=2000):∀p∈Pl.qL c q last v,p.length<=200:=by
 intro p hp;have h:=fun up hold=>zOt hc q last v up hold hv
 simp only[Pl.qL,jB,kZ,or_false]at hp;rcases hp with rfl|rfl|rfl|rfl|rfl|rfl|rfl|rfl
 ·have:=h 6 4;omega
 ·have:=h 6 0;omega
 ·have:=h 3 4;omega
 ·have:=h 3 0;omega
 ·have:=h 1 4;omega
 ·have:=h 1 0;omega
 ·have:=h 0 4;omega
 ·have:=h 0 0;omega
def zK5(kD:Int)(ok:List Int->Bool):List (List Int)->Nat->Int×Int
 |[],i=>(-1,i)
 |p::t,i=>if kD<=i then(-1,i) else if ok p=true then(i,(i+1:Nat)) else zK5 kD ok t (i+1)
def okC(m:zD)(zs:List Zon)(ss:List Sgn)(r:List Int)(c:zK8)(k:zci)(signals able:Bool)(p:List Int):Bool:=able&&decide (qX c p=0)&&(zNw m zs ss r c.len k p signals).1
abbrev zLh(m:zD)(c:zK8)(k:zci):Mem:=[bx 5 (zf m),bx 5 (Pl.ki c),bx 6 (zG k),bx 1 [.je]]
abbrev seE(J:WV)(l:List (List Int))(kD:Int)(signals able:Bool)(i:Nat):Env:=[(51,.w (W i)),(50,.w (W l.length)),(49,.w (.c (.jc (Pl.qA l)))),(6,.w (W kD)),(7,.w (Bo signals)),(11,.w (Pt 2)),(23,.w J),(10,.w (Pt 1)),(22,.w (Bo able)),(21,.w (W (-1))),(19,.w (.c (.jc (Pl.qA l)))),(20,.w (W i)),(16,.w (Pt 3))]
def SeX(E:Env)(T:Mem)(l:List (List Int))(x:Int×Int):Prop:=(T=[]\/∃p,T=[bxv 1 1 [.jc (zu p)]])/\E.get 21=some (.w (W x.1))/\E.get 20=some (.w (W x.2))/\E.get 19=some (.w (.c (.jc (Pl.qA l))))/\E.get 16=some (.w (Pt 3))
theorem zOp(m:zD)(zs:List Zon)(ss:List Sgn)(r:List Int)(c:zK8)(k:zci)(signals:Bool)(kD:Int)(l:List (List Int))(hll:l.length<=100):∀(t:List (List Int)) (i:Nat),l.drop i=t->i<=l.length ->
  ∃E T,SeX E T l (zK5 kD (okC m zs ss r c k signals false) t i)/\Y L Cs zIx (some [51,50,49,6,7,11,23,10,22,21,19,20,16]) 4 (seE (.c .qd) l kD signals false i) (zLh m c k)=some (.exit 0,E,zLh m c k++T):=by
 intro t;induction t with
 |nil =>
  intro i hd hi;obtain rfl:=zUb hd hi;refine⟨(52,.w (Bo false))::seE (.c .qd) l kD signals false l.length,[],⟨.inl rfl,rfl,rfl,rfl,rfl⟩,?_⟩;rw[zj zIx.eq_1];simp
 |cons p t ih =>
  intro i hd hi;obtain⟨hil,hx,hd'⟩:=zL hd;have hw:=zB (i:=i) (by omega);unfold zK5;by_cases c1:kD<=(i:Int)
  ·rw[if_pos c1];refine⟨[(58,.w (Bo true)),(24,.w (W i)),(51,.w (W i)),(50,.w (W l.length)),(49,.w (.c (.jc (Pl.qA l)))),(6,.w (W kD)),(7,.w (Bo signals)),(11,.w (Pt 2)),(23,.w (.c .qd)),(10,.w (Pt 1)),(22,.w (Bo false)),(25,.w (Pt 4)),(21,.w (W (-1))),(19,.w (.c (.jc (Pl.qA l)))),(20,.w (W i)),(16,.w (Pt 3))],[bxv 1 1 [.jc (zu p)]],⟨.inr ⟨p,rfl⟩,rfl,rfl,rfl,rfl⟩,?_⟩;rw[zj zIx.eq_1];simp (maxSteps:=1000000) [seE,zLh,jC,zox,zh,zi,zf,zG,own,zJY,zJ4,Pl.ki,Pl.qA,hil,hx,hw,c1,zg,zH]
  ·rw[if_neg c1,if_neg (by simp[okC])];obtain⟨E,T,h1,h2⟩:=ih (i+1) hd' hil;refine⟨E,T,h1,?_⟩;rw[<-h2,zj zIx.eq_1];clear h2 ih;simp (maxSteps:=1000000) [seE,zLh,jC,zox,zh,zi,zf,zG,own,zJY,zJ4,Pl.ki,Pl.qA,hil,hx,hw,c1,zg,zH]
abbrev zNM(m:zD)(r:List Int)(len:Int)(ps:List Pss)(vs:List Vis)(u:Nat)(was NW:List Cl)(SW:Cl):Mem:=[bxv u 26 (jC m r len ps (.slice 5 vs.length 10 0 vs.length none) was NW SW),some (Go.Eng.own 10 (zKt vs))]
abbrev zNL(m:zD)(r:List Int)(len:Int)(ps:List Pss)(vs:List Vis)(u:Nat)(was NW:List Cl)(SW:Cl):Mem:=[bxv u 26 (jC m r len ps .je was NW SW)]
abbrev zV0(qq:Nat)(m:zD)(r:List Int)(len:Int)(ps:List Pss)(vs:List Vis)(u:Nat)(was NW:List Cl)(SW:Cl):Mem:=if qq=0 then zNL m r len ps vs u was NW SW else zNM m r len ps vs u was NW SW
theorem zV1{m:zD}{zs:List Zon}{ss:List Sgn}(hF:zKj m zs ss){r:List Int}(hr:zdA m r=0)(c:zK8)(hc:c.ok)(k:zci)(hk:KJ m k)(ht:0<=k.tick/\k.tick<=1099511627776)(signals:Bool)(kD:Int)(vs:List Vis)(hvs:vs=pvV m zs r)(qq:Nat)(hq0:qq=0/\vs=[]\/qq=1/\vs≠[])(l:List (List Int))(hll:l.length<=100)(hl:∀p∈l,p.length<=1000):∀(t:List (List Int)) (i u:Nat) (WAS NW:List Cl) (SW:Cl),zMo WAS->zKq NW SW->l.drop i=t->i<=l.length ->
  ∃E T u' Br NW' SW',zMo Br/\zKq NW' SW'/\SeX E T l (zK5 kD (okC m zs ss r c k signals true) t i)/\Y L Cs zIx (some [51,50,49,6,7,11,23,10,22,21,19,20,16]) (qq+5) (seE (.c (.ptr 4 0 0 0)) l kD signals true i) (zLh m c k++zV0 qq m r c.len (zKh m zs 0 r) vs u WAS NW SW)=some (.exit 0,E,zLh m c k++zV0 qq m r c.len (zKh m zs 0 r) vs u' Br NW' SW'++T):=by
 intro t;induction t with
 |nil =>
  intro i u WAS NW SW oW oS hd hi;obtain rfl:=zUb hd hi;refine⟨(52,.w (Bo false))::seE (.c (.ptr 4 0 0 0)) l kD signals true l.length,[],u,WAS,NW,SW,oW,oS,⟨.inl rfl,rfl,rfl,rfl,rfl⟩,?_⟩;rw[zj zIx.eq_1];simp
 |cons p t ih =>
  intro i u WAS NW SW oW oS hd hi;obtain⟨hil,hx,hd'⟩:=zL hd;have hpl:p∈l:=by rw[<-hx];exact jk hil
  have hw:=zB (i:=i) (by omega);have hC:=Pl.Ax c p (hl p hpl);have hcl:0<=c.len/\c.len<=20000:=by have:=hc.1;have:=hc.2.1;omega
  simp only[Pl.ki]at hC;unfold zK5;by_cases c1:kD<=(i:Int)
  ·rw[if_pos c1];clear ih;refine⟨[(58,.w (Bo true)),(24,.w (W i)),(51,.w (W i)),(50,.w (W l.length)),(49,.w (.c (.jc (Pl.qA l)))),(6,.w (W kD)),(7,.w (Bo signals)),(11,.w (Pt 2)),(23,.w (.c (.ptr 4 0 0 0))),(10,.w (Pt 1)),(22,.w (Bo true)),(25,.w (Pt (qq+5))),(21,.w (W (-1))),(19,.w (.c (.jc (Pl.qA l)))),(20,.w (W i)),(16,.w (Pt 3))],[bxv 1 1 [.jc (zu p)]],u,WAS,NW,SW,oW,oS,⟨.inr ⟨p,rfl⟩,rfl,rfl,rfl,rfl⟩,?_⟩;rw[zj zIx.eq_1];rcases hq0 with⟨rfl,-⟩ |⟨rfl,-⟩<;>rcases oW with rfl |⟨kw,rfl⟩<;>rcases oS with⟨rfl,rfl⟩ |⟨k0,x,rfl,rfl⟩<;>simp (maxSteps:=1000000) [seE,zLh,zV0,zNM,zNL,jC,zox,zh,zi,zf,zG,own,zJY,zJ4,Pl.ki,Pl.qA,hil,hx,hw,c1,zg,zH]
  ·rw[if_neg c1];by_cases c2:qX c p=0
   ·obtain⟨hin,hp2,hne⟩:=zNC c2;rw[c2]at hC;obtain⟨u',W',N',S',oW',oS',hu,h4⟩:=zL8 hF hr c.len hcl signals p hin (by omega) u k WAS NW SW hk ht oW oS hne;have hok:okC m zs ss r c k signals true p=(zNw m zs ss r c.len k p signals).1:=by simp[okC,c2]
    rw[hok];rw[<-hvs]at h4;generalize zNw m zs ss r c.len k p signals=y at *;obtain⟨y1,y2,y3⟩:=y;simp only[zJ3,zVW hq0]at h4;cases y1 with
    |true =>
     clear ih;rw[if_pos rfl];refine⟨[(21,.w (W i)),(19,.w (.c (.jc (Pl.qA l)))),(20,.w (W (i+1:Nat))),(16,.w (Pt 3))],[bxv 1 1 [.jc (zu p)]],u',W',N',S',oW',oS',⟨.inr ⟨p,rfl⟩,rfl,rfl,rfl,rfl⟩,?_⟩;rw[zj zIx.eq_1];rcases hq0 with⟨rfl,-⟩ |⟨rfl,-⟩<;>rcases oW with rfl |⟨kw,rfl⟩<;>rcases oS with⟨rfl,rfl⟩ |⟨k0,x,rfl,rfl⟩<;>rcases oW' with rfl |⟨kw',rfl⟩<;>rcases oS' with⟨rfl,rfl⟩ |⟨k0',x',rfl,rfl⟩<;>simp only[jH,↓reduceIte,jz,Nat.reduceAdd,jC,zox,zh,zi,zf,zG,own,zJY,zJ4,Pl.ki,Pl.qA,zJZ,jg,jf]at h4<;>simp (maxSteps:=1000000) [seE,zLh,zV0,zNM,zNL,jC,zox,zh,zi,zf,zG,own,zJY,zJ4,Pl.ki,Pl.qA,hil,hx,hw,c1,hC,h4,hu,zg,zH]
    |false =>
     rw[if_neg (by simp)];obtain⟨E,T,u2,W2,N2,S2,oW2,oS2,h1,h2⟩:=ih (i+1) u' W' N' S' oW' oS' hd' hil;refine⟨E,T,u2,W2,N2,S2,oW2,oS2,h1,?_⟩;rw[<-h2,zj zIx.eq_1];clear h1 h2 ih;rcases hq0 with⟨rfl,-⟩ |⟨rfl,-⟩<;>rcases oW with rfl |⟨kw,rfl⟩<;>rcases oS with⟨rfl,rfl⟩ |⟨k0,x,rfl,rfl⟩<;>rcases oW' with rfl |⟨kw',rfl⟩<;>rcases oS' with⟨rfl,rfl⟩ |⟨k0',x',rfl,rfl⟩<;>simp only[jH,↓reduceIte,jz,Nat.reduceAdd,jC,zox,zh,zi,zf,zG,own,zJY,zJ4,Pl.ki,Pl.qA,zJZ,jg,jf]at h4<;>simp (maxSteps:=1000000) [seE,zLh,zV0,zNM,zNL,jC,zox,zh,zi,zf,zG,own,zJY,zJ4,Pl.ki,Pl.qA,hil,hx,hw,c1,hC,h4,hu,zg,zH]
   ·have hb:(qX c p==0)=false:=by simpa using c2
    have hok:okC m zs ss r c k signals true p=false:=by simp[okC,c2]
    rw[hok,if_neg (by simp)];obtain⟨E,T,u2,W2,N2,S2,oW2,oS2,h1,h2⟩:=ih (i+1) u WAS NW SW oW oS hd' hil;refine⟨E,T,u2,W2,N2,S2,oW2,oS2,h1,?_⟩;rw[<-h2,zj zIx.eq_1];clear h1 h2 ih;generalize qX c p=e at *;rcases hq0 with⟨rfl,-⟩ |⟨rfl,-⟩<;>rcases oW with rfl |⟨kw,rfl⟩<;>rcases oS with⟨rfl,rfl⟩ |⟨k0,x,rfl,rfl⟩<;>simp (maxSteps:=1000000) [seE,zLh,zV0,zNM,zNL,jC,zox,zh,zi,zf,zG,own,zJY,zJ4,Pl.ki,Pl.qA,hil,hx,hw,c1,hC,hb,zg,zH]
theorem zOd(kD:Int)(ok:List Int->Bool):∀(t:List (List Int)) (i:Nat),(zK5 kD ok t i).1=-1\/((i:Int)<=(zK5 kD ok t i).1/\(zK5 kD ok t i).1<i+t.length)
 |[],i=>.inl rfl
 |p::t,i=>by
  unfold zK5;split
  ·exact .inl rfl
  ·split
   ·refine .inr ⟨by simp,by simp;omega⟩
   ·rcases zOd kD ok t (i+1)with h|h
    ·exact .inl h
    ·refine .inr ⟨by omega,by simp only[ji];omega⟩
abbrev zLj(c:zK8)(q:List Int)(last:Int)(k:zci):List (List Int):=Pl.qL c q last (max 0 (min k.ego.vhi 2000))
def zMT(l:List (List Int))(f:Int):List Int:=if f<0 then [] else l.getD f.toNat []
def zOU(m:zD)(zs:List Zon)(ss:List Sgn)(r:List Int)(c:zK8)(k:zci)(q:List Int)(last kD:Int)(signals:Bool):Int×Int :=
 zK5 kD (okC m zs ss r c k signals (zKW m r c k)) (zLj c q last k) 0
theorem zPl{m:zD}{zs:List Zon}{ss:List Sgn}(hF:zKj m zs ss)(r:List Int)(hl:r.length<=1000)(c:zK8)(hc:c.ok)(k:zci)(hk:k.jW.length<=100000000000)(q:List Int)(hq:q.length<=5)(last kD:Int)(signals:Bool) :
  R L Cs zMZ [.a (zf m),.c (.jc (zu r)),.a (Pl.ki c),.a (zG k),.c (.jc (zu q)),W last,W kD,Bo signals] [] =
    some (.t [.a [.jc (zu (zMT (zLj c q last k) (zOU m zs ss r c k q last kD signals).1))],W (zOU m zs ss r c k q last kD signals).2,Bo (decide (0<=(zOU m zs ss r c k q last kD signals).1))],[]):=by
 have h1:=zPi hF r hl c k hk;have h2:=Pl.An hc q hq last k.ego.vhi;have hin:=zOd kD (okC m zs ss r c k signals (zKW m r c k)) (zLj c q last k) 0;have hlen:(zLj c q last k).length=8:=rfl;have Bl:((zLj c q last k).length:Int)=8:=rfl;have hpl:=zNa hc q last (max 0 (min k.ego.vhi 2000)) (by omega);unfold zOU;by_cases d1:zKW m r c k=true
 ·obtain⟨hr,_,_,hck⟩:=zNz d1;have hke:=zte hck;have hkj:=zPP hF.full.uL hck;obtain⟨u,h3⟩:=zMM hF hr c.len;rw[show zKE (zKh m zs 0 r) 0 zs.length=pvV m zs r from rfl]at h3;rw[d1]at h1 hin ⊢;obtain⟨qq,hq0⟩:∃qq,qq=0/\pvV m zs r=[]\/qq=1/\pvV m zs r≠[]:=by
   by_cases h0:pvV m zs r=[]
   ·exact⟨0,.inl ⟨rfl,h0⟩⟩
   ·exact⟨1,.inr ⟨rfl,h0⟩⟩
  obtain⟨E,T,u',W',N',S',oW,oS,⟨hT,g1,g2,g3,g4⟩,hL⟩:=zV1 hF hr c hc k hkj (by omega) signals kD (pvV m zs r) rfl qq hq0 (zLj c q last k) (by omega) (fun p hp=>by have:=hpl p hp;omega) (zLj c q last k) 0 u zox zox .je (.inl rfl) (.inl ⟨rfl,rfl⟩) rfl (jx _);simp only[zJ3,zVW hq0]at h3;simp only[zLj]at *;generalize pvV m zs r=vs at *;generalize zKh m zs 0 r=ps at *;generalize zK5 kD (okC m zs ss r c k signals true) (Pl.qL c q last (max 0 (min k.ego.vhi 2000))) 0=y at *;generalize Pl.qL c q last (max 0 (min k.ego.vhi 2000))=ws at *;obtain⟨f,n⟩:=y;simp only at g1 g2 g3 g4 hin ⊢;rcases hq0 with⟨rfl,-⟩ |⟨rfl,-⟩
  all_goals
   simp only[jH,↓reduceIte,jz,Nat.reduceAdd,zf,zG,Pl.ki,Pl.qA,jC,zox,zh,zi,own,zJZ,jg,jf,seE,zLh,zV0,zNM,zNL,Bl,jh]at h1 h2 h3 hL g3;rw[zUa zLc rfl];rcases hin with rfl |⟨i1,i2⟩
   ·rcases hT with rfl |⟨p,rfl⟩<;>simp (maxSteps:=1000000) [zIS,zMT,zf,zG,Pl.ki,h1,h2,h3,hL,g1,g2,g3,g4,hlen,zg,zH]
   ·obtain⟨j,rfl⟩:∃j:Nat,f=j:=⟨f.toNat,by omega⟩;have j1:¬(j:Int)<0:=by omega
    have j2:(0:Int)<=j:=by omega
    have j3:j<ws.length:=by omega
    have j4:j<8:=by omega
    have j5:(j:Int)<8:=by omega
    rcases hT with rfl |⟨p,rfl⟩<;>simp (maxSteps:=1000000) [zIS,zMT,zf,zG,Pl.ki,h1,h2,h3,hL,g1,g2,g3,g4,hlen,j1,j2,j3,j4,j5,zg,zH]
 ·have d1:zKW m r c k=false:=by simpa using d1
  rw[d1]at h1 hin ⊢;obtain⟨E,T,⟨hT,g1,g2,g3,g4⟩,hL⟩:=zOp m zs ss r c k signals kD (zLj c q last k) (by omega) (zLj c q last k) 0 rfl (jx _);simp only[zLj]at *;generalize zK5 kD (okC m zs ss r c k signals false) (Pl.qL c q last (max 0 (min k.ego.vhi 2000))) 0=y at *;generalize Pl.qL c q last (max 0 (min k.ego.vhi 2000))=ws at *;obtain⟨f,n⟩:=y;simp only at g1 g2 g3 g4 hin ⊢;simp only[zf,zG,Pl.ki,Pl.qA,jg,jf,seE,zLh,Bl,jh]at h1 h2 hL g3;rw[zUa zLc rfl];rcases hin with rfl |⟨i1,i2⟩
  ·rcases hT with rfl |⟨p,rfl⟩<;>simp (maxSteps:=1000000) [zIS,zMT,zf,zG,Pl.ki,h1,h2,hL,g1,g2,g3,g4,hlen,zg,zH]
  ·obtain⟨j,rfl⟩:∃j:Nat,f=j:=⟨f.toNat,by omega⟩;have j1:¬(j:Int)<0:=by omega
   have j2:(0:Int)<=j:=by omega
   have j3:j<ws.length:=by omega
   have j4:j<8:=by omega
   have j5:(j:Int)<8:=by omega
   rcases hT with rfl |⟨p,rfl⟩<;>simp (maxSteps:=1000000) [zIS,zMT,zf,zG,Pl.ki,h1,h2,hL,g1,g2,g3,g4,hlen,j1,j2,j3,j4,j5,zg,zH]
end Go.TrRun
namespace Go.TrRun.Pl
open Go Go.Eng Go.PlanLaw
def pre:List Int->List Int->Bool
 |[],_=>true
 |_,[]=>true
 |x::xs,y::ys=>x==y&&pre xs ys
theorem zOX:∀{a b:List Int},(pre a b&&decide (a.length=b.length))=decide (a=b)
 |[],[]=>by simp[pre]
 |[],y::b=>by simp[pre]
 |x::a,[]=>by simp[pre]
 |x::a,y::b=>by
  have h:=zOX (a:=a) (b:=b);by_cases hx:x=y
  ·subst hx;simpa [pre]using h
  ·simp[pre,hx]
theorem zNg(a b:List Int)(ha:a.length<=1000)(hb:b.length<=1000):∀(ra rb:List Int) (i:Nat),a.drop i=ra->b.drop i=rb->i<=a.length->i<=b.length ->
  (pre ra rb=true->∃k:Nat,Y L Cs zF4 (some [2,3,5]) 2 [(2,.w (Pt 0)),(3,.w (Pt 1)),(5,.w (W i))] [some (zKp a),some (zKp b)]=some (.exit 0,[(17,.w (Bo false)),(3,.w (Pt 1)),(2,.w (Pt 0)),(5,.w (W k))],[some (zKp a),some (zKp b)])) /\
  (pre ra rb=false->Y L Cs zF4 (some [2,3,5]) 2 [(2,.w (Pt 0)),(3,.w (Pt 1)),(5,.w (W i))] [some (zKp a),some (zKp b)]=some (.ret,[(4,.w (Bo false))],[some (zKp a),some (zKp b)])):=by
 intro ra;induction ra with
 |nil =>
  intro rb i hda hdb hia hib;obtain rfl:=zUb hda hia;refine⟨fun _=>⟨a.length,zhJ ?_ (by simp)⟩,fun h=>by simp[pre]at h⟩;simp[zF4,zKp]
 |cons x ra ih =>
  intro rb i hda hdb hia hib;obtain⟨hila,hxa,hda'⟩:=zL hda;cases rb with
  |nil =>
   obtain rfl:=zUb hdb hib;refine⟨fun _=>⟨b.length,zhJ ?_ (by simp)⟩,fun h=>by simp[pre]at h⟩;simp[zF4,zKp,hila]
  |cons y rb =>
   obtain⟨hilb,hxb,hdb'⟩:=zL hdb;have hw:=zB (i:=i) (by omega);by_cases hxy:x=y
   ·have hne:(x !=y)=false:=by simp[hxy]
    have vo:Y L Cs zF4 (some [2,3,5]) 2 [(2,.w (Pt 0)),(3,.w (Pt 1)),(5,.w (W i))] [some (zKp a),some (zKp b)]=Y L Cs zF4 (some [2,3,5]) 2 [(2,.w (Pt 0)),(3,.w (Pt 1)),(5,.w (W (i+1:Nat)))] [some (zKp a),some (zKp b)]:=by
     rw[zrL];simp[zF4,zKp,hila,hilb,hxa,hxb,hne,hw]
    rw[vo];have:=ih rb (i+1) hda' hdb' hila hilb;simpa [pre,hxy]using this
   ·have hne:(x !=y)=true:=by simp[hxy]
    refine⟨fun h=>by simp[pre,hxy]at h,fun _=>zhJ ?_ (by simp)⟩;simp[zF4,zKp,hila,hilb,hxa,hxb,hne]
theorem B9(a b:List Int)(ha:a.length<=1000)(hb:b.length<=1000):R L Cs zKD [.a [.jc (zu a)],.a [.jc (zu b)]] []=some (.w (Bo (decide (a=b))),[]):=by
 obtain⟨h1,h2⟩:=zNg a b ha hb a b 0 rfl rfl (jx _) (jx _);rw[<-zOX];rw[zUa zLn rfl];cases hp:pre a b with
 |true =>
  obtain⟨k,h1⟩:=h1 hp;simp[zKp]at h1;have hl:((a.length:Int)==(b.length:Int))=decide (a.length=b.length):=by
   by_cases h:a.length=b.length<;>simp[h];omega
  simp[zGh,h1,hl]
 |false =>
  have h2:=h2 hp;simp[zKp]at h2;simp[zGh,h2]
end Go.TrRun.Pl
namespace Go.TrRun
open Go Go.Eng Go.PlanLaw
theorem zN9(m:zD)(zs:List Zon)(ss:List Sgn)(r:List Int)(c:zK8)(k:zci)(p:List Int)(signals:Bool):(zOk m zs ss r c k p signals).1=okC m zs ss r c k signals (zKW m r c k) p:=by
 unfold zOk okC;by_cases h1:zKW m r c k=true
 ·by_cases h2:qX c p=0
  ·rw[if_pos ⟨h1,h2⟩];simp[h1,h2]
  ·rw[if_neg (fun q=>h2 q.2)];simp[h2]
 ·rw[if_neg (fun q=>h1 q.1)];simp[h1]
theorem zOc(kD:Int)(ok:List Int->Bool)(l:List (List Int)):∀(t:List (List Int)) (i:Nat),l.drop i=t->i<=l.length->(i:Int)<=kD->(∀j (h:j<l.length),j<i->ok l[j]=false) ->
  ((zK5 kD ok t i).1=-1/\(zK5 kD ok t i).2=min kD l.length/\∀j (h:j<l.length),(j:Int)<(zK5 kD ok t i).2->ok l[j]=false) \/
  (∃f:Nat,zK5 kD ok t i=((f:Int),((f+1:Nat):Int))/\(f:Int)<kD/\∃h:f<l.length,ok l[f]=true/\∀j (h:j<l.length),j<f->ok l[j]=false)
 |[],i,hd,hi,hb,hp=>by
  obtain rfl:=zUb hd hi;exact .inl ⟨rfl,by simp only[zK5];omega,fun j h hj=>hp j h h⟩
 |p::t,i,hd,hi,hb,hp=>by
  obtain⟨hil,hx,hd'⟩:=zL hd;unfold zK5;by_cases c1:kD<=(i:Int)
  ·rw[if_pos c1];exact .inl ⟨rfl,by simp only[];omega,fun j h hj=>hp j h (by simp only[]at hj;omega)⟩
  ·rw[if_neg c1];by_cases c2:ok p=true
   ·rw[if_pos c2];exact .inr ⟨i,rfl,by omega,hil,by rw[hx];exact c2,hp⟩
   ·rw[if_neg c2];refine zOc kD ok l t (i+1) hd' hil (by omega) fun j h hj=>?_
    by_cases e:j=i
    ·subst e;rw[hx];simpa using c2
    ·exact hp j h (by omega)
abbrev pfM(x0 x1 x2 x3 a0 a1 a2 a3:Int)(m:zD)(c:zK8)(k:zci)(p:List Int):Mem:=[bx 4 [I x0,I x1,I x2,I x3],bx 4 [I a0,I a1,I a2,I a3],bxv 1 5 (zf m),bxv 1 5 (Pl.ki c),bxv 1 6 (zG k),bxv 1 1 [.jc (zu p)]]
abbrev pfE(r:List Int)(ws:List (List Int))(signals is:Bool)(n j:Nat):Env:=[(19,.w (Pt 5)),(17,.w (.c (.jc (zu r)))),(22,.w (.c (.jc (Pl.qA ws)))),(6,.w (Bo signals)),(15,.w (Pt 2)),(16,.w (Pt 3)),(18,.w (Pt 4)),(21,.w (Bo is)),(20,.w (W n)),(23,.w (W j))]
theorem zPs{m:zD}{zs:List Zon}{ss:List Sgn}(hF:zKj m zs ss)(r:List Int)(hl:r.length<=1000)(c:zK8)(k:zci)(hk:k.jW.length<=100000000000)(ws:List (List Int))(hws:ws.length=8)(hin:∀p∈ws,(∀a∈p,zk0 a)/\p.length<=1000)(signals is:Bool)(n:Nat)(hn:n<=8)(hv:∀j (h:j<ws.length),j<n->(zOk m zs ss r c k ws[j] signals).1=(is&&decide ((j:Int)=(n:Int)-1)))(x0 x1 x2 x3 a0 a1 a2 a3:Int)(p:List Int):∀(f j:Nat),j+f=n ->
  Y L Cs zHm (some [19,17,22,6,15,16,18,21,20,23]) 6 (pfE r ws signals is n j) (pfM x0 x1 x2 x3 a0 a1 a2 a3 m c k p)=some (.exit 0,[(110,.w (Bo false)),(20,.w (W n)),(21,.w (Bo is)),(18,.w (Pt 4)),(16,.w (Pt 3)),(15,.w (Pt 2)),(6,.w (Bo signals)),(22,.w (.c (.jc (Pl.qA ws)))),(17,.w (.c (.jc (zu r)))),(19,.w (Pt 5)),(23,.w (W n))],pfM x0 x1 x2 x3 a0 a1 a2 a3 m c k p):=by
 intro f;induction f with
 |zero =>
  intro j hj;obtain rfl:j=n:=by omega
  rw[zj zHm.eq_1];simp
 |succ f ih =>
  intro j hj;have hw:=zB (i:=j) (by omega);have hjl:j<ws.length:=by omega
  have hjn:j<n:=by omega
  have hji:(j:Int)<n:=by omega
  have j8:j<8:=by omega
  have j8i:(j:Int)<8:=by omega
  have w1:=ku ((n:Int)-1);obtain⟨q1,q2⟩:=hin ws[j] (jk hjl);have hV:=zOJ hF r hl c k hk ws[j] q1 q2 signals;have hy:=hv j hjl hjn;rw[<-ih (j+1) (by omega)];clear ih hv hin q1 q2;generalize zOk m zs ss r c k ws[j] signals=y at *;obtain⟨y1,y2,y3⟩:=y;simp only[]at hy;subst hy;rw[zj zHm.eq_1];cases is with
  |false =>
   simp only[Bool.false_and,zf,zG,Pl.ki,zJ4,zJY]at hV;simp (maxSteps:=1000000) [pfE,pfM,Pl.qA,zf,zG,Pl.ki,hws,hw,hjl,hjn,hji,j8,j8i,w1,hV,zg,zH]
  |true =>
   by_cases e:(j:Int)=(n:Int)-1
   ·have e2:((j:Int)==(n:Int)-1)=true:=by simpa using e
    simp only[e,decide_true,ul,zf,zG,Pl.ki,zJ4,zJY]at hV;simp (maxSteps:=1000000) [pfE,pfM,Pl.qA,zf,zG,Pl.ki,hws,hw,hjl,hjn,hji,j8,j8i,w1,hV,e2,zg,zH]
   ·have e2:((j:Int)==(n:Int)-1)=false:=by simpa using e
    simp only[e,decide_false,ul,zf,zG,Pl.ki,zJ4,zJY]at hV;simp (maxSteps:=1000000) [pfE,pfM,Pl.qA,zf,zG,Pl.ki,hws,hw,hjl,hjn,hji,j8,j8i,w1,hV,e,e2,zg,zH]
theorem zPG{c:zK8}(hc:c.ok)(v:Int)(hv:0<=v/\v<=2000):∀p∈Pl.qL c [] 0 v,(∀a∈p,zk0 a)/\p.length<=1000:=by
 intro p hp;have hl:=zNa hc [] 0 v hv p hp;refine⟨?_,by omega⟩;have hcc:=hc;obtain⟨q1,q2,q3,q4,q5,q6,q7,q8,q9,q10⟩:=hcc;have h:∀(up hold:Nat),up<=20->hold<=20->∀a∈zJ2 c [] 0 v up hold,zk0 a:=fun up hold hu hh a ha=>by
  have:=zND (zOW hc (q:=[]) (last:=0) (v:=v) (up:=up) (hold:=hold) (by omega) trivial (by simp) hv hu hh).1 a ha;exact⟨by omega,by omega⟩
 simp only[Pl.qL,jB,kZ,or_false]at hp;rcases hp with rfl|rfl|rfl|rfl|rfl|rfl|rfl|rfl<;>exact h _ _ (by omega) (by omega)
theorem zNG{m:zD}{zs:List Zon}{ss:List Sgn}(hF:zKj m zs ss)(n rt x0 x1 x2 x3 a0 a1 a2 a3 b:Int)(l:List Bit)(c1:l.length<=6)(hl:∀x∈l,zk0 x.hold)(signals:Bool)(hM:R L Cs zY [W n] []=some (.w (.a (zf m)),[])) :
  R L Cs zHu [W n,W rt,.a [I x0,I x1,I x2,I x3],.c (.jc (zDS l)),.a [I a0,I a1,I a2,I a3],W b,Bo signals] []=some (.w (Bo true),[]):=by
 have hm:=hF.full.uL;have hp:=hF.pos;obtain⟨kk,hR⟩:=zES hm rt;have hrl:=zEm m kk;have hon:=zEy hm kk;generalize zDT m kk=r at *;have hK:=zFz hm hp r hrl l (by omega) hl a0 a1 (a2 % 270) a3;obtain⟨v1,v2,v3⟩:=zEM hm hp r hrl hon l a0 a1 (a2 % 270) a3;have hKl:(zD1 m r l a0 a1 (a2 % 270) a3).jW.length<=6:=by
  have:=zkq (l.map (zDN m));rw[qm]at this;simp only[zD1];omega
 have hmd:=zD0 a2 270 (by omega) (by omega);have hmb:=zEW b 10 (by omega) (by omega);have hbr:=zDJ b 10 (by omega);have hC:=Pl.R_made x0 x1 x2 x3;have hcok:=Pl.Cf x0 x1 x2 x3;generalize Pl.Bg x0 x1 x2 x3=c at *;generalize b % 10=bb at *;generalize a2 % 270=aa at *;generalize zD1 m r l a0 a1 aa a3=K0 at *;have hO:=zPg hm r (by omega) c.len K0 (by omega) (fun z hz=>zFo hm (zxJ hm v1 z hz));have hOl:=zO2 hm r c.len K0 (by omega);generalize zO3 m r c.len K0=K at *;have hS:=zPl hF r (by omega) c hcok K hOl [] (by simp) 0 bb signals;have hCd:=Pl.An hcok [] (by simp) 0 K.ego.vhi;have hci:=zPG hcok (max 0 (min K.ego.vhi 2000)) (by omega);have hlen:(Pl.qL c [] 0 (max 0 (min K.ego.vhi 2000))).length=8:=rfl;have Bl:((Pl.qL c [] 0 (max 0 (min K.ego.vhi 2000))).length:Int)=8:=rfl;have law:=zOc bb (okC m zs ss r c K signals (zKW m r c K)) (zLj c [] 0 K) (zLj c [] 0 K) 0 rfl (jx _) (by omega) (fun j _ hj=>absurd hj (Nat.not_lt_zero j));unfold zOU at hS;have loop:=fun(is:Bool) (i:Nat) (hi:i<=8) hv p=>zPs hF r (by omega) c K hOl (zLj c [] 0 K) hlen hci signals is i hi hv x0 x1 x2 x3 a0 a1 a2 a3 p i 0 (by omega)
 simp only[zLj]at *;have y7:∀p∈Pl.qL c [] 0 (max 0 (min K.ego.vhi 2000)),R L Cs zKD [.a [.jc (zu p)],.a [.jc (zu p)]] []=some (.w (Bo true),[]):=fun p hp=>by
  have:=Pl.B9 p p (hci p hp).2 (hci p hp).2;simpa using this
 have ha:=Pl.BQ;have d1:¬(6:Int)<l.length:=by omega
 have d1':¬6<l.length:=by omega
 generalize hy:zK5 bb (okC m zs ss r c K signals (zKW m r c K)) (Pl.qL c [] 0 (max 0 (min K.ego.vhi 2000))) 0=y at *;rcases law with⟨e1,e2,e3⟩ |⟨f,e1,e2,e3,e4,e5⟩
 ·obtain⟨y1,y2⟩:=y;simp only[]at e1 e2 e3;subst e1;rw[hlen]at e2;obtain⟨i,rfl⟩:∃i:Nat,y2=i:=⟨y2.toNat,by omega⟩;have hi:i<=8:=by omega
  have hL:=loop false i hi (fun j h hj=>by rw[zN9,e3 j h (by omega)];rfl) [];clear loop hci;generalize Pl.qL c [] 0 (max 0 (min K.ego.vhi 2000))=ws at *;have g1:¬(i:Int)<0:=by omega
  have g2:¬min bb 8<(i:Int):=by omega
  have g3:((i:Int) !=min bb 8)=false:=by rw[e2];simp
  simp only[zMT,zf,zG,Pl.ki,pfE,pfM,Pl.qA,Bl,zay,jh]at hM hC hR hK hO hS hCd hL;simp at hS;rw[zUa zKi rfl];simp (maxSteps:=1000000) [zHB,zf,zG,Pl.ki,hM,hC,hR,hK,hO,hS,hCd,hL,hmd,hmb,ha,hlen,d1,d1',g1,g2,g3,zg,zH]
 ·subst e1;have f8:f<8:=by rw[<-hlen];exact e3
  have hgf:(Pl.qL c [] 0 (max 0 (min K.ego.vhi 2000)))[f]?=some ((Pl.qL c [] 0 (max 0 (min K.ego.vhi 2000))).getD f []):=by
   rw[jo,jq e3];rfl
  have hL:=loop true (f+1) (by omega) (fun j h hj=>by
   rw[zN9];by_cases q:j=f
   ·subst q;rw[e4];simp
   ·rw[e5 j h (by omega)];have:¬((j:Int)=((f+1:Nat):Int)-1):=by omega
    rw[decide_eq_false this];rfl) ((Pl.qL c [] 0 (max 0 (min K.ego.vhi 2000))).getD f [])
  have hs:=y7 ((Pl.qL c [] 0 (max 0 (min K.ego.vhi 2000))).getD f []) (kg hgf);clear loop hci y7 e3 e4 e5;have g0:¬(f:Int)<0:=by omega
  have g1:¬((f+1:Nat):Int)<0:=by omega
  have g2:¬min bb 8<((f+1:Nat):Int):=by omega
  have g3:(((f+1:Nat):Int)==0)=false:=by simp;omega
  have g4:IntKind.i64.wrap (((f+1:Nat):Int)-1)=(f:Int):=by rw[zTd _ (by omega) (by omega)];omega
  have g6:(0:Int)<=f:=by omega
  have g7:(f:Int)<8:=by omega
  have hP:zMT (Pl.qL c [] 0 (max 0 (min K.ego.vhi 2000))) (f:Int)=(Pl.qL c [] 0 (max 0 (min K.ego.vhi 2000))).getD f []:=by rw[zMT,if_neg g0];rfl
  simp only[hP]at hS;generalize (Pl.qL c [] 0 (max 0 (min K.ego.vhi 2000))).getD f []=wf at *;generalize Pl.qL c [] 0 (max 0 (min K.ego.vhi 2000))=ws at *;simp only[zf,zG,Pl.ki,pfE,pfM,Pl.qA,Bl,zay,jh]at hM hC hR hK hO hS hCd hL;simp only[g6,decide_true]at hS;have hwf:∀h,ws[f]'h=wf:=fun h=>by rw[jq h]at hgf;exact yJ hgf
  generalize hn1:((f+1:Nat):Int)=n1 at *;rw[zUa zKi rfl];simp (maxSteps:=1000000) [zHB,zf,zG,Pl.ki,hM,hC,hR,hK,hO,hS,hCd,hL,hmd,hmb,ha,hs,hlen,d1,d1',g0,g1,g2,g3,g4,g6,g7,f8,hgf,hwf,zg,zH]
theorem zNH(n rt x0 x1 x2 x3 a0 a1 a2 a3 b:Int)(l:List Bit)(hl:∀x∈l,zk0 x.hold)(signals:Bool) :
  R L Cs zHu [W n,W rt,.a [I x0,I x1,I x2,I x3],.c (.jc (zDS l)),.a [I a0,I a1,I a2,I a3],W b,Bo signals] []=some (.w (Bo true),[]):=by
 obtain⟨m,zs,ss,hF,hM⟩:=zN6 n;have ha:=Pl.BQ;by_cases c1:(6:Int)<l.length
 ·have c1':6<l.length:=by omega
  rw[zUa zKi rfl];simp[zHB,c1,c1',ha]
 exact zNG hF n rt x0 x1 x2 x3 a0 a1 a2 a3 b l (by omega) hl signals hM
theorem zNN:∀xs,zot [zmN,zmN,.st [zmN,zmN,zmN,zmN],.slice zFC,.st [zmN,zmN,zmN,zmN],zmN,.bool] xs->∃M',R L Cs zHu xs []=some (.w (.c (.bool true)),M'):=by
 intro xs h;simp only[zot]at h;obtain⟨c1,_,rfl,h1,c2,_,rfl,h2,c3,_,rfl,h3,c4,_,rfl,h4,c5,_,rfl,h5,c6,_,rfl,h6,c7,_,rfl,h7,rfl⟩:=h;simp only[zfo,znD]at h1 h2 h3 h4 h5 h6 h7;obtain⟨n,rfl,_⟩:=h1;obtain⟨rt,rfl,_⟩:=h2;obtain⟨_,_,rfl,⟨x0,rfl,_⟩,_,_,rfl,⟨x1,rfl,_⟩,_,_,rfl,⟨x2,rfl,_⟩,_,_,rfl,⟨x3,rfl,_⟩,rfl⟩:=h3;obtain⟨rows,rfl,_,Ah⟩:=h4;obtain⟨l,rfl,hl⟩:=zE2 (rows:=rows) (fun r hr=>by simp only[zfo,znD];exact Ah r hr);obtain⟨_,_,rfl,⟨a0,rfl,_⟩,_,_,rfl,⟨a1,rfl,_⟩,_,_,rfl,⟨a2,rfl,_⟩,_,_,rfl,⟨a3,rfl,_⟩,rfl⟩:=h5;obtain⟨b,rfl,_⟩:=h6;obtain⟨s,rfl⟩:=h7;exact⟨[],zNH n rt x0 x1 x2 x3 a0 a1 a2 a3 b l hl s⟩
open Go Go.Eng
theorem zq2(a:Int):R L [] zlc [W a] []=some (.w (Bo false),[]):=by
 rw[zUa zle rfl];simp[zfU]
theorem zn3(a:Int):R L [] zi5 [W a] []=some (.w (Bo false),[]):=by
 rw[zUa zi9 rfl];simp[ze6]
theorem zuB(a b:Int):R L [] zi6 [W a,W b] []=some (.w (W (zgQ a b)),[]):=by
 have h1:=zq2 a;have h2:=zq2 b;rw[zUa zja rfl];unfold zgQ;by_cases h:a<b
 ·simp[zb3,h1,h2,h]
 ·by_cases h':b<a
  ·simp[zb3,h1,h2,h,h']
  ·simp[zb3,h1,h2,h,h']
theorem zmv(a b:Int):R L [] zhQ [W a,W b] []=some (.w (W (zgQ a b)),[]):=by
 have h1:=zn3 a;have h2:=zn3 b;rw[zUa zhS rfl];unfold zgQ;by_cases h:a<b
 ·simp[zbq,h1,h2,h]
 ·by_cases h':b<a
  ·simp[zbq,h1,h2,h,h']
  ·simp[zbq,h1,h2,h,h']
theorem zxz(b:Bool):R L [] zhB [Bo b] []=some (.w (W (if b then 1 else 0)),[]):=by
 rw[zUa zp4 rfl];cases b<;>simp[zhF]
def orI(a b c d:Int):Int:=if a=0 then(if b=0 then(if c=0 then d else c) else b) else a
abbrev orE(a b c d:Int)(i:Int):Env:=[(7,.w (W 4)),(6,.w (.c (.jc [[I a],[I b],[I c],[I d]]))),(3,.w (W 0)),(8,.w (W i))]
theorem or0(a b c d:Int):R L [] zob [.c (.jc [[I a],[I b],[I c],[I d]])] []=some (.w (W (orI a b c d)),[]):=by
 have w1:IntKind.i64.wrap 1=1:=rfl;have w2:IntKind.i64.wrap 2=2:=rfl;have w3:IntKind.i64.wrap 3=3:=rfl;have w4:IntKind.i64.wrap 4=4:=rfl;have h4:Y L [] zab (some [7,6,3,8]) 0 (orE a b c d 4) []=some (.exit 0,[(9,.w (Bo false)),(3,.w (W 0)),(6,.w (.c (.jc [[I a],[I b],[I c],[I d]]))),(7,.w (W 4)),(8,.w (W 4))],[]):=by
  rw[zj zab.eq_1];simp
 have h3:Y L [] zab (some [7,6,3,8]) 0 (orE a b c d 3) []=if d=0 then Y L [] zab (some [7,6,3,8]) 0 (orE a b c d 4) [] else some (.ret,[(2,.w (W d))],[]):=by
  rw[zj zab.eq_1];by_cases h:d=0
  ·simp[h,w4]
  ·have h':(d !=0)=true:=by simp[h]
   simp[h,h']
 have h2:Y L [] zab (some [7,6,3,8]) 0 (orE a b c d 2) []=if c=0 then Y L [] zab (some [7,6,3,8]) 0 (orE a b c d 3) [] else some (.ret,[(2,.w (W c))],[]):=by
  rw[zj zab.eq_1];by_cases h:c=0
  ·simp[h,w3]
  ·have h':(c !=0)=true:=by simp[h]
   simp[h,h']
 have h1:Y L [] zab (some [7,6,3,8]) 0 (orE a b c d 1) []=if b=0 then Y L [] zab (some [7,6,3,8]) 0 (orE a b c d 2) [] else some (.ret,[(2,.w (W b))],[]):=by
  rw[zj zab.eq_1];by_cases h:b=0
  ·simp[h,w2]
  ·have h':(b !=0)=true:=by simp[h]
   simp[h,h']
 have h0:Y L [] zab (some [7,6,3,8]) 0 (orE a b c d 0) []=if a=0 then Y L [] zab (some [7,6,3,8]) 0 (orE a b c d 1) [] else some (.ret,[(2,.w (W a))],[]):=by
  rw[zj zab.eq_1];by_cases h:a=0
  ·simp[h,w1]
  ·have h':(a !=0)=true:=by simp[h]
   simp[h,h']
 rw[h4]at h3;rw[h3]at h2;rw[h2]at h1;rw[h1]at h0;rw[zUa zow rfl];unfold orI;by_cases c1:a=0<;>by_cases c2:b=0<;>by_cases c3:c=0<;>by_cases c4:d=0<;>simp only[c1,c2,c3,c4,if_true,if_false]at h0 ⊢<;>simp[zfw,h0]
def zoG(b:Bool):Int:=if b then 1 else 0
def zu6(a b:Swp):Int:=orI (zgQ a.lane b.lane) (zgQ a.lo b.lo) (zgQ a.hi b.hi) (zoG a.cap-zoG b.cap)
theorem less0(a b:Swp):R L [] zar [.a (swC a),.a (swC b)] []=some (.w (W (zu6 a b)),[]):=by
 have h1:=zuB a.lane b.lane;have h2:=zmv a.lo b.lo;have h3:=zmv a.hi b.hi;have h4:R L [] zhB [Bo a.cap] []=some (.w (W (zoG a.cap)),[]):=zxz a.cap;have h5:R L [] zhB [Bo b.cap] []=some (.w (W (zoG b.cap)),[]):=zxz b.cap;have h6:=or0 (zgQ a.lane b.lane) (zgQ a.lo b.lo) (zgQ a.hi b.hi) (zoG a.cap-zoG b.cap);have w:IntKind.i64.wrap (zoG a.cap-zoG b.cap)=zoG a.cap-zoG b.cap:=by
  cases a.cap<;>cases b.cap<;>rfl
 unfold zu6;generalize zgQ a.lane b.lane=x1 at *;generalize zgQ a.lo b.lo=x2 at *;generalize zgQ a.hi b.hi=x3 at *;generalize zoG a.cap=o1 at *;generalize zoG b.cap=o2 at *;rw[zUa zsv rfl];simp[zjq,swC,h1,h2,h3,h4,h5,h6,w,zg,zX]
theorem zz5(a b:Swp):(zu6 a b<0)<->ltS a b=true:=by
 rw[zz2];unfold zu6 orI zgQ zoG;by_cases h1:a.lane<b.lane
 ·simp[h1]
 ·by_cases h2:b.lane<a.lane
  ·have:¬a.lane=b.lane:=by omega
   simp[h1,h2,this]
  ·have e1:a.lane=b.lane:=by omega
   by_cases h3:a.lo<b.lo
   ·simp[e1,h3]
   ·by_cases h4:b.lo<a.lo
    ·have:¬a.lo=b.lo:=by omega
     simp[e1,h3,h4,this]
    ·have e2:a.lo=b.lo:=by omega
     by_cases h5:a.hi<b.hi
     ·simp[e1,e2,h5]
     ·by_cases h6:b.hi<a.hi
      ·have:¬a.hi=b.hi:=by omega
       simp[e1,e2,h5,h6,this]
      ·have e3:a.hi=b.hi:=by omega
       cases a.cap<;>cases b.cap<;>simp[e1,e2,e3]
end Go.TrRun
namespace Go.Eng
open Go
theorem zsf [zb0]{P:Program}{cf:za4}(hcf:FnS P cf){f:FuncId}(hf:f<zb0.base){args:List WV}{vs:Array Value}{w:World}{σ:zP}{j:Inj}{M':Mem}{c:Int}(h:cf f args []=some (.w (.c (.int .i64 c)),M'))
  (hag:zM σ w) (hvs:zac σ j args vs.toList) (hm:MR (fun b=>w.heap.size<=b) σ j [] w) :
  Calls P f vs w fun e w'=>e=.returned (.int .i64 c)/\∃q os',w'=Go.Sort.grow (w.drewN q) os':=by
 obtain⟨_,_,_,_,hc⟩:=(hcf f args [] _ _ h (fun id hid=>by simp at hid)).1 hf;refine Calls.vV (hc (fun b=>w.heap.size<=b) σ j w vs (fun _ h=>h) hag hm hvs) ?_;rintro e w' ⟨v,σ',j',rfl,hr,_,_,hst⟩;have hr:VC σ' j' (.int .i64 c) v:=hr;cases hr;refine⟨rfl,w'.drawn-w.drawn,w'.heap.extract w.heap.size w'.heap.size,?_⟩;have h1:=hst.side.os;have h2:=hst.side.output;have h3:=hst.side.tape;have h4:=hst.side.drawn;have h5:=hst.frame;have h6:=hst.size;cases w' with |mk heap tape drawn os output =>
 simp only at h1 h2 h3 h4 h5 h6;subst h1;subst h2;subst h3;unfold Go.Sort.grow World.drewN;simp only[World.mk.injEq,and_true,true_and];refine⟨?_,by omega⟩;apply Array.ext_getElem?;intro i;by_cases hi:i<w.heap.size
 ·rw[ke hi];exact h5 i hi (by omega)
 ·rw[vX (by omega),k6];by_cases hi2:i<heap.size
  ·rw[if_pos (by omega)]
   congr 1;omega
  ·rw[if_neg (by omega)];exact kL (by omega)
end Go.Eng
namespace Go.TrRun
open Go Go.Eng
theorem zxp(σ:zP)(j:Inj)(x:List Int):WVR σ j (.a (swC (zik x))) (.agg (ziq 4 7 x).toArray):=by
 refine⟨_,rfl,?_⟩;have e:(ziq 4 7 x).toArray.toList=[.int .i64 (x.getD 0 0),.int .i64 (x.getD 1 0),.int .i64 (x.getD 2 0),.bool (x.getD 3 0 !=0)]:=rfl;rw[e];refine⟨rfl,fun n c v hc hv=>?_⟩
 match n with
 |0=>cases hc;cases hv;exact .int _ _ _
 |1=>cases hc;cases hv;exact .int _ _ _
 |2=>cases hc;cases hv;exact .int _ _ _
 |3=>cases hc;cases hv;exact .bool _ _
 |n+4=>cases hc
def zAw(x y:List Int):Int:=zu6 (zik x) (zik y)
theorem zBC:(fun x y=>decide (zAw x y<0))=ltZ 4 7:=by
 funext x y;have h:=zz5 (zik x) (zik y);have e:ltS (zik x) (zik y)=ltZ 4 7 x y:=by
  have k1:∀z:List Int,zji (zik z)=zsY 4 7 z:=fun z=>by
   simp[zji,zik,zsY,List.range,List.range.loop,zgk]
  simp only[ltS,ltZ,k1,if_true]
 rw[e]at h;unfold zAw;cases hz:ltZ 4 7 x y with
 |true=>exact decide_eq_true (h.2 hz)
 |false =>
  refine decide_eq_false fun h'=>?_
  rw[h.1 h']at hz;cases hz
theorem zwK{P:Program}(uC:P.follows .mixedOrders=true)(hL:(L.map fun p=>zcF P an true p.1)=L.map fun p=>some p.2)(hV:zql P L=true)(hf:zar<P.funcs.size)(x y:List Int)(W:World) :
  Calls P zar #[.agg (ziq 4 7 x).toArray,.agg (ziq 4 7 y).toArray] W fun e w'=>e=.returned (.int .i64 (zAw x y))/\∃q os',w'=Go.Sort.grow (W.drewN q) os':=by
 letI:=zww P fun f=>L.lookup f
 obtain⟨n,hn⟩:=zah.1 (less0 (zik x) (zik y));exact zsf (zsT uC hL hV (Cs:=[]) rfl (fun c hc=>by cases hc) n) (f:=zar) hf hn (zml (W:=W) fun g row hr=>by cases hr) (.cons (zxp _ _ x) (.cons (zxp _ _ y) .nil)) MR.nil
end Go.TrRun
