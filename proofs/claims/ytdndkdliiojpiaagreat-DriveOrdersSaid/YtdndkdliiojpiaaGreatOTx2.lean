/- This text proves what functions of this seat's program answer, run by the evaluator; no condition. -/
import Derived.Test.YtdndkdliiojpiaaGreatOTx1
set_option linter.defProp false
set_option maxHeartbeats 8000000
set_option linter.unusedVariables false
set_option linter.unusedSimpArgs false
set_option linter.unusedSectionVars false
set_option maxRecDepth 10000
namespace Go.TrRun
open Go Go.Eng
theorem zqX(m:zD)(r:List Int)(b:zk)(lo hi:Int)(cap:Bool)(n0:Nat)(M:Mem):Y L Cs zU (some [89,88,87,7,12,4,6,1,2,11,3]) n0 (lyE m r b lo hi cap (zS m b.lane).length) M=some (.exit 0,(90,.w (Bo false))::lyE m r b lo hi cap (zS m b.lane).length,M):=by
 simp[ZfM,zU.eq_1]
def zg3(m:zD)(r:List Int)(bar slo:Int)(b:zk)(lo hi:Int)(cap:Bool)(x:Int):List LB:=zbA m r bar (za6 b x) (lo-z8 m b.lane) (hi-z8 m b.lane) (zhq m r slo b.lane x cap)
def znZ(m:zD)(r:List Int)(bar slo:Int)(b:zk)(lo hi:Int)(cap:Bool)(x:Int):(zg3 m r bar slo b lo hi cap x).length<=1:=by
 grind [zg3,zbA]
def drop7(m:zD)(r:List Int)(b:zk)(lo hi:Int)(cap:Bool)(i:Nat)(len bar:Int)(e:Ego)(l:List LB)(v:Nat)(q:LB)(p y:zk)(w:Nat) :
  km 7 (lyE m r b lo hi cap i) [bx 16 (zm m r len bar e),zba v 6 l,zbt 2,bx 6 (ze b),bxv w 6 (ze p),zbT q,rwB l,bxv 3 6 (ze y)]=[bx 16 (zm m r len bar e),zba v 6 l,zbt 2,bx 6 (ze b),bxv w 6 (ze p),zbT q,rwB l]:=by
 simp[lyE,zm,zh,zi,ze,zr]
def drop5(m:zD)(r:List Int)(b:zk)(lo hi:Int)(cap:Bool)(i:Nat)(len bar:Int)(e:Ego)(v:Nat)(p y:zk)(w:Nat) :
  km 5 (lyE m r b lo hi cap i) [bx 16 (zm m r len bar e),bxv v 1 [.jc],zbt 2,bx 6 (ze b),bxv w 6 (ze p),bxv 3 6 (ze y)]=[bx 16 (zm m r len bar e),bxv v 1 [.jc],zbt 2,bx 6 (ze b),bxv w 6 (ze p)]:=by
 simp[lyE,zm,zh,zi,ze,zr]
def DF(m:zD)(r:List Int)(b:zk)(lo hi:Int)(cap:Bool)(i:Nat)(len bar:Int)(e:Ego)(l:List LB)(v:Nat)(p:zk)(w:Nat)(T:Mem) :
  km 5 (lyE m r b lo hi cap i) (bx 16 (zm m r len bar e)::zba v 6 l::zbt 2::bx 6 (ze b)::bxv w 6 (ze p)::T)=bx 16 (zm m r len bar e)::zba v 6 l::zbt 2::bx 6 (ze b)::bxv w 6 (ze p)::T:=by
 simp
def zqa{m:zD}(h:zcp m){a:Int}(i:Nat)(hi:i<(zS m a).length):0<=(zS m a)[i]/\(zS m a)[i]<m.jd.length:=by
 have hm:(zS m a)[i]∈zS m a:=jf hi;generalize (zS m a)[i]=x at hm ⊢;unfold zS at hm;cases hl:m.jd[a.toNat]? with
 |none=>grind
 |some l =>
  simp[hl]at hm;exact h.small.valid l (kF hl) x hm
def zyI{m:zD}{r:List Int}{bar:Int}(h:ziO m r bar)(hs:zmX m)(len:Int)(e:Ego)(b:zk)(hb:0<=b.lane/\b.lane<m.jd.length)(lo hi:Int)(hlo:-90000000<=lo/\lo<=90000000)(hhi:-90000000<=hi/\hi<=90000000)(cap:Bool)(p:zk)(w:Nat)(q:LB) :
  ∀(t:List Int) (i:Nat) (l:List LB) (v:Nat),(zS m b.lane).drop i=t->i<=(zS m b.lane).length->l.length+t.length<=100 ->
   ∃v',v<=v'/\Y L Cs zU (some [89,88,87,7,12,4,6,1,2,11,3]) 7 (lyE m r b lo hi cap i) [bx 16 (zm m r len bar e),zba v 6 l,zbt 2,bx 6 (ze b),bxv w 6 (ze p),zbT q,rwB l] =
    some (.exit 0,(90,.w (Bo false))::lyE m r b lo hi cap (zS m b.lane).length,[bx 16 (zm m r len bar e),zba v' 6 (l++t.flatMap (zg3 m r bar e.slo b lo hi cap)),zbt 2,bx 6 (ze b),bxv w 6 (ze p),zbT q,rwB (l++t.flatMap (zg3 m r bar e.slo b lo hi cap))]):=by
 intro t;induction t with
 |nil =>
  intro i l v hd hi1 hl;obtain rfl:=zUb hd hi1
  simp_all [jm,zqX]
 |cons x t ih =>
  intro i l v hd hi1 hl;obtain⟨hil,hx,hd'⟩:=zL hd;have hn2:=hs.nx b.lane;have hlen:=zcX h.qO hb;have hok:=zqa h.qO i hil;have hlf:=hs.leaf b.lane _ (jf hil);simp only[jl]at hl;obtain⟨v1,fp,hv1,hc⟩:=zu8 h len e (za6 b (zS m b.lane)[i]) hok hlf (lo-z8 m b.lane) (hi-z8 m b.lane) wA wA (zhq m r e.slo b.lane (zS m b.lane)[i] cap) l wA v (bx 6 (ze b)) [bxv w 6 (ze p),zbT q,rwB l,bxv 3 6 (ze (za6 b (zS m b.lane)[i]))] 2 wD wD;have e1:zbA m r bar (za6 b (zS m b.lane)[i]) (lo-z8 m b.lane) (hi-z8 m b.lane) (zhq m r e.slo b.lane (zS m b.lane)[i] cap)=zg3 m r bar e.slo b lo hi cap x:=by rw[<-hx];rfl
  have hst:=zqW h len e b hb lo hi wA wA cap 7 i hil wA (zba v 6 l) [bxv w 6 (ze p),zbT q,rwB l] _ fp hc;rw[hst,e1];have:=znZ m r bar e.slo b lo hi cap x;obtain⟨v2,hv2,hY⟩:=ih (i+1) (l++zg3 m r bar e.slo b lo hi cap x) v1 hd' wA (by simp;omega);refine⟨v2,wA,?_⟩;simp only[List.set,Nat.reduceAdd,drop7];rw[hY];simp
def zyG{m:zD}{r:List Int}{bar:Int}(h:ziO m r bar)(hs:zmX m)(len:Int)(e:Ego)(b:zk)(hb:0<=b.lane/\b.lane<m.jd.length)(lo hi:Int)(hlo:-90000000<=lo/\lo<=90000000)(hhi:-90000000<=hi/\hi<=90000000)(cap:Bool)(p:zk)(w:Nat)(y:zk) :
  ∀(t:List Int) (i:Nat) (l:List LB) (v:Nat) (S:Mem),(zS m b.lane).drop i=t->i<=(zS m b.lane).length->l.length+t.length<=100 ->
   ∃v' S',v<=v'/\Y L Cs zU (some [89,88,87,7,12,4,6,1,2,11,3]) 5 (lyE m r b lo hi cap i) (bx 16 (zm m r len bar e)::zba v 6 l::zbt 2::bx 6 (ze b)::bxv w 6 (ze p)::bxv 3 6 (ze y)::rwB l::S) =
    some (.exit 0,(90,.w (Bo false))::lyE m r b lo hi cap (zS m b.lane).length,bx 16 (zm m r len bar e)::zba v' 6 (l++t.flatMap (zg3 m r bar e.slo b lo hi cap))::zbt 2::bx 6 (ze b)::bxv w 6 (ze p)::bxv 3 6 (ze y)::rwB (l++t.flatMap (zg3 m r bar e.slo b lo hi cap))::S')/\S'.length=S.length+t.length:=by
 intro t;induction t with
 |nil =>
  intro i l v S hd hi1 hl;refine⟨v,S,jm _,?_⟩
  grind [zqX]
 |cons x t ih =>
  intro i l v S hd hi1 hl;obtain⟨hil,hx,hd'⟩:=zL hd;have hn2:=hs.nx b.lane;have hlen:=zcX h.qO hb;have hok:=zqa h.qO i hil;have hlf:=hs.leaf b.lane _ (jf hil);simp only[jl]at hl;obtain⟨v1,fp,hv1,hc⟩:=zu8 h len e (za6 b (zS m b.lane)[i]) hok hlf (lo-z8 m b.lane) (hi-z8 m b.lane) wA wA (zhq m r e.slo b.lane (zS m b.lane)[i] cap) l wA v (bx 6 (ze b)) (bxv w 6 (ze p)::bxv 3 6 (ze y)::rwB l::(S++[bxv 3 6 (ze (za6 b (zS m b.lane)[i]))])) 2 wD wD;have e1:zbA m r bar (za6 b (zS m b.lane)[i]) (lo-z8 m b.lane) (hi-z8 m b.lane) (zhq m r e.slo b.lane (zS m b.lane)[i] cap)=zg3 m r bar e.slo b lo hi cap x:=by rw[<-hx];rfl
  have hst:=zqW h len e b hb lo hi wA wA cap 5 i hil wA (zba v 6 l) (bxv w 6 (ze p)::bxv 3 6 (ze y)::rwB l::S) _ fp hc;rw[hst,e1];have:=znZ m r bar e.slo b lo hi cap x;obtain⟨v2,S',hv2,hY,hS'⟩:=ih (i+1) (l++zg3 m r bar e.slo b lo hi cap x) v1 (S++[bxv 3 6 (ze (za6 b (zS m b.lane)[i]))]) hd' wA (by simp;omega);refine⟨v2,S',wA,?_,by rw[hS'];simp;omega⟩;simp only[List.set,Nat.reduceAdd,DF];rw[hY];simp
def zyH{m:zD}{r:List Int}{bar:Int}(h:ziO m r bar)(hs:zmX m)(len:Int)(e:Ego)(b:zk)(hb:0<=b.lane/\b.lane<m.jd.length)(lo hi:Int)(hlo:-90000000<=lo/\lo<=90000000)(hhi:-90000000<=hi/\hi<=90000000)(cap:Bool)(p:zk)(w v:Nat) :
  ∀(t:List Int) (i:Nat),(zS m b.lane).drop i=t->i<=(zS m b.lane).length->t.length<=10 ->
   (t.flatMap (zg3 m r bar e.slo b lo hi cap)=[]/\Y L Cs zU (some [89,88,87,7,12,4,6,1,2,11,3]) 5 (lyE m r b lo hi cap i) [bx 16 (zm m r len bar e),bxv v 1 [.jc],zbt 2,bx 6 (ze b),bxv w 6 (ze p)] =
     some (.exit 0,(90,.w (Bo false))::lyE m r b lo hi cap (zS m b.lane).length,[bx 16 (zm m r len bar e),bxv v 1 [.jc],zbt 2,bx 6 (ze b),bxv w 6 (ze p)])) \/
   (t.flatMap (zg3 m r bar e.slo b lo hi cap)≠[]/\∃v' S' y,v<v'/\Y L Cs zU (some [89,88,87,7,12,4,6,1,2,11,3]) 5 (lyE m r b lo hi cap i) [bx 16 (zm m r len bar e),bxv v 1 [.jc],zbt 2,bx 6 (ze b),bxv w 6 (ze p)] =
     some (.exit 0,(90,.w (Bo false))::lyE m r b lo hi cap (zS m b.lane).length,bx 16 (zm m r len bar e)::zba v' 6 (t.flatMap (zg3 m r bar e.slo b lo hi cap))::zbt 2::bx 6 (ze b)::bxv w 6 (ze p)::bxv 3 6 (ze y)::rwB (t.flatMap (zg3 m r bar e.slo b lo hi cap))::S')/\S'.length<=t.length):=by
 intro t;induction t with
 |nil =>
  intro i hd hi1 hl;obtain rfl:=zUb hd hi1;refine .inl ⟨rfl,?_⟩;rw[zqX]
 |cons x t ih =>
  intro i hd hi1 hl;obtain⟨hil,hx,hd'⟩:=zL hd;have hn2:=hs.nx b.lane;have hlen:=zcX h.qO hb;have hok:=zqa h.qO i hil;have hlf:=hs.leaf b.lane _ (jf hil);simp only[jl]at hl;obtain⟨fp,hc⟩:=zyK h len e (za6 b (zS m b.lane)[i]) hok hlf (lo-z8 m b.lane) (hi-z8 m b.lane) wA wA (zhq m r e.slo b.lane (zS m b.lane)[i] cap) v (bx 6 (ze b)) (bxv w 6 (ze p)) (bxv 3 6 (ze (za6 b (zS m b.lane)[i])));have e1:zbA m r bar (za6 b (zS m b.lane)[i]) (lo-z8 m b.lane) (hi-z8 m b.lane) (zhq m r e.slo b.lane (zS m b.lane)[i] cap)=zg3 m r bar e.slo b lo hi cap x:=by rw[<-hx];rfl
  have hst:=zqW h len e b hb lo hi wA wA cap 5 i hil wA (bxv v 1 [.jc]) [bxv w 6 (ze p)] _ fp hc;rw[hst,e1];have:=znZ m r bar e.slo b lo hi cap x;by_cases c:stays m r bar (za6 b (zS m b.lane)[i]) (lo-z8 m b.lane) (hi-z8 m b.lane) (zhq m r e.slo b.lane (zS m b.lane)[i] cap)=true
  ·have ne:zg3 m r bar e.slo b lo hi cap x≠[]:=by rw[<-e1,zbA,if_pos c];simp
   rw[if_pos c];obtain⟨v2,S',hv2,hY,hS'⟩:=zyG h hs len e b hb lo hi hlo hhi cap p w (za6 b (zS m b.lane)[i]) t (i+1) (zg3 m r bar e.slo b lo hi cap x) (v+1) [] hd' wA wA;refine .inr ⟨by simp[ne],v2,S',za6 b (zS m b.lane)[i],wA,?_,by rw[hS'];simp⟩;rw[DF,hY];simp
  ·have ee:zg3 m r bar e.slo b lo hi cap x=[]:=by rw[<-e1,zbA,if_neg c]
   rw[if_neg c,drop5];have:=ih (i+1) hd' wA wA;rcases this with⟨h1,h2⟩ |⟨h1,v2,S',y,h4,h2,h3⟩
   ·exact .inl ⟨by simp[ee];simpa using h1,h2⟩
   ·exact .inr ⟨by simp[ee];simpa using h1,v2,S',y,h4,by rw[h2];simp[ee],by simp;omega⟩
def zlZ(m:zD)(r:List Int)(bar slo:Int)(b:zk)(lo hi:Int)(cap:Bool):List LB :=
 zbA m r bar b lo hi cap++(if hi<z8 m b.lane then [] else(zS m b.lane).flatMap (zg3 m r bar slo b lo hi cap))
def zBD{m:zD}{r:List Int}{bar:Int}(h:ziO m r bar)(hs:zmX m)(len:Int)(e:Ego)(b:zk)(hb:0<=b.lane/\b.lane<m.jd.length)(lo hi:Int)(hlo:-90000000<=lo/\lo<=90000000)(hhi:-90000000<=hi/\hi<=90000000)(cap:Bool) :
  ∃v',1<=v'/\R L Cs zcg [.a (ze b),W lo,W hi,Bo cap,Pt 0,Pt 1,Pt 2] [bx 16 (zm m r len bar e),bx 1 [.jc],zbt 2] =
   some (.t [],if zlZ m r bar e.slo b lo hi cap=[] then [bx 16 (zm m r len bar e),bx 1 [.jc],zbt 2] else [bx 16 (zm m r len bar e),zba v' 3 (zlZ m r bar e.slo b lo hi cap),zbt 2,rwB (zlZ m r bar e.slo b lo hi cap)]):=by
 obtain⟨n,hn0⟩:=jA hb.1;have hnl:n<m.jd.length:=wA
 have hI:=zoq r b.lane (by have:=h.len;omega);have hlen:=zcX h.qO hb;have el:z8 m b.lane=m.jd[n].len:=by rw[hn0];simp[z8,hnl]
 have en:zS m b.lane=m.jd[n].next:=by rw[hn0];simp[zS,hnl]
 have eln:=el;rw[hn0]at eln;have en1:zS m (n:Int)=m.jd[n].next:=by rw[<-hn0];exact en
 have hn2:=hs.nx b.lane;have hYA:=fun p w c=>zyI h hs len e b hb lo hi hlo hhi cap p w (p,c) (zS m b.lane) 0 [(p,c)] 1 wD wD (by simp;omega)
 have hYB:=fun p w=>zyH h hs len e b hb lo hi hlo hhi cap p w 0 (zS m b.lane) 0 wD wD wA
 rw[el]at hlen;unfold zlZ zbA stays zhO;have Dh:=h.bar;have four:∃T c q,zcj m r bar b.lane hi cap=T/\zcV r b.lane cap=c/\(zgo r b.lane=none/\True/\True/\True/\True/\True/\(cap=true/\T=min hi m.jd[n].len/\c=false/\q=3\/cap=false/\T=min hi m.jd[n].len/\c=false/\q=3) \/
   ∃i:Nat,zgo r b.lane=some i/\i<r.length/\i<(zW m 0 r).length/\(∀hh:i<(zW m 0 r).length,(zW m 0 r)[i]=kM m r i)/\IntKind.i64.wrap (bar-kM m r i)=bar-kM m r i/\(0:Int)<=i/\(cap=true/\T=min hi (min m.jd[n].len (bar-kM m r i))/\c=true/\q=4\/cap=false/\T=min hi m.jd[n].len/\c=false/\q=3)):=by
  cases hix:zgo r b.lane with
  |none=>cases cap<;>exact⟨_,_,3,rfl,rfl,.inl ⟨rfl,trivial,trivial,trivial,trivial,trivial,by simp[zcj,zcV,hix,el]⟩⟩
  |some i =>
   obtain⟨hil,_⟩:=zfT hix;have hsb:=zmA h hil;have hsl:i<(zW m 0 r).length:=by rw[zcO];exact hil
   cases cap
   ·exact⟨_,_,3,rfl,rfl,.inr ⟨i,rfl,hil,hsl,fun _=>by simp[kM,hsl],qB _ wA wA,wA,by simp[zcj,zcV,hix,el]⟩⟩
   ·exact⟨_,_,4,rfl,rfl,.inr ⟨i,rfl,hil,hsl,fun _=>by simp[kM,hsl],qB _ wA wA,wA,by simp[zcj,zcV,hix,el]⟩⟩
 obtain⟨T,c,q,et,ec,four⟩:=four;have ecn:=ec;rw[hn0]at ecn;have d2:=Classical.em (max 0 lo<=T);have hYA:=hYA ⟨b.lane,max 0 lo,T,b.vlo,b.vhi,b.hold⟩ q c;have hYB:=hYB ⟨b.lane,max 0 lo,T,b.vlo,b.vhi,b.hold⟩ q;generalize hF:(zS m b.lane).flatMap (zg3 m r bar e.slo b lo hi cap)=F at hYA hYB ⊢;rw[ec,et,el,zUa zam rfl];clear et ec;rcases four with⟨hix,hil,hsl,hsi,wS,hi0,⟨rfl,rfl,rfl,rfl⟩ |⟨rfl,rfl,rfl,rfl⟩⟩ |⟨i,hix,hil,hsl,hsi,wS,hi0,⟨rfl,rfl,rfl,rfl⟩ |⟨rfl,rfl,rfl,rfl⟩⟩
 all_goals
  have hixn:=hix;rw[hn0]at hixn;rw[hix]at hI;simp only[hn0,zbe]at hI;by_cases d3:hi<m.jd[n].len
  ·refine⟨1,wA,?_⟩;by_cases d1:lo<=m.jd[n].len<;>rcases d2 with d2 |d2
   all_goals simp[za,zm,zh,zi,ze,zo,hn0,hnl,hI,hil,hsl,hsi,wS,hi0,d1,d2,d3,lbC,zg,zr,List.range,List.range.loop,zba,rwB]
  ·by_cases d1:lo<=m.jd[n].len<;>rcases d2 with d2 |d2
   ·obtain⟨vA,hvA,hYA⟩:=hYA;simp[lyE,hn0,hixn,ecn,eln,hnl,zm,zh,zi,ze,zbe,lbC,en1,zba,zbT,rwB]at hYA;refine⟨vA,wA,?_⟩;simp[hYA,za,zm,zh,zi,ze,zo,hn0,hnl,hI,hil,hsl,hsi,wS,hi0,d1,d2,d3,lbC,zg,zr,List.range,List.range.loop,zba,rwB]
   all_goals
    rcases hYB with⟨hF0,hZ⟩ |⟨hF0,vB,S',y,hvB,hZ,hS⟩
    ·simp[lyE,hn0,hixn,ecn,eln,hnl,zm,zh,zi,ze,zbe,lbC,en1,zba,zbT,rwB]at hZ;subst hF0;refine⟨1,wA,?_⟩;simp[hZ,za,zm,zh,zi,ze,zo,hn0,hnl,hI,hil,hsl,hsi,wS,hi0,d1,d2,d3,lbC,zg,zr,List.range,List.range.loop,zba,rwB]
    ·simp[lyE,hn0,hixn,ecn,eln,hnl,zm,zh,zi,ze,zbe,lbC,en1,zba,zbT,rwB]at hZ;refine⟨vB,wA,?_⟩;rcases S' with _ |⟨s1,_ |⟨s2,_ |⟨s3,S'⟩⟩⟩
     ·simp[hZ,hF0,za,zm,zh,zi,ze,zo,hn0,hnl,hI,hil,hsl,hsi,wS,hi0,d1,d2,d3,lbC,zg,zr,List.range,List.range.loop,zba,rwB]
     ·simp[hZ,hF0,za,zm,zh,zi,ze,zo,hn0,hnl,hI,hil,hsl,hsi,wS,hi0,d1,d2,d3,lbC,zg,zr,List.range,List.range.loop,zba,rwB]
     ·simp[hZ,hF0,za,zm,zh,zi,ze,zo,hn0,hnl,hI,hil,hsl,hsi,wS,hi0,d1,d2,d3,lbC,zg,zr,List.range,List.range.loop,zba,rwB]
     ·simp at hS;omega
def zCi{m:zD}{r:List Int}{bar:Int}(h:ziO m r bar)(hs:zmX m)(len:Int)(e:Ego)(b:zk)(hb:0<=b.lane/\b.lane<m.jd.length)(lo hi:Int)(hlo:-90000000<=lo/\lo<=90000000)(hhi:-90000000<=hi/\hi<=90000000)(cap:Bool) :
  R L Cs znw [.a (zm m r len bar e),.a (ze b),W lo,W hi,Bo cap] []=some (.w (.c (.jb (zdz (zlZ m r bar e.slo b lo hi cap)))),[]):=by
 obtain⟨v,hv,hf⟩:=zBD h hs len e b hb lo hi hlo hhi cap;have hv0:(v=0)=False:=eq_false wA;have hl16:(zm m r len bar e).length=16:=by simp[zm,zh,zi]
 generalize zlZ m r bar e.slo b lo hi cap=l at *;cases l with
 |nil =>
  simp[zm,zh,zi,ze]at hf;rw[zUa ziF rfl];simp[zeH,zm,zh,zi,ze,hf,zg,zr,List.range,List.range.loop]
 |cons x l =>
  simp[zm,zh,zi,ze,zba,rwB]at hf;rw[zUa ziF rfl];simp[zeH,zm,zh,zi,ze,hf,hv0,zg,zr,List.range,List.range.loop]
def zeO(m:zD)(r:List Int)(bar:Int)(b:zk)(lo hi:Int)(cap:Bool):(zbA m r bar b lo hi cap).length<=1:=by
 unfold zbA;split<;>simp
def zxw{m:zD}(h:zcp m){a x:Int}(hx:x∈zS m a):0<=x/\x<m.jd.length:=by
 obtain⟨i,hi,rfl⟩:=uy hx;exact zqa h i hi
def zjI{m:zD}(hs:zmX m)(r:List Int)(bar slo:Int)(b:zk)(lo hi:Int)(cap:Bool):(zlZ m r bar slo b lo hi cap).length<=3:=by
 have h1:=zeO m r bar b lo hi cap;have h2:=hs.nx b.lane;have h3:∀l:List Int,(l.flatMap (zg3 m r bar slo b lo hi cap)).length<=l.length:=by
  intro l;induction l with
  |nil=>simp
  |cons x l ih =>
   have:=znZ m r bar slo b lo hi cap x;simp only[kG,jF,jl];omega
 have h4:=h3 (zS m b.lane);unfold zlZ;split
 ·simp;omega
 ·rw[jF];omega
structure zA6(m:zD)(b x:zk):Prop where
 on:0<=x.lane/\x.lane<m.jd.length
 lo:0<=x.lo
 le:x.lo<=x.hi
 hi:x.hi<=z8 m x.lane
 vlo:x.vlo=b.vlo
 vhi:x.vhi=b.vhi
 hold:(x.lane=b.lane/\x.hold=b.hold)\/x.hold=0
def zzl(m:zD)(r:List Int)(bar lane hi:Int)(cap:Bool):zcj m r bar lane hi cap<=z8 m lane:=by
 unfold zcj;split
 ·split<;>omega
 ·omega
def zuU{m:zD}(r:List Int)(bar:Int)(b:zk)(hb:0<=b.lane/\b.lane<m.jd.length)(lo hi:Int)(cap:Bool):∀z∈zbA m r bar b lo hi cap,zA6 m b z.1:=by
 intro z hz;unfold zbA at hz;split at hz
 case isTrue c =>
  simp only[jB]at hz;subst hz;simp only[stays,jk,decide_eq_true_eq]at c;have:=zzl m r bar b.lane hi cap;exact⟨hb,by simp only[zhO];omega,c.2,this,rfl,rfl,.inl ⟨rfl,rfl⟩⟩
 case isFalse c=>simp at hz
def zBF{m:zD}(h:zcp m)(r:List Int)(bar slo:Int)(b:zk)(hb:0<=b.lane/\b.lane<m.jd.length)(lo hi:Int)(cap:Bool):∀z∈zlZ m r bar slo b lo hi cap,zA6 m b z.1:=by
 intro z hz;unfold zlZ at hz;rcases jL.1 hz with hz|hz
 ·exact zuU r bar b hb lo hi cap z hz
 ·split at hz
  case isTrue=>simp at hz
  case isFalse =>
   obtain⟨x,hx,hz⟩:=kj.1 hz;have:=zuU r bar (za6 b x) (zxw h hx) _ _ _ z hz;exact⟨this.on,this.lo,this.le,this.hi,this.vlo,this.vhi,.inr (by rcases this.hold with⟨_,h⟩ |h<;>exact h)⟩
def zDT(m:zD)(n:Int):List Int :=
 if zbK m 0 m.jd=[] then [] else
 (zbK m 0 m.jd).getD ((n % 1048576).toNat % (zbK m 0 m.jd).length) 0::goR m 7 ((zbK m 0 m.jd).getD ((n % 1048576).toNat % (zbK m 0 m.jd).length) 0) ((n % 1048576).toNat / (zbK m 0 m.jd).length)
def zEm(m:zD)(n:Int):(zDT m n).length<=8:=by
 unfold zDT;split
 ·simp
 ·rw[jl];have:=zEZ m 7 ((zbK m 0 m.jd).getD ((n % 1048576).toNat % (zbK m 0 m.jd).length) 0) ((n % 1048576).toNat / (zbK m 0 m.jd).length);omega
def zFk{m:zD}(h:zcp m):∀(f:Nat) (a:Int) (n:Nat),0<=a/\a<m.jd.length->zj2 m (goR m f a n)
 |0,_,_,_=>by intro x hx;cases hx
 |f+1,a,n,ha=>by
  obtain⟨j,rfl⟩:=jA ha.1;have hj:j<m.jd.length:=wA
  have en:zS m (j:Int)=m.jd[j].next:=by simp[zS,hj]
  unfold goR;rw[en];split
  ·intro x hx;cases hx
  ·rename_i c;have hm:n % m.jd[j].next.length<m.jd[j].next.length:=qF _ wA;have eg:m.jd[j].next.getD (n % m.jd[j].next.length) 0=m.jd[j].next[n % m.jd[j].next.length]:=by simp[jG,hm]
   have hval:=h.small.valid _ (jf hj) _ (jf hm);rw[eg];intro x hx;rcases jK.1 hx with rfl|hx
   ·exact hval
   ·exact zFk h f _ _ hval x hx
def zFf{m:zD}(hne:zbK m 0 m.jd≠[])(N:Nat):0<=(zbK m 0 m.jd).getD (N % (zbK m 0 m.jd).length) 0/\(zbK m 0 m.jd).getD (N % (zbK m 0 m.jd).length) 0<m.jd.length:=by
 have h0:0<(zbK m 0 m.jd).length:=kD.2 hne;have hm:N % (zbK m 0 m.jd).length<(zbK m 0 m.jd).length:=qF _ h0;have eg:(zbK m 0 m.jd).getD (N % (zbK m 0 m.jd).length) 0=(zbK m 0 m.jd)[N % (zbK m 0 m.jd).length]:=by simp[jG,hm]
 rw[eg];exact zp8 m m.jd 0 wA _ (jf hm)
def zEy{m:zD}(h:zcp m)(n:Int):zj2 m (zDT m n):=by
 unfold zDT;split
 ·intro x hx;cases hx
 ·rename_i hne;have hs:=zFf hne (n % 1048576).toNat;intro x hx;rcases jK.1 hx with rfl|hx
  ·exact hs
  ·exact zFk h _ _ _ hs x hx
def zE3{m:zD}(h:zcp m)(n:Int):R L Cs zEb [.a (zf m),W n] []=some (.w (.c (.jb (zu (zDT m n)))),[]):=by
 have ho:=zzc h;have hm:=zEW n 1048576 wA wA;have hr:=zDJ n 1048576 wA;have hlen:=zlK m m.jd 0;have hsm:=h.small.jd;unfold zDT;rw[zUa zEf rfl];by_cases c:zbK m 0 m.jd=[]
 ·rw[c]at ho;simp only[zf,zay]at ho ⊢;simp[zDO,ho,c,zg]
 ·have hs:=zFf c (n % 1048576).toNat;rw[if_neg c];generalize n % 1048576=N at *;obtain⟨N,rfl⟩:=jA hr.1;generalize zbK m 0 m.jd=l at *;have h0:0<l.length:=kD.2 c;have hml:N % l.length<l.length:=qF _ h0;have hq:N / l.length<=N:=Nat.div_le_self _ _;simp only[Int.toNat_natCast]at *;have eg:l.getD (N % l.length) 0=l[N % l.length]:=by simp[jG,hml]
  rw[eg]at hs ⊢;obtain⟨b,t,hy⟩:=zEL h 7 l[N % l.length] (N / l.length) [l[N % l.length]] rfl hs.1 hs.2 wA;have e1:(N:Int).tmod (l.length:Int)=((N % l.length:Nat):Int):=by
   rw[qH wA];rfl
  have e2:(N:Int).tdiv (l.length:Int)=((N / l.length:Nat):Int):=by
   rw[qr wA];rfl
  have e3:IntKind.i64.wrap ((N / l.length:Nat):Int)=((N / l.length:Nat):Int):=zv4 wA;have hz:((l.length:Int)==0)=false:=beq_false_of_ne wA;have hz':(l.length:Int)≠0:=wA
  generalize hq2:N / l.length=q at *;generalize hm2:N % l.length=p at *;simp only[zf,sl,own,zaP,zay,zfq,jl,jp]at ho hy ⊢;simp[zDO,ho,hm,c,hz,hz',e1,e2,e3,hml,hy,zg]
def zE6{m:zD}(h:zcp m)(n:Int):∀(f i:Nat),i+f=4 ->
  (Y L Cs zDD (some [1,2,5]) 2 [(1,.w (W n)),(2,.w (Pt 0)),(5,.w (W i))] [bx 5 (zf m),gb 1] =
   some (.exit 0,[(8,.w (Bo false)),(2,.w (Pt 0)),(1,.w (W n)),(5,.w (W 4))],[bx 5 (zf m),gb 1])) \/
  (∃k,zaK m ((zDT m k).headD 0)=1/\Y L Cs zDD (some [1,2,5]) 2 [(1,.w (W n)),(2,.w (Pt 0)),(5,.w (W i))] [bx 5 (zf m),gb 1] =
   some (.ret,[(4,.w (.c (.jb (zu (zDT m k)))))],[bx 5 (zf m),gb 1])):=by
 intro f;induction f with
 |zero =>
  intro i hi;obtain rfl:i=4:=wA
  left;rw[ZfM zDD.eq_1];simp
 |succ f ih =>
  intro i hi;have hi4:(i:Int)<4:=wA
  have hw:=zB (i:=i) wA;have hm:=zEW n 1048576 wA wA;have hr:=zDJ n 1048576 wA;have hw2:=qB (n % 1048576+i);have hR:=zE3 h (n % 1048576+i);have hon:=zEy h (n % 1048576+i);rw[ZfM zDD.eq_1];have ih':=ih (i+1) wA;have hk:∀q,q=zDT m (n % 1048576+i)->∃k,q=zDT m k:=fun q hq=>⟨_,hq⟩
  generalize hq:zDT m (n % 1048576+i)=q at *;cases q with
  |nil =>
   rcases ih' with ih' |⟨k,hkd,ih'⟩
   ·left;rw[<-ih'];simp only[zf,zay]at hR ⊢;simp[hi4,hw,hm,hw2,hR]
   ·right;refine⟨k,hkd,?_⟩;rw[<-ih'];simp only[zf,zay]at hR ⊢;simp[hi4,hw,hm,hw2,hR]
  |cons x r =>
   have hx:=hon x wD;obtain⟨j,rfl⟩:=jA hx.1;have hj:j<m.jd.length:=wA
   by_cases c:m.jd[j].kind=1
   ·right;refine⟨n % 1048576+i,by rw[hq];simp[zaK,hj,c],?_⟩;rw[hq];simp only[zf,zaP]at hR ⊢;simp[hi4,hw,hm,hw2,hR,hj,zo,c]
   ·have cb:(m.jd[j].kind==1)=false:=by simp[c]
    rcases ih' with ih' |⟨k,hkd,ih'⟩
    ·left;rw[<-ih'];simp only[zf,zaP]at hR ⊢;simp[hi4,hw,hm,hw2,hR,hj,zo,c,cb]
    ·right;refine⟨k,hkd,?_⟩;rw[<-ih'];simp only[zf,zaP]at hR ⊢;simp[hi4,hw,hm,hw2,hR,hj,zo,c,cb]
def zT8{m:zD}(h:zcp m)(n:Int):∃k,(k=0\/zaK m ((zDT m k).headD 0)=1)/\R L Cs zD3 [.a (zf m),W n] []=some (.w (.c (.jb (zu (zDT m k)))),[]):=by
 rw[zUa zD5 rfl];rcases zE6 h n 4 0 rfl with hl |⟨k,hkd,hl⟩
 ·refine⟨0,.inl rfl,?_⟩;have hR:=zE3 h 0;simp only[zf,jg]at hl hR ⊢;simp[zDK,hl,hR]
 ·refine⟨k,.inr hkd,?_⟩;simp only[zf,jg]at hl ⊢;simp[zDK,hl]
def Ord(a b:zk):Prop:=a.lane<b.lane\/a.lane=b.lane/\a.lo<=b.lo
def not_lt{x s:zk}(h:ltB x s=false):Ord s x:=by
 unfold ltB at h;unfold Ord;simp at h;omega
structure Spn where
 lane:Int
 lo:Int
 hi:Int
def zWX(s:Spn):List Cl:=[I s.lane,I s.lo,I s.hi]
def zWx(l:List Spn):List (List Cl):=l.map zWX
@[simp] def z1J(s:Spn):(zWX s).length=3:=rfl
@[simp] def zXJ(l:List Spn):(zWx l).length=l.length:=by simp[zWx]
@[simp] def z1e(l m:List Spn):zWx (l++m)=zWx l++zWx m:=by simp[zWx]
@[simp] def zZb:zWx []=[]:=rfl
@[simp] def z1B(x:Spn)(l:List Spn):zWx (x::l)=zWX x::zWx l:=rfl
@[simp] def z1A(l:List Spn):(zWx l).take l.length=zWx l:=jx wD
@[simp] def z05{l:List Spn}{i:Nat}(h:i<(zWx l).length):(zWx l)[i]=zWX (l[i]'(by simpa using h)):=by simp[zWx]
def onF(m:zD)(s:Spn):Bool:=decide (0<=s.lane)&&decide (s.lane<m.jd.length)&&decide (0<=s.lo)&&decide (s.lo<=s.hi)&&decide (s.hi<=z8 m s.lane)
def z1M{m:zD}(h:zcp m)(s:Spn):R L Cs zZ6 [.a (zf m),.a (zWX s)] []=some (.w (Bo (onF m s)),[]):=by
 obtain⟨ln,lo,hi⟩:=s;rw[zUa z0a rfl];simp only[onF,zWX];by_cases c1:0<=ln
 ·by_cases c2:ln<m.jd.length
  ·obtain⟨j,rfl⟩:=jA c1;have hj:j<m.jd.length:=wA
   have hL:=zrQ h hj;have e:z8 m j=m.jd[j].len:=by simp[z8,hj]
   simp only[zf]at hL;rw[e];by_cases c3:0<=lo
   ·by_cases c4:lo<=hi
    ·simp[zXb,zf,hj,c3,c4,hL,zg]
    ·simp[zXb,zf,hj,c3,c4,zg]
   ·simp[zXb,zf,hj,c3,zg]
  ·simp[zXb,zf,c1,c2,zg]
 ·simp[zXb,zf,c1,zg]
def zWu(s:Spn):zk:=⟨s.lane,s.lo,s.hi,0,0,0⟩
def zXs(b:zk):Spn:=⟨b.lane,b.lo,b.hi⟩
abbrev fzB(bs:List zk):Option Blk:=some { box:=false,esz:=6,rows:=zI bs,gen:=bs.length,fz:=true,ver:=bs.length+1 }
def zXa(m:zD)(l:List Spn):List Spn:=(zcz ((l.filter (onF m)).map zWu)).map zXs
def z1E{m:zD}(h:zcp m){s:Spn}(hs:onF m s=true):OKB (zWu s):=by
 unfold onF at hs;simp at hs;have:=zcX h (x:=s.lane) wA;exact⟨by simp[zWu];omega,by simp[zWu];omega,by simp[zWu];omega,by simp[zWu];omega⟩
def z1r(b:Spn)(i v:Nat)(M:Mem)(h:M[i]?=some (bxv v 3 (zWX b))):R L Cs zYp [Pt i] M=some (.t [W b.lane,.c (.ptr i 0 0 1),.c (.ptr i 0 0 2)],M):=by
 rw[zUa zYs rfl];simp[zXc,h,zWX,p1F]
def zYm(x fr to:Int)(b:Spn):List Spn :=
 if b.lane≠x\/fr>to\/fr>b.hi\/to<b.lo then [b] else
 (if b.lo<fr then [{ b with hi:=fr-1 }] else [])++(if to<b.hi then [{ b with lo:=to+1 }] else [])
def zYr(x fr to:Int):List Spn->List Spn
 |[]=>[]
 |b::r=>zYm x fr to b++zYr x fr to r
def z0x(x fr to:Int)(b:Spn):(zYm x fr to b).length<=2:=by
 grind [zYm]
def z0w(x fr to:Int)(hfr:Mid fr)(hto:Mid to)(l:List Spn)(hl:l.length<=100000000000):∀(r:List Spn) (i:Nat) (out:List Spn),l.drop i=r->i<=l.length->out.length<=2*i ->
  Y L Cs zWR (some [5,21,20,19,3]) 3 [(5,.w (.c (sl 2 3 (zWx out)))),(21,.w (W i)),(20,.w (W l.length)),(19,.w (.c (.jb (zWx l)))),(3,.w (Pt 0))] [bx 3 [I x,I fr,I to],gb 3,some (own 3 (zWx out))] =
    some (.exit 0,[(22,.w (Bo false)),(5,.w (.c (sl 2 3 (zWx (out++zYr x fr to r))))),(21,.w (W l.length)),(20,.w (W l.length)),(19,.w (.c (.jb (zWx l)))),(3,.w (Pt 0))],[bx 3 [I x,I fr,I to],gb 3,some (own 3 (zWx (out++zYr x fr to r)))]):=by
 intro r;induction r with
 |nil =>
  intro i out hd hi ho;obtain rfl:=zUb hd hi;rw[ZfM zWR.eq_1];simp[zYr]
 |cons b r ih =>
  intro i out hd hi ho;obtain⟨hil,hb,hd'⟩:=zL hd;have hw:=zB (i:=i) wA;have hcl:(out++zYm x fr to b).length<=2*(i+1):=by
   have:=z0x x fr to b;rw[jF];omega
  obtain⟨f1,f2⟩:=hfr;obtain⟨t1,t2⟩:=hto;have hw1:=qB (fr-1);have hw2:=qB (to+1);have kA:(out.length+1)*24<=140737488355328:=wA
  have CF:(out.length+2)*24<=140737488355328:=by clear hcl hd hb hd' ih;omega
  have he:=z1r b 0 1 [bxv 1 3 (zWX b)] rfl;have e1:out++zYr x fr to (b::r)=(out++zYm x fr to b)++zYr x fr to r:=by simp[zYr]
  rw[e1,<-ih (i+1) (out++zYm x fr to b) hd' hil hcl,ZfM zWR.eq_1];clear ih e1 hcl;clear f1 f2 t1 t2;obtain⟨bl,lo,hi'⟩:=b;simp only[zWX,zYm]at *;by_cases c1:bl=x
  ·subst c1;by_cases c2:to<fr
   ·simp[hil,hb,zWX,hw,kA,zg,zH,he,c2]
   ·by_cases c3:hi'<fr
    ·simp[hil,hb,zWX,hw,kA,zg,zH,he,c2,c3]
    ·by_cases c4:to<lo
     ·simp[hil,hb,zWX,hw,kA,zg,zH,he,c2,c3,c4]
     ·by_cases c5:lo<fr
      ·by_cases c6:to<hi'
       ·have htk:∀y:List Cl,List.take (out.length+1) (zWx out++[y])=zWx out++[y]:=fun y=>jx wD
        simp[hil,hb,zWX,hw,hw1,hw2,kA,CF,zg,zH,he,c2,c3,c4,c5,c6,htk]
       ·simp[hil,hb,zWX,hw,hw1,hw2,kA,zg,zH,he,c2,c3,c4,c5,c6]
      ·by_cases c6:to<hi'
       ·simp[hil,hb,zWX,hw,hw1,hw2,kA,zg,zH,he,c2,c3,c4,c5,c6]
       ·simp[hil,hb,zWX,hw,hw1,hw2,kA,zg,zH,he,c2,c3,c4,c5,c6]
  ·have b1:(bl==x)=false:=by simp[c1]
   have b2:(bl !=x)=true:=by simp[c1]
   simp[hil,hb,zWX,hw,kA,zg,zH,he,c1,b1,b2]
def z1H(x fr to:Int)(hfr:Mid fr)(hto:Mid to)(l:List Spn)(hl:l.length<=100000000000):R L Cs zYy [.c (.jb (zWx l)),.a [I x,I fr,I to]] []=some (.w (.c (.jb (zWx (zYr x fr to l)))),[]):=by
 have hc:=z0w x fr to hfr hto l hl l 0 [] rfl (jr _) (jr _);simp only[jg,je,zZb,sl,own,jp,zXJ]at hc;rw[zUa zYz rfl];simp[zXg,hc,zg]
def z0L{m:zD}(h:zcp m){s:Spn}(c:onF m s=true):Mid s.lo/\Mid s.hi:=by
 unfold onF at c;simp at c;have:=zcX h (x:=s.lane) wA;exact⟨⟨wA,wA⟩,⟨wA,wA⟩⟩
structure Fnd where
 lane:Int
 lo:Int
 hi:Int
 v1:Int
 v2:Int
def zWN(s:Fnd):List Cl:=[I s.lane,I s.lo,I s.hi,I s.v1,I s.v2]
def zWw(l:List Fnd):List (List Cl):=l.map zWN
def Fnd.s(f:Fnd):Spn:=⟨f.lane,f.lo,f.hi⟩
@[simp] def z1L(s:Fnd):(zWN s).length=5:=rfl
@[simp] def zYf(l:List Fnd):(zWw l).length=l.length:=by simp[zWw]
@[simp] def z1f(l m:List Fnd):zWw (l++m)=zWw l++zWw m:=by simp[zWw]
@[simp] def zXx:zWw []=[]:=rfl
@[simp] def zYn(x:Fnd)(l:List Fnd):zWw (x::l)=zWN x::zWw l:=rfl
@[simp] def z08{l:List Fnd}{i:Nat}(h:i<(zWw l).length):(zWw l)[i]=zWN (l[i]'(by simpa using h)):=by simp[zWw]
@[simp] def zYQ(l:List Fnd):(zWw l).take l.length=zWw l:=jx wD
def zYx(m:zD):List Fnd->List Spn->List Spn
 |[],l=>l
 |f::r,l=>zYx m r (if onF m f.s=true then zYr f.lane f.lo f.hi l else l)
def zXD(m:zD)(l:List Spn)(fs:List Fnd):List Spn:=zYx m fs (zXa m l)
def zZW(m:zD)(l:List Spn):(zXa m l).length<=l.length:=by
 grind [zXa,zkq,onF,zWu,List.length_filter_le,List.length_map]
structure Pnt where
 x:Int
 y:Int
 v:Int
def zYi(p:Pnt):List Cl:=[I p.x,I p.y,I p.v]
def zWs(l:List Pnt):List (List Cl):=l.map zYi
@[simp] def z1K(s:Pnt):(zYi s).length=3:=rfl
@[simp] def zXQ(l:List Pnt):(zWs l).length=l.length:=by simp[zWs]
@[simp] def z07(l m:List Pnt):zWs (l++m)=zWs l++zWs m:=by simp[zWs]
@[simp] def zZZ:zWs []=[]:=rfl
@[simp] def z1C(x:Pnt)(l:List Pnt):zWs (x::l)=zYi x::zWs l:=rfl
@[simp] def z06{l:List Pnt}{i:Nat}(h:i<(zWs l).length):(zWs l)[i]=zYi (l[i]'(by simpa using h)):=by simp[zWs]
@[simp] def zZY(l:List Pnt):(zWs l).take l.length=zWs l:=jx wD
def zXq(p:Pnt):Bool:=decide (-5<=p.v)&&decide (p.v<=2005)
def zZt(l:List Pnt)(hl:l.length<=1000):∀(r:List Pnt) (i:Nat) (out:List Pnt),l.drop i=r->i<=l.length->out.length<=i ->
  Y L Cs zWO (some [3,12,11,10]) 2 [(3,.w (.c (sl 1 3 (zWs out)))),(12,.w (W i)),(11,.w (W l.length)),(10,.w (.c (.jb (zWs l))))] [gb 3,some (own 3 (zWs out))] =
    some (.exit 0,[(13,.w (Bo false)),(3,.w (.c (sl 1 3 (zWs (out++r.filter zXq))))),(12,.w (W l.length)),(11,.w (W l.length)),(10,.w (.c (.jb (zWs l))))],[gb 3,some (own 3 (zWs (out++r.filter zXq)))]):=by
 intro r;induction r with
 |nil =>
  intro i out hd hi ho;obtain rfl:=zUb hd hi;rw[ZfM zWO.eq_1];simp
 |cons p r ih =>
  intro i out hd hi ho;obtain⟨hil,hs,hd'⟩:=zL hd;have hw:=zB (i:=i) wA;have hon:=ziC p.v (-5) 2005;have kA:(out.length+1)*24<=140737488355328:=wA
  by_cases c:zXq p=true
  ·rw[vW c,show out++p::r.filter zXq=(out++[p])++r.filter zXq by simp,<-ih (i+1) (out++[p]) hd' hil (by simp;omega),ZfM zWO.eq_1];unfold zXq at c;rw[c]at hon;simp[hil,hs,hw,zYi,hon,kA,zg,zH]
  ·rw[qW c,<-ih (i+1) out hd' hil wA,ZfM zWO.eq_1];have c':zXq p=false:=by simpa using c
   unfold zXq at c';rw[c']at hon;simp[hil,hs,hw,zYi,hon,zg,zH]
def z0z(l:List Pnt)(hl:l.length<=1000):R L Cs zYK [.c (.jb (zWs l))] []=some (.w (.c (.jb (zWs (l.filter zXq)))),[]):=by
 have h:=zZt l hl l 0 [] rfl (jr _) (jr _);have CH:min (l.length:Int) 1000=l.length:=wA
 have hrow:(∀x∈zWs l,x.length=3)=True:=by simp[zWs]
 have htk:List.take (l.filter zXq).length (zWs (l.filter zXq))=zWs (l.filter zXq):=zZY _;simp only[jg,je,zZZ,sl,own,jp,zXQ]at h;rw[zUa zYN rfl];simp[zXr,zg,zoU,CH,hrow,h,zX,htk]
def zYk(lane len:Int)(p:Pnt)(f:Int):Fnd:=⟨lane,max 0 (f-100),min (f+100) len,max 0 (p.v-5),p.v+5⟩
structure zXl(m:zD):Prop where
 one:∀l∈m.jd,∃x0 y0 x1 y1,l.pts=[(x0,y0),(x1,y1)]/\Pc x0 y0 x1 y1 l.len
def zYj(l:zfn)(p:Pnt):List Int:=match l.pts with
 |[(x0,y0),(x1,y1)]=>zZc x0 y0 x1 y1 l.len p.x p.y
 |_=>[]
def zXt(lane:Int)(l:zfn)(p:Pnt):List Fnd:=(zYj l p).map (zYk lane l.len p)
theorem zYS{m:zD}(h1:zXl m){l:zfn}(hl:l∈m.jd)(p:Pnt):(zYj l p).length<=1/\∀f∈zYj l p,0<=f/\f<=l.len:=by
 obtain⟨x0,y0,x1,y1,e,hp⟩:=h1.one l hl;have:=hp.l;have hv:=fun q=>zZi (q:=q) (len:=l.len) wA
 unfold zYj;rw[e];simp only[zZc];split
 ·split
  ·simp
  ·simp;exact⟨(hv _).1,(hv _).2⟩
 ·simp
def Zqp{m:zD}(h1:zXl m){l:zfn}(hl:l∈m.jd)(p:Pnt):R L Cs zXv [.a [zeT l],.a [I p.x,I p.y],W 100] []=some (.w (.c (.jb (zu (zYj l p)))),[]):=by
 obtain⟨x0,y0,x1,y1,e,hp⟩:=h1.one l hl;have h1:=z1G hp p.x p.y;unfold zYj zeT;rw[e];exact h1
def z0v{m:zD}(h:zcp m){n:Nat}(hn:n<m.jd.length)(p:Pnt)(hp:zXq p=true)(fs:List Int)(hfs:∀f∈fs,0<=f/\f<=m.jd[n].len)(hl:fs.length<=1000):∀(r:List Int) (i:Nat) (out:List Fnd),fs.drop i=r->i<=fs.length->out.length<=i ->
  Y L Cs zW8 (some [7,23,22,21,1,5,3]) 4 [(7,.w (.c (sl 3 5 (zWw out)))),(23,.w (W i)),(22,.w (W fs.length)),(21,.w (.c (.jb (zu fs)))),(1,.w (W n)),(5,.w (Pt 1)),(3,.w (Pt 0))] [bx 5 (zf m),bx 3 (zYi p),gb 5,some (own 5 (zWw out))] =
    some (.exit 0,[(24,.w (Bo false)),(7,.w (.c (sl 3 5 (zWw (out++r.map (zYk n m.jd[n].len p)))))),(23,.w (W fs.length)),(22,.w (W fs.length)),(21,.w (.c (.jb (zu fs)))),(1,.w (W n)),(5,.w (Pt 1)),(3,.w (Pt 0))],[bx 5 (zf m),bx 3 (zYi p),gb 5,some (own 5 (zWw (out++r.map (zYk n m.jd[n].len p))))]):=by
 intro r;induction r with
 |nil =>
  intro i out hd hi ho;obtain rfl:=zUb hd hi;rw[ZfM zW8.eq_1];simp
 |cons f r ih =>
  intro i out hd hi ho;obtain⟨hil,hs,hd'⟩:=zL hd;have hw:=zB (i:=i) wA;have hL:=zrQ h hn;have hf:=hfs f (by rw[<-hs];exact jf hil);have hle:=h.Cf _ (jf hn);have kA:(out.length+1)*40<=140737488355328:=wA
  simp only[zXq,jk,decide_eq_true_eq]at hp;have e1:IntKind.i64.wrap (f-100)=f-100:=wr wA wA;have e2:IntKind.i64.wrap (f+100)=f+100:=wr wA wA;have e3:IntKind.i64.wrap (p.v-5)=p.v-5:=wr wA wA;have e4:IntKind.i64.wrap (p.v+5)=p.v+5:=wr wA wA;rw[kR,show out++zYk n m.jd[n].len p f::r.map (zYk n m.jd[n].len p)=(out++[zYk n m.jd[n].len p f])++r.map (zYk n m.jd[n].len p) by simp,<-ih (i+1) (out++[zYk n m.jd[n].len p f]) hd' hil (by simp;omega),ZfM zW8.eq_1];clear ih;generalize Ad:m.jd[n].len=ln at *;simp only[zf]at hL;simp[hil,hs,hw,zf,zYi,zWN,zYk,hL,kA,zg,zH,e1,e2,e3,e4,zoU]
def z1F{m:zD}(h:zcp m)(h1:zXl m){n:Nat}(hn:n<m.jd.length)(p:Pnt)(hp:zXq p=true):R L Cs zZo [.a (zf m),W n,.a (zYi p)] []=some (.w (.c (.jb (zWw (zXt n m.jd[n] p)))),[]):=by
 have hb:=zYS h1 (jf hn) p;have hN:=Zqp h1 (jf hn) p;have hl:=z0v h hn p hp (zYj m.jd[n] p) hb.2 wA _ 0 [] rfl (jr _) (jr _);have htk:List.take (zXt n m.jd[n] p).length (zWw (zXt n m.jd[n] p))=zWw (zXt n m.jd[n] p):=zYQ _;have hfl:(zXt n m.jd[n] p).length=(zYj m.jd[n] p).length:=by simp[zXt]
 simp only[je]at hl;change Y _ _ _ _ _ _ _=some (_,[_,(7,.w (.c (sl 3 5 (zWw (zXt n m.jd[n] p))))),_,_,_,_,_,_],[_,_,_,some (own 5 (zWw (zXt n m.jd[n] p)))])at hl;generalize zXt n m.jd[n] p=ft at *;generalize zYj m.jd[n] p=nl at *;simp only[jg,zXx,sl,own,jp,zYf,zf,zYi]at hl;simp only[zeT]at hN;rw[zUa zZx rfl];simp[zXX,zf,zYi,hn,zo,hN,hl,zg,zX,htk]
abbrev oB(v:Nat)(o:List Fnd):Option Blk:=some { box:=false,esz:=5,rows:=zWw o,gen:=o.length,fz:=false,ver:=v }
abbrev oS(id:Nat)(o:List Fnd):Cl:=.slice id o.length 5 0 o.length none
def zXw(n:Nat)(l:zfn)(ps:List Pnt):List Fnd:=ps.flatMap (zXt n l)
theorem zZf{m:zD}(h1:zXl m){n:Nat}(hn:n<m.jd.length)(p:Pnt):(zXt n m.jd[n] p).length<=1:=by
 grind [zYS,List.getElem_mem,zXt]
def zZK{m:zD}(h:zcp m)(h1:zXl m){n:Nat}(hn:n<m.jd.length)(v nl:Nat)(o:List Fnd)(pts cs:List Pnt)(hcs:∀p∈cs,zXq p=true)(hl:cs.length<=1000):∀(r:List Pnt) (i:Nat) (l:List Fnd),cs.drop i=r->i<=cs.length->l.length<=i ->
  Y L Cs zW6 (some [7,27,26,5,21,20,1,25,2,6]) 4 [(7,.w (.c (sl 3 5 (zWw l)))),(27,.w (W i)),(26,.w (W cs.length)),(5,.w (.c (oS 2 o))),(21,.w (W n)),(20,.w (W nl)),(1,.w (.c (.jb (zWs pts)))),(25,.w (.c (.jb (zWs cs)))),(2,.w (Pt 0)),(6,.w (W n))] [bx 5 (zf m),gb 5,oB v o,some (own 5 (zWw l))] =
    some (.exit 2,[(28,.w (Bo false)),(7,.w (.c (sl 3 5 (zWw (l++zXw n m.jd[n] r))))),(27,.w (W cs.length)),(26,.w (W cs.length)),(5,.w (.c (oS 2 o))),(21,.w (W n)),(20,.w (W nl)),(1,.w (.c (.jb (zWs pts)))),(25,.w (.c (.jb (zWs cs)))),(2,.w (Pt 0)),(6,.w (W n))],[bx 5 (zf m),gb 5,oB v o,some (own 5 (zWw (l++zXw n m.jd[n] r)))]):=by
 intro r;induction r with
 |nil =>
  intro i l hd hi ho;obtain rfl:=zUb hd hi;rw[ZfM zW6.eq_1];simp[zXw]
 |cons p r ih =>
  intro i l hd hi ho;obtain⟨hil,hs,hd'⟩:=zL hd;have hw:=zB (i:=i) wA;have hp:=hcs p (by rw[<-hs];exact jf hil);have hF:=z1F h h1 hn p hp;have hfl:=zZf h1 hn p;have kA:(l.length+1)*40<=140737488355328:=wA
  have hroom0:l.length*40<=140737488355328:=wA
  rw[show l++zXw n m.jd[n] (p::r)=(l++zXt n m.jd[n] p)++zXw n m.jd[n] r by simp[zXw],<-ih (i+1) (l++zXt n m.jd[n] p) hd' hil (by simp;omega),ZfM zW6.eq_1];generalize zXt n m.jd[n] p=ft at *;simp only[zf,zYi]at hF
  match ft,hfl with
  |[],_=>simp[hil,hs,hw,zf,zYi,hF,hroom0,zg,zH]
  |[f],_=>simp[hil,hs,hw,zf,zYi,zWN,hF,kA,zg,zH]
def Br(y x:Fnd):Fnd:=⟨y.lane,y.lo,max y.hi x.hi,min y.v1 x.v1,max y.v2 x.v2⟩
def grp(g:List Fnd)(x:Fnd):List Fnd:=match g.getLast? with
 |none=>[x]
 |some y=>if x.lo-y.hi<=500 then g.dropLast++[Br y x] else g++[x]
structure InB(f:Fnd):Prop where
 a:0<=f.lo/\f.lo<=10000000
 b:0<=f.hi/\f.hi<=10000000
theorem z0h(g:List Fnd)(x:Fnd):(grp g x).length<=g.length+1:=by
 grind [grp]
def z1j{g:List Fnd}{x:Fnd}(hg:∀y∈g,InB y)(hx:InB x):∀y∈grp g x,InB y:=by
 intro z hz;unfold grp at hz;split at hz
 ·grind
 ·rename_i y hy;split at hz
  ·simp only[jL,jB]at hz;rcases hz with hz|rfl
   ·grind [List.dropLast_subset]
   ·have:=hg y (List.mem_of_getLast? hy);exact⟨this.a,by have h1:=this.b;have h2:=hx.b;grind [Br]⟩
  grind
abbrev lB(v:Nat)(s:List Fnd):Option Blk:=oB v s
def zYG{m:zD}(n nl w:Nat)(fo:List Fnd)(hfo:fo.length<=100000)(pts:List Pnt)(s:List Fnd)(hsB:∀x∈s,InB x)(hl:s.length<=1000):∀(r:List Fnd) (i v:Nat) (g:List Fnd),s.drop i=r->i<=s.length->g.length<=i->(∀y∈g,InB y) ->
  ∃v',Y L Cs zWH (some [44,43,2,1,20,21,42,10,5]) 4 [(44,.w (W i)),(43,.w (W s.length)),(2,.w (Pt 0)),(1,.w (.c (.jb (zWs pts)))),(20,.w (W nl)),(21,.w (W n)),(42,.w (.c (oS 3 s))),(10,.w (W fo.length)),(5,.w (.c (oS 2 (fo++g))))] [bx 5 (zf m),gb 5,oB v (fo++g),lB w s] =
   some (.exit 4,[(45,.w (Bo false)),(44,.w (W s.length)),(43,.w (W s.length)),(2,.w (Pt 0)),(1,.w (.c (.jb (zWs pts)))),(20,.w (W nl)),(21,.w (W n)),(42,.w (.c (oS 3 s))),(10,.w (W fo.length)),(5,.w (.c (oS 2 (fo++r.foldl grp g))))],[bx 5 (zf m),gb 5,oB v' (fo++r.foldl grp g),lB w s]):=by
 intro r;induction r with
 |nil =>
  intro i v g hd hi ho hg;obtain rfl:=zUb hd hi;refine⟨v,?_⟩;rw[ZfM zWH.eq_1];simp
 |cons x r ih =>
  intro i v g hd hi ho hg;obtain⟨hil,hs,hd'⟩:=zL hd;have hw:=zB (i:=i) wA;have hx:=hsB x (by rw[<-hs];exact jf hil);have hgl:=z0h g x;have hgB:=z1j hg hx;rcases uV g with rfl |⟨g',y,rfl⟩
  ·obtain⟨v',ih⟩:=ih (i+1) (v+1) [x] hd' hil wD (by simpa using hx);refine⟨v',?_⟩;rw[j8,show grp [] x=[x] from rfl,<-ih,ZfM zWH.eq_1];clear ih;have kA:(fo.length+1)*40<=140737488355328:=wA
   have e1:IntKind.i64.wrap ((fo.length:Int)-1)=(fo.length:Int)-1:=wr wA wA;have e2:¬((fo.length:Int)<=(fo.length:Int)-1):=wA
   simp[hil,hs,hw,zWN,kA,zg,zH,e1,e2,zf,oB,oS,lB]
  ·simp only[yh]at ho hg hgl hgB ⊢;have hy:=hg y wD;obtain⟨hya,hyb⟩:=hy.b;obtain⟨hxa,hxb⟩:=hx.a;have e3:IntKind.i64.wrap (x.lo-y.hi)=x.lo-y.hi:=wr wA wA;have hA:∀z:Fnd,zWw (fo++(g'++[z]))=zWw (fo++g')++[zWN z]:=fun z=>wD
   have hlen:∀z:Fnd,(fo++(g'++[z])).length=(fo++g').length+1:=fun z=>by simp;omega
   have hAl:(zWw (fo++g')).length=(fo++g').length:=zYf _;have hK1:fo.length<=(fo++g').length:=wD
   have hKb:(fo++g').length<=200000:=by simp at ho ⊢;omega
   by_cases c:x.lo-y.hi<=500
   ·have eg:grp (g'++[y]) x=g'++[Br y x]:=by simp[grp,c]
    rw[j8,eg];obtain⟨v',ih⟩:=ih (i+1) (v+3) (g'++[Br y x]) hd' hil (by simp at ho ⊢;omega) (by rw[<-eg];exact hgB);refine⟨v',?_⟩;simp only[oB,oS,lB,hA,hlen]at ih ⊢;rw[<-ih,ZfM zWH.eq_1];clear ih hgB hgl eg hA hlen;generalize zWw (fo++g')=A at *;generalize (fo++g').length=K at *;have kY:∀a:List Cl,(A++[a])[K]?=some a:=fun a=>by rw[<-hAl];simp
    have AP:∀a b:List Cl,(A++[a]).set K b=A++[b]:=fun a b=>by rw[<-hAl];simp
    have e1:IntKind.i64.wrap (((K+1:Nat):Int)-1)=(K:Int):=by rw[wr wA wA];omega
    have e1':IntKind.i64.wrap ((K:Int)+1-1)=(K:Int):=by rw[wr wA wA];omega
    have e1'':IntKind.i64.wrap (K:Int)=(K:Int):=wr wA wA;have e2:(fo.length:Int)<=(K:Int):=wA
    have hk1:(K:Int)<(K:Int)+1:=wA
    simp[hil,hs,hw,zWN,zg,zH,e1,e1',e1'',e2,e3,zf,kY,AP,c,hk1,hK1,zoU,Br,oB,oS,lB]
   ·have eg:grp (g'++[y]) x=g'++[y]++[x]:=by simp[grp,c]
    rw[j8,eg];obtain⟨v',ih⟩:=ih (i+1) (v+1) (g'++[y]++[x]) hd' hil (by simp at ho ⊢;omega) (by rw[<-eg];exact hgB);refine⟨v',?_⟩;have hA2:zWw (fo++(g'++[y]++[x]))=zWw (fo++g')++[zWN y]++[zWN x]:=wD
    have hlen2:(fo++(g'++[y]++[x])).length=(fo++g').length+2:=by simp;omega
    simp only[oB,oS,lB,hA,hA2,hlen,hlen2]at ih ⊢;rw[<-ih,ZfM zWH.eq_1];clear ih hgB hgl eg hA2 hlen2 hA hlen;generalize zWw (fo++g')=A at *;generalize (fo++g').length=K at *;have kY:∀a:List Cl,(A++[a])[K]?=some a:=fun a=>by rw[<-hAl];simp
    have e1:IntKind.i64.wrap (((K+1:Nat):Int)-1)=(K:Int):=by rw[wr wA wA];omega
    have e1':IntKind.i64.wrap ((K:Int)+1-1)=(K:Int):=by rw[wr wA wA];omega
    have e1'':IntKind.i64.wrap (K:Int)=(K:Int):=wr wA wA;have e2:(fo.length:Int)<=(K:Int):=wA
    have hk1:(K:Int)<(K:Int)+1:=wA
    have kA:(K+1+1)*40<=140737488355328:=wA
    have hKA:K<=A.length:=wA
    have htk:∀a:List Cl,(A++[a]).take (K+1)=A++[a]:=fun a=>jx (by simp;omega)
    simp[hil,hs,hw,zWN,zg,zH,e1,e1',e1'',e2,e3,zf,kY,c,hk1,hK1,kA,hKA,htk,zoU,oB,oS,lB]
def zqr(k key:Nat)(l:List (List Int)):(ziS k key l).Perm l:=by
 obtain⟨⟨h1,h2,h3⟩,_⟩:=znh k key l;unfold ziS;generalize Go.Sort.pdq (ltZ k key) l.toArray 0 l.length (zsn l.length) true true=d at *;have e1:d.size=l.length:=by simpa using h1
 have e2:d.extract 0 l.length=d:=by rw[<-e1];simp
 have e3:l.toArray.extract 0 l.length=l.toArray:=wD
 rw[e2,e3]at h3;simpa using h3
def Fnd.ints(f:Fnd):List Int:=[f.lane,f.lo,f.hi,f.v1,f.v2]
def zYR(l:List Int):Fnd:=⟨l.getD 0 0,l.getD 1 0,l.getD 2 0,l.getD 3 0,l.getD 4 0⟩
def zYJ(l:List Fnd):List Fnd:=(ziS 5 1 (l.map Fnd.ints)).map zYR
def zZa(l:List Fnd):(zYJ l).Perm l:=by
 have:=(zqr 5 1 (l.map Fnd.ints)).map zYR;simpa [zYJ,ya,yd,Fnd.ints,zYR]using this
theorem zX5(l:List Fnd):(zYJ l).length=l.length:=(zZa l).length_eq
def z09(l:List Fnd):zv2 5 1 (zWw l)=some (l.map Fnd.ints):=by
 induction l with
 |nil=>rfl
 |cons f l ih=>simp[zv2,zuC,zWN,ih,Fnd.ints,zgk]
def z0U(z:List Int):zsl 5 1 z=zWN (zYR z):=by simp[zsl,zWN,zYR,List.range,List.range.loop,zjS,zgk]
def z0K(l:List Fnd):(ziS 5 1 (l.map Fnd.ints)).map (zsl 5 1)=zWw (zYJ l):=by
 simp[zYJ,zWw,ya,yd,z0U]
def zZV:List.lookup zWy Cs=some (0,64*zWr+41,false):=by kernel_rfl
def z0m:L.lookup zWy=none:=by kernel_rfl
def zZS(w:Nat):R L Cs zWy [.c (oS 0 []),.c (.fn zWr [] [])] [oB w []]=some (.t [],[oB w []]):=by
 rw[zrP z0m];unfold uv;rw[zZV];have e1:(64*zWr+41) / 64=zWr:=wC
 simp[e1,zqs]
def z1u(l:List Fnd)(hl:l.length<=100000)(h0:l≠[])(w:Nat):R L Cs zWy [.c (oS 0 l),.c (.fn zWr [] [])] [oB w l]=some (.t [],[oB (w+1) (zYJ l)]):=by
 rw[zrP z0m];unfold uv;rw[zZV];have e1:(64*zWr+41) / 64=zWr:=wC
 have e2:(64*zWr+41) / 8 % 8=5:=wC
 have e3:(64*zWr+41) % 8=1:=wC
 have h1:l.length≠0:=by simpa using h0
 have h2:l.length<4611686018427387904:=wA
 have hz:=z09 l;have hr:=z0K l;have hd:List.drop l.length (zWw l)=[]:=ub wD;simp[e1,e2,e3,zqs,h0,h1,h2,hz,hr,hd,zX5]
structure Swp where
 lane:Int
 lo:Int
 hi:Int
 cap:Bool
 deriving DecidableEq
abbrev zpa:Swp:=⟨0,0,0,false⟩
def swC(s:Swp):List Cl:=[I s.lane,I s.lo,I s.hi,.bool s.cap]
def zbf(l:List Swp):List (List Cl):=l.map swC
@[simp] def zmB(l:List Swp):(zbf l).length=l.length:=by simp[zbf]
@[simp] def zoB:zbf []=[]:=rfl
@[simp] def zCn(x:Swp)(l:List Swp):zbf (x::l)=swC x::zbf l:=rfl
@[simp] def zsU(l k:List Swp):zbf (l++k)=zbf l++zbf k:=by simp[zbf]
@[simp] def zBa{l:List Swp}{i:Nat}(h:i<(zbf l).length):(zbf l)[i]=swC (l[i]'(by simpa using h)):=by simp[zbf]
@[simp] def zwp(l:List Swp)(k:Nat):(zbf l).take k=zbf (l.take k):=by simp[zbf,ym]
@[simp] def zCm(l:List Swp)(k:Nat):(zbf l).drop k=zbf (l.drop k):=by simp[zbf,List.map_drop]
def zji(s:Swp):List Int:=[s.lane,s.lo,s.hi,if s.cap then 1 else 0]
def ltS(a b:Swp):Bool:=zhX (zji a) (zji b)
def zz2(a b:Swp):ltS a b=(decide (a.lane<b.lane)||(decide (a.lane=b.lane)&&(decide (a.lo<b.lo)||(decide (a.lo=b.lo)&&(decide (a.hi<b.hi)||(decide (a.hi=b.hi)&&(!a.cap&&b.cap))))))):=by
 unfold ltS zji;cases a.cap<;>cases b.cap<;>simp[zhX]
def zik(l:List Int):Swp:=⟨l.getD 0 0,l.getD 1 0,l.getD 2 0,l.getD 3 0 !=0⟩
def zkt(s:Swp):zik (zji s)=s:=by
 cases s with |mk a b c d=>cases d<;>rfl
def zlg(l:List Swp):List Swp:=(ziS 4 7 (l.map zji)).map zik
theorem zsK(l:List Swp):(zlg l).Perm l:=by
 have:=(zqr 4 7 (l.map zji)).map zik;have e:List.map zik (List.map zji l)=l:=by rw[ya];simp[yd,zkt]
 rwa [e]at this
def zhh(l:List Swp):(zlg l).length=l.length:=(zsK l).length_eq
def zoH{k key:Nat}{l:List (List Int)}{x:List Int}(h:x∈ziS k key l):x∈l:=(zqr k key l).mem_iff.1 h
def zzf(l:List Swp):zv2 4 7 (zbf l)=some (l.map zji):=by
 induction l with
 |nil=>rfl
 |cons f l ih=>simp[zv2,zuC,swC,ih,zji,zgk]
def zBM(s:Swp):zsl 4 7 (zji s)=swC s:=by
 unfold zsl zji swC;cases s.cap<;>simp[List.range,List.range.loop,zjS,zgk]
def zx5(l:List Swp):(ziS 4 7 (l.map zji)).map (zsl 4 7)=zbf (zlg l):=by
 unfold zlg zbf;rw[ya];refine List.map_congr_left fun a ha=>?_
 obtain⟨x,_,rfl⟩:=jW.1 (zoH ha);simp only[yd,zkt,zBM]
def zv1:List.lookup zbb Cs=some (0,64*zar+39,false):=by kernel_rfl
def zxP:L.lookup zbb=none:=by kernel_rfl
abbrev swB(v:Nat)(o:List Swp):Option Blk:=some { box:=false,esz:=4,rows:=zbf o,gen:=o.length,fz:=false,ver:=v }
abbrev swS(id:Nat)(o:List Swp):Cl:=.slice id o.length 4 0 o.length none
def zvU(w:Nat):R L Cs zbb [.c (swS 0 []),.c (.fn zar [] [])] [swB w []]=some (.t [],[swB w []]):=by
 rw[zrP zxP];unfold uv;rw[zv1];have e1:(64*zar+39) / 64=zar:=wC
 simp[e1,zqs]
def zB0(l:List Swp)(hl:l.length<=100000000000)(h0:l≠[])(w:Nat):R L Cs zbb [.c (swS 0 l),.c (.fn zar [] [])] [swB w l]=some (.t [],[swB (w+1) (zlg l)]):=by
 rw[zrP zxP];unfold uv;rw[zv1];have e1:(64*zar+39) / 64=zar:=wC
 have e2:(64*zar+39) / 8 % 8=4:=wC
 have e3:(64*zar+39) % 8=7:=wC
 have h1:l.length≠0:=by simpa using h0
 have h2:l.length<4611686018427387904:=wA
 have hz:=zzf l;have hr:=zx5 l;have hd:List.drop l.length (zbf l)=[]:=ub wD;have ht:List.take l.length (zbf l)=zbf l:=jx wD;simp[e1,e2,e3,zqs,h0,h1,h2,hz,hr,hd,ht,zhh]
def zhp:List Swp->List Swp
 |[]=>[]
 |[x]=>[x]
 |x::y::l=>if x=y then zhp (y::l) else x::zhp (y::l)
theorem zrs:∀(l:List Swp) (z:Swp),z∈zhp l<->z∈l
 |[],z=>by simp[zhp]
 |[x],z=>by simp[zhp]
 |x::y::l,z=>by
  rw[zhp];have ih:=zrs (y::l) z;split
  ·next h=>subst h;rw[ih];simp
  ·rw[jK,ih];simp
abbrev zdQ(s:List Swp):Option Blk:=some (own 4 (zbf s))
def zDg{a b:Swp}(h:a≠b):(a.lane==b.lane&&(a.lo==b.lo&&(a.hi==b.hi&&a.cap==b.cap)))=false:=by
 cases a with |mk a1 a2 a3 a4=>cases b with |mk b1 b2 b3 b4 =>
 cases hh:(a1==b1&&(a2==b2&&(a3==b3&&a4==b4)))with
 |false=>rfl
 |true =>
  exfalso;simp only[jk,beq_iff_eq]at hh;obtain⟨rfl,rfl,rfl,rfl⟩:=hh;exact h rfl
def zrl{a b:Swp}(h:a≠b):zbM [false,false,false,true] [I a.lane,I a.lo,I a.hi,.bool a.cap] [I b.lane,I b.lo,I b.hi,.bool b.cap]=some false:=by
 have h1:=zDg h;by_cases c1:a.lane=b.lane
 ·by_cases c2:a.lo=b.lo
  ·by_cases c3:a.hi=b.hi
   ·have c4:(a.cap==b.cap)=false:=by
     rw[c1,c2,c3]at h1;simpa using h1
    simp[c1,c2,c3,c4]
   ·have c3':(a.hi==b.hi)=false:=by simp[c3]
    simp[c1,c2,c3']
  ·have c2':(a.lo==b.lo)=false:=by simp[c2]
   simp[c1,c2']
 ·have c1':(a.lane==b.lane)=false:=by simp[c1]
  simp[c1']
def zfM:Swp->List Swp->List Swp
 |_,[]=>[]
 |p,x::l=>if x=p then zfM x l else x::zfM x l
def zo0:∀(l:List Swp) (p:Swp),zhp (p::l)=p::zfM p l
 |[],p=>rfl
 |x::l,p=>by
  rw[zhp,zfM];by_cases h:p=x
  ·subst h;rw[if_pos rfl,if_pos rfl,zo0 l p]
  ·rw[if_neg h,if_neg (ko h),zo0 l x]
def zrr:∀(l:List Swp) (p:Swp),(zfM p l).length<=l.length
 |[],p=>jm _
 |x::l,p=>by
  have:=zrr l x
  grind [zfM]
@[simp] def zC8(l:List Swp)(i:Nat)(x:Swp):(zbf l).set i [I x.lane,I x.lo,I x.hi,.bool x.cap]=zbf (l.set i x):=by simp[zbf,List.map_set,swC]
def zvp(a:Swp):zbM [false,false,false,true] [I a.lane,I a.lo,I a.hi,.bool a.cap] [I a.lane,I a.lo,I a.hi,.bool a.cap]=some true:=wD
abbrev zyZ(S:List Swp)(k j k0 m2:Nat):Env:=[(3,.w (W k)),(5,.w (W j)),(0,.w (.c (.slice 0 S.length 4 0 S.length none))),(4,.w (.c (.slice 0 S.length 4 k0 m2 none)))]
def zAy(k0 m2 n:Nat)(hn:k0+m2=n)(hn2:n<=900000000000):∀(r:List Swp) (p:Swp) (S:List Swp) (k j v:Nat),S.length=n->1<=j->k<=k0+j-1->S.drop (k0+j-1)=p::r ->
  ∃S' v' k',k'<=n/\S'.length=n/\S'.take k'=S.take k++zfM p r/\k'=k+(zfM p r).length/\v<=v'/\(v'=v->S'=S/\k'=k) /\
   Y L Cs zbU (some [3,5,0,4]) 2 (zyZ S k j k0 m2) [swB v S,gb 4]=some (.exit 2,(32,.w (Bo false))::zyZ S' k' m2 k0 m2,[swB v' S',gb 4]):=by
 intro r;induction r with
 |nil =>
  intro p S k j v hS hj hk hd;have hl:=congrArg List.length hd;simp at hl;have hjm:j=m2:=wA
  subst hjm;refine⟨S,v,k,wA,hS,by simp[zfM],by simp[zfM],jm _,fun _=>⟨rfl,rfl⟩,?_⟩;rw[ZfM zbU.eq_1];simp
 |cons x r ih =>
  intro p S k j v hS hj hk hd;have hl:=congrArg List.length hd;simp at hl;obtain⟨hJ,hp,hd'⟩:=zL hd;have hJ1:k0+j-1+1=k0+j:=wA
  rw[hJ1]at hd';obtain⟨hJ',hx,hd''⟩:=zL hd';have hjm:j<m2:=wA
  have hw:=zB (i:=j) wA;have hwk:=zB (i:=k) wA;obtain⟨j',rfl⟩:∃t,j=t+1:=⟨j-1,wA⟩;have hw1:IntKind.i64.wrap (((j'+1:Nat):Int)-1)=(j':Int):=by rw[zTd _ wA wA];omega
  have e1:k0+(j'+1)-1=k0+j':=wA
  have hp2:S[k0+j']'wA=p:=by simpa [e1]using hp
  have hjt:((j'+1:Nat):Int).toNat=j'+1:=wA
  by_cases c:x=p
  ·subst c;obtain⟨S',v',k',h0,h1,h2,h3,h4,h6,h5⟩:=ih x S k (j'+1+1) v hS wA wA (by rw[<-hd'];congr 1);have e2:zfM x (x::r)=zfM x r:=by rw[zfM,if_pos rfl]
   rw[e2];refine⟨S',v',k',h0,h1,h2,h3,h4,h6,?_⟩;rw[<-h5,ZfM zbU.eq_1];have heq:=zvp x;have hj'm:j'<m2:=wA
   have hjS:k0+(j'+1)<S.length:=wA
   have hjS2:k0+j'<S.length:=wA
   simp[hjm,hw,hw1,hx,hp2,swC,heq,hjt,hj'm,hjS,hjS2,zyZ,swB,-zbM,-Int.natCast_add]
  ·have hkS:k<S.length:=wA
   obtain⟨S',v',k',h0,h1,h2,h3,h4,h6,h5⟩:=ih x (S.set k x) (k+1) (j'+1+1) (v+1) (by simpa using hS) wA wA (by
    rw[List.drop_set_of_lt wA,<-hd'];congr 1)
   have e2:zfM p (x::r)=x::zfM x r:=by rw[zfM,if_neg c]
   rw[e2];have e3:(S.set k x).take (k+1)=S.take k++[x]:=by
    rw[uq,List.take_set_of_le (jm _)];simp[hkS]
   refine⟨S',v',k',h0,h1,by rw[h2,e3];simp,by rw[h3];simp;omega,wA,fun h=>wA,?_⟩;have heq:=zrl c;have hj'm:j'<m2:=wA
   have hjS:k0+(j'+1)<S.length:=wA
   have hjS2:k0+j'<S.length:=wA
   have hS2:(S.set k x).length=S.length:=wD
   rw[<-h5,ZfM zbU.eq_1];simp[hjm,hw,hwk,hw1,hx,hp2,swC,heq,hjt,hj'm,hjS,hjS2,hkS,hS2,zyZ,swB,-zbM,-Int.natCast_add]
@[simp] def zC9(n:Nat):List.replicate n [I 0,I 0,I 0,.bool false]=zbf (List.replicate n zpa):=by simp[zbf,swC]
def zAx(S:List Swp)(hn2:S.length<=900000000000)(v:Nat):∀(r:List Swp) (p:Swp) (k:Nat),1<=k->S.drop (k-1)=p::r ->
  (zfM p r=r/\Y L Cs zaF (some [3,0]) 2 [(3,.w (W k)),(0,.w (.c (swS 0 S)))] [swB v S,gb 4]=some (.exit 0,[(13,.w (Bo false)),(3,.w (W S.length)),(0,.w (.c (swS 0 S)))],[swB v S,gb 4])) \/
  (∃S' v',S'.length=S.length/\S'.take (k+(zfM p r).length)=S.take k++zfM p r/\v<v'/\(zfM p r).length<r.length /\
   Y L Cs zaF (some [3,0]) 2 [(3,.w (W k)),(0,.w (.c (swS 0 S)))] [swB v S,gb 4]=some (.ret,[(2,.w (.c (.slice 0 S.length 4 0 (k+(zfM p r).length) none)))],[swB v' S',gb 4])):=by
 intro r;induction r with
 |nil =>
  intro p k hk hd;have hl:=congrArg List.length hd;simp at hl;have hjm:k=S.length:=wA
  subst hjm;refine .inl ⟨rfl,?_⟩;rw[ZfM zaF.eq_1];simp
 |cons x r ih =>
  intro p k hk hd;have hl:=congrArg List.length hd;simp at hl;obtain⟨hJ,hp,hd'⟩:=zL hd;obtain⟨k',rfl⟩:∃t,k=t+1:=⟨k-1,wA⟩;simp only[vN]at hJ hp hd' hd;obtain⟨hJ',hx,hd''⟩:=zL hd';have hw:=zB (i:=k'+1) wA;have hw1:IntKind.i64.wrap (((k'+1:Nat):Int)-1)=(k':Int):=by rw[zTd _ wA wA];omega
  have hkt:((k'+1:Nat):Int).toNat=k'+1:=wA
  by_cases c:x=p
  ·subst c;right;have e2:zfM x (x::r)=zfM x r:=by rw[zfM,if_pos rfl]
   obtain⟨S',v',q,h0,h1,h2,h3,h4,_,h5⟩:=zAy (k'+1) (S.length-(k'+1)) S.length wA hn2 r x S (k'+1) 1 v rfl (jm _) wA (by simpa using hd');have hcl:=zrr r x;rw[e2,<-h3];have hq:q<S.length:=by simp at hl;omega
   refine⟨S'.take q++List.replicate (S.length-q) zpa,v'+1,by simp;omega,by rw[uJ (by simp;omega),AH,Nat.min_self,h2],wA,by simp;omega,?_⟩;have heq:=zvp x;have hz:S.length-q≠0:=wA
   have hqn:q<=S.length:=wA
   have hqi:(q:Int)<=(S.length:Int):=wA
   have hki:((k'+1:Nat):Int)<=(S.length:Int):=wA
   have hkn:k'+1<=S.length:=wA
   have hdrop:S'.drop (q+(S.length-q))=[]:=ub wA;have hqe:q+(S.length-q)=S.length:=wA
   rw[hqe]at hdrop;have CH:min q S.length=q:=wA
   simp only[zyZ,kg]at h5;rw[ZfM zaF.eq_1];simp[zgI,hJ,hJ',hx,hp,hw1,hkt,swC,heq,h5,h1,hz,hqn,hqi,hki,hkn,hdrop,hqe,CH,zyZ,swB,-zbM,-Int.natCast_add]
  ·have heq:=zrl c;have e2:zfM p (x::r)=x::zfM x r:=by rw[zfM,if_neg c]
   have yR:Y L Cs zaF (some [3,0]) 2 [(3,.w (W (k'+1:Nat))),(0,.w (.c (swS 0 S)))] [swB v S,gb 4]=Y L Cs zaF (some [3,0]) 2 [(3,.w (W (k'+1+1:Nat))),(0,.w (.c (swS 0 S)))] [swB v S,gb 4]:=by
    rw[ZfM zaF.eq_1];simp[hJ,hJ',hx,hp,hw,hw1,hkt,swC,heq,swB,-zbM,-Int.natCast_add]
   have hS1:S.take (k'+1+1)=S.take (k'+1)++[x]:=by rw[uq];simp[hJ',hx]
   rw[yR,e2];rcases ih x (k'+1+1) wA (by simpa using hd')with⟨h1,h2⟩ |⟨S',v',h1,h2,h3,h4,h5⟩
   ·exact .inl ⟨by rw[h1],h2⟩
   ·refine .inr ⟨S',v',h1,?_,h3,by simpa using h4,?_⟩
    ·have e3:k'+1+(x::zfM x r).length=k'+1+1+(zfM x r).length:=by simp;omega
     rw[e3,h2,hS1];simp
    ·have e3:k'+1+(x::zfM x r).length=k'+1+1+(zfM x r).length:=by simp;omega
     rw[e3,h5]
def zrS(S:List Swp)(hn2:S.length<=900000000000)(v:Nat):∃S' v',S'.length=S.length/\S'.take (zhp S).length=zhp S/\v<=v'/\(v'=v->S'=S)/\(zhp S).length<=S.length /\
  R L Cs zeD [.c (swS 0 S)] [swB v S]=some (.w (.c (.slice 0 S.length 4 0 (zhp S).length none)),[swB v' S']):=by
 have hshort:S.length<2->R L Cs zeD [.c (swS 0 S)] [swB v S]=some (.w (.c (swS 0 S)),[swB v S]):=by
  intro c;have c':(S.length:Int)<2:=wA
  rw[zUa zcq rfl];simp[zbk,c,c',zg]
 match S,hn2,hshort with
 |[],_,hs=>exact⟨[],v,rfl,rfl,jm _,fun _=>rfl,jm _,hs wD⟩
 |p::r,hn2,_ =>
  have c1:=zo0 r p;by_cases hr:r=[]
  ·subst hr;exact⟨[p],v,rfl,rfl,jm _,fun _=>rfl,jm _,by
    rw[zUa zcq rfl];simp[zbk,zg,zhp]⟩
  ·have hl:0<r.length:=kD.2 hr;have c:¬((p::r).length:Int)<2:=by simp;omega
   have c':¬(p::r).length<2:=wA
   have hlen:(zhp (p::r)).length=1+(zfM p r).length:=by rw[c1];simp;omega
   rcases zAx (p::r) hn2 v r p 1 (jm _) rfl with⟨h1,h2⟩ |⟨S',v',h1,h2,h3,h4,h5⟩
   ·refine⟨p::r,v,rfl,by rw[c1,h1];simp,jm _,fun _=>rfl,by rw[c1,h1];simp,?_⟩;rw[hlen,h1];simp only[kg]at h2;generalize hS:p::r=S at *;have e:1+r.length=S.length:=by rw[<-hS];simp;omega
    rw[e,zUa zcq rfl];simp[zbk,zg,c,c',h2]
   ·refine⟨S',v',h1,by rw[hlen,h2,c1];simp,wA,fun h=>wA,by simp;omega,?_⟩;rw[hlen];simp only[kg]at h5;generalize hS:p::r=S at *;rw[zUa zcq rfl];simp[zbk,zg,c,c',h5]
def zkr(m:zD)(e:Ego)(len:Int)(l:List Int)(bs:List zk):List zk:=if e.shi-len<=e.slo then zpO m e len 0 l bs else bs
def zor{m:zD}(h:zcp m)(l:List Int)(hl:l.length<=8)(hon:zj2 m l)(len:Int)(e:Ego)(he:-1000000000000000<=e.slo/\e.slo<=1000000000000000/\-1000000000000000<=e.shi/\e.shi<=1000000000000000)(hn:0<=len/\len<=20000)(bs:List zk)(hbb:bs.length*2 ^ l.length<=100000000000) :
  R L Cs zmR [.a (zh m l len),.c (.jb (zI bs)),.a (zch e)] []=some (.w (.c (.jb (zI (zkr m e len l bs)))),[]):=by
 have hg:=zCj m l len e he hn;have ho:=zzJ h l hl hon len e he hn l 0 bs 0 rfl (jr _) rfl wA wA hbb;simp only[zh,zi,jg,zch]at ho hg ⊢;rw[zUa zm2 rfl,zkr];by_cases c:e.shi-len<=e.slo
 ·simp[zed,hg,ho,c,zg]
 ·simp[zed,hg,c,zg]
def zlP{m:zD}(hs:zmX m){l:List Int}(hr:zdA m l=0):l.length<=2:=by
 match l,hr with
 |[],_=>simp
 |[_],_=>simp
 |[_,_],_=>simp
 |x::y::z::t,hr =>
  exfalso;have hg:goF m x (y::z::t)=true:=by
   cases hg:goF m x (y::z::t)with
   |true=>rfl
   |false=>simp[zdA,hg]at hr
  simp only[goF,jk,decide_eq_true_eq]at hg;have h1:y∈zS m x:=hg.1;have h2:z∈zS m y:=hg.2.1;rw[hs.leaf x y h1]at h2;cases h2
def zxI{m:zD}(h:zcp m):∀(r:List zk) (p:zk),zls m p r=0->∀b∈r,VB m b
 |[],_,_,b,hb=>by cases hb
 |x::r,p,hc,b,hb=>by
  unfold zls at hc;split at hc
  ·rename_i h1;exact absurd hc h1
  ·rename_i h1;have h1:zer m p x=0:=by simpa using h1
   rcases jK.1 hb with rfl|hb
   ·obtain⟨a1,a2,a3,a4,a5,a6,a7,a8,a9,a10,_,_⟩:=zui h h1;exact⟨⟨a1,a2⟩,a3,a4,a5,a6,a7,a8,⟨a9,a10⟩⟩
   ·exact zxI h r x hc b hb
def zxJ{m:zD}(h:zcp m){k:zci}(hc:zdf m k=0):∀b∈k.jZ,VB m b:=by
 unfold zdf at hc;split at hc
 ·cases hc
 ·exact zxI h _ _ hc
def zBO{m:zD}{x fr to:Int}{b:zk}(hb:VB m b):∀z∈zoX x fr to b,VB m z:=by
 intro z hz;unfold zoX at hz;split at hz
 ·simp only[jB]at hz;subst hz;exact hb
 ·rename_i hc;have a1:=hb.lo;have a2:=hb.le;have a3:=hb.hi;rcases jL.1 hz with hz|hz
  ·split at hz
   ·simp only[jB]at hz;subst hz;exact⟨hb.lane,hb.lo,by show b.lo<=fr-1;omega,by show fr-1<=z8 m b.lane;omega,hb.vlo,hb.vle,hb.vhi,hb.hold⟩
   ·cases hz
  ·split at hz
   ·simp only[jB]at hz;subst hz;exact⟨hb.lane,by show 0<=to+1;omega,by show to+1<=b.hi;omega,hb.hi,hb.vlo,hb.vle,hb.vhi,hb.hold⟩
   ·cases hz
theorem zxH{m:zD}{x fr to:Int}:∀(l:List zk),(∀b∈l,VB m b)->∀z∈zhn x fr to l,VB m z
 |[],_,z,hz=>by cases hz
 |b::l,h,z,hz=>by
  unfold zhn at hz;rcases jL.1 hz with hz|hz
  ·exact zBO (h b (js ..)) z hz
  ·exact zxH l (fun y hy=>h y (jE _ hy)) z hz
def zxu{m:zD}(e:Ego)(len:Int):∀(r:List Int) (a:Int) (l:List zk),(∀b∈l,VB m b)->∀z∈zpO m e len a r l,VB m z
 |[],_,l,h,z,hz=>h z hz
 |x::r,a,l,h,z,hz=>zxu e len r _ _ (zxH l h) z hz
def ztK{m:zD}(e:Ego)(len:Int)(r:List Int)(l:List zk)(h:∀b∈l,VB m b):∀z∈zkr m e len r l,VB m z:=by
 unfold zkr;split
 ·exact zxu e len r 0 l h
 ·exact h
theorem zij(m:zD)(e:Ego)(len:Int){r:List Int}(hr:r.length<=2)(l:List zk):(zkr m e len r l).length<=l.length*4:=by
 unfold zkr;split
 ·refine jT (zuX m e len r 0 l) (Nat.mul_le_mul_left _ ?_);exact u5 wC hr
 ·omega
def zvw{m:zD}(h:zcp m):∀(r:List zk) (p:zk),zls m p r=0->p.lane<m.jd.length->p.hi<=1000000->(r.length:Int)+(p.lane*1000002+p.hi+1)<=m.jd.length*1000002
 |[],p,_,h1,h2=>by simp only[jp];omega
 |x::r,p,hc,h1,h2=>by
  unfold zls at hc;split at hc
  ·rename_i hx;exact absurd hc hx
  ·rename_i hx;have hx:zer m p x=0:=by simpa using hx
   obtain⟨a1,a2,a3,a4,a5,a6,a7,a8,a9,a10,a11,a12⟩:=zui h hx;have ih:=zvw h r x hc a2 wA;simp only[zmM,not_or,not_and,Int.not_lt,Int.not_le]at a12;simp only[jl];by_cases e:x.lane=p.lane
   ·have:=a12.2 e;rw[e]at ih;omega
   ·omega
abbrev zox:List Cl:=[I 0,.jc,I 0,I 0,I 0,I 0]
abbrev bsC(id:Nat)(l:List zk):WV:=.c (.slice id l.length 6 0 l.length none)
abbrev swW(id:Nat)(l:List Swp):WV:=.c (.slice id l.length 4 0 l.length none)
abbrev stM(m:zD)(r:List Int)(len bar:Int)(e:Ego)(k:zci)(bs:List zk)(sw:List Swp):Mem:=[bx 11 (zh m r len),bx 6 (zG k),bx 6 zox,gb 4,bxv 1 4 (zch e),bxv 1 16 (zm m r len bar e),some (own 6 (zI bs)),zdQ sw]
abbrev zwh(m:zD)(r:List Int)(len bar:Int)(e:Ego)(k:zci)(bs:List zk)(sw:List Swp)(b x:zk):Mem:=[bx 11 (zh m r len),bx 6 (zG k),bx 6 zox,gb 4,bxv 1 4 (zch e),bxv 1 16 (zm m r len bar e),some (own 6 (zI bs)),zdQ sw,bxv 1 6 (ze b),bxv 1 6 (ze x)]
abbrev s1E(ow bs:List zk)(sw:List Swp)(i:Nat)(signals behind:Bool)(ls:List LB)(j:Nat):Env:=[(12,.w (bsC 6 bs)),(104,.w (W j)),(103,.w (W ls.length)),(50,.w (W i)),(49,.w (W ow.length)),(10,.w (Pt 4)),(8,.w (Pt 2)),(48,.w (.c (.jb (zI ow)))),(3,.w (Bo signals)),(11,.w (Pt 5)),(4,.w (Pt 0)),(5,.w (Pt 1)),(13,.w (swW 7 sw)),(19,.w (Bo behind)),(16,.w (Pt 9)),(15,.w (Pt 8)),(102,.w (.c (.jb (zdz ls))))]
def zwg(m:zD)(r:List Int)(len bar:Int)(e:Ego)(k:zci)(sw:List Swp)(b x:zk)(ow:List zk)(i:Nat)(signals behind:Bool)(ls:List LB)(hls:ls.length<=100):∀(t:List LB) (j:Nat) (bs:List zk),ls.drop j=t->j<=ls.length->bs.length+t.length<=100000000000 ->
  Y L Cs zc5 (some [12,104,103,50,49,10,8,48,3,11,4,5,13,19,16,15,102]) 10 (s1E ow bs sw i signals behind ls j) (zwh m r len bar e k bs sw b x) =
    some (.exit 2,(105,.w (Bo false))::s1E ow (bs++t.map Prod.fst) sw i signals behind ls ls.length,zwh m r len bar e k (bs++t.map Prod.fst) sw b x):=by
 intro t;induction t with
 |nil =>
  intro j bs hd hj hb;obtain rfl:=zUb hd hj;rw[ZfM zc5.eq_1];simp
 |cons z t ih =>
  intro j bs hd hj hb;obtain⟨hjl,hz,hd'⟩:=zL hd;have hw:=zB (i:=j) wA;simp only[jl]at hb;have kA:(bs.length+1)*48<=140737488355328:=wA
  have h:=ih (j+1) (bs++[z.1]) hd' wA (by simp;omega);have e1:bs++List.map Prod.fst (z::t)=bs++[z.1]++List.map Prod.fst t:=wD
  rw[e1,<-h,ZfM zc5.eq_1];simp[s1E,zwh,bsC,swW,zdQ,own,zh,zi,zG,zch,zm,ze,hjl,hz,hw,lbC,kA,zg]
abbrev zlJ(z:LB):Swp:=⟨z.1.lane,z.1.lo,z.1.hi,z.2⟩
abbrev s2E(ow bs:List zk)(sw:List Swp)(i:Nat)(signals:Bool)(ls:List LB)(j:Nat):Env:=[(13,.w (swW 7 sw)),(123,.w (W j)),(122,.w (W ls.length)),(5,.w (Pt 1)),(4,.w (Pt 0)),(12,.w (bsC 6 bs)),(11,.w (Pt 5)),(3,.w (Bo signals)),(48,.w (.c (.jb (zI ow)))),(8,.w (Pt 2)),(10,.w (Pt 4)),(49,.w (W ow.length)),(50,.w (W i)),(121,.w (.c (.jb (zdz ls))))]
def zwf(m:zD)(r:List Int)(len bar:Int)(e:Ego)(k:zci)(bs:List zk)(b x:zk)(ow:List zk)(i:Nat)(signals:Bool)(ls:List LB)(hls:ls.length<=100):∀(t:List LB) (j:Nat) (sw:List Swp),ls.drop j=t->j<=ls.length->sw.length+t.length<=100000000000 ->
  Y L Cs zc4 (some [13,123,122,5,4,12,11,3,48,8,10,49,50,121]) 10 (s2E ow bs sw i signals ls j) (zwh m r len bar e k bs sw b x) =
    some (.exit 4,(124,.w (Bo false))::s2E ow bs (sw++t.map zlJ) i signals ls ls.length,zwh m r len bar e k bs (sw++t.map zlJ) b x):=by
 intro t;induction t with
 |nil =>
  intro j sw hd hj hb;obtain rfl:=zUb hd hj;rw[ZfM zc4.eq_1];simp
 |cons z t ih =>
  intro j sw hd hj hb;obtain⟨hjl,hz,hd'⟩:=zL hd;have hw:=zB (i:=j) wA;simp only[jl]at hb;have kA:(sw.length+1)*32<=140737488355328:=wA
  have h:=ih (j+1) (sw++[zlJ z]) hd' wA (by simp;omega);have e1:sw++List.map zlJ (z::t)=sw++[zlJ z]++List.map zlJ t:=wD
  rw[e1,<-h,ZfM zc4.eq_1];simp[s2E,zwh,bsC,swW,zdQ,own,zh,zi,zG,zch,zm,ze,hjl,hz,hw,lbC,swC,kA,zg]
def mvF(m:zD)(zs:List Zon)(ss:List Sgn)(k:zci)(signals:Bool)(b:zk):zk:=zdC m (zeA zs ss b.lane k.tick) b signals (decide (b.lane∈zbK m 0 m.jd))
def zfP(m:zD)(r:List Int)(len:Int)(k:zci)(b:zk):Bool:=match zgo r b.lane with
 |some i=>decide (k.ego.shi-len<=k.ego.slo)&&decide (kM m r i+b.hi<k.ego.shi-len)
 |none=>false
def zm8(m:zD)(zs:List Zon)(ss:List Sgn)(r:List Int)(bar slo len:Int)(k:zci)(signals:Bool)(b:zk):List LB :=
 if(mvF m zs ss k signals b).lo<=(mvF m zs ss k signals b).hi then zlZ m r bar slo (mvF m zs ss k signals b) (mvF m zs ss k signals b).lo (mvF m zs ss k signals b).hi (zfP m r len k b) else []
def zn0(m:zD)(zs:List Zon)(ss:List Sgn)(r:List Int)(bar slo len:Int)(k:zci)(signals:Bool)(b:zk):List LB :=
 if(mvF m zs ss k signals b).lo<=(mvF m zs ss k signals b).hi then zlZ m r bar slo (mvF m zs ss k signals b) b.lo (mvF m zs ss k signals b).hi (zfP m r len k b) else []
def zwE{m:zD}(h:zcp m)(zs:List Zon)(ss:List Sgn)(k:zci)(signals:Bool){b:zk}(hb:VB m b):(mvF m zs ss k signals b).lane=b.lane/\0<=(mvF m zs ss k signals b).lo/\(mvF m zs ss k signals b).lo<=2000000/\0<=(mvF m zs ss k signals b).hi/\(mvF m zs ss k signals b).hi<=2000000:=by
 have ho:=zqQ h hb;have a1:=hb.lo;have a2:=hb.le;have p1:=ho.pos;have p2:=ho.s;have p3:=ho.f
 all_goals
  unfold mvF zdC;generalize hq:(if signals=true then(zeA zs ss b.lane k.tick).find? (zcY m b) else none)=q;cases q with
  |none=>grind
  |some l =>
   have hl:zcY m b l=true:=by
    grind
   simp only[zcY,jk,decide_eq_true_eq]at hl
   grind
abbrev s3E(ow bs:List zk)(sw:List Swp)(i:Nat)(signals:Bool):Env:=[(50,.w (W i)),(49,.w (W ow.length)),(10,.w (Pt 4)),(8,.w (Pt 2)),(48,.w (.c (.jb (zI ow)))),(3,.w (Bo signals)),(11,.w (Pt 5)),(13,.w (swW 7 sw)),(12,.w (bsC 6 bs)),(4,.w (Pt 0)),(5,.w (Pt 1))]
def zCW(m:zD)(l:List Int)(len:Int)(e:Ego)(he:znd e)(hn:0<=len/\len<=20000):R L Cs zhP [.a (zh m l len),.a (zch e)] []=some (.w (Bo (decide (e.shi-len<=e.slo))),[]):=zCj m l len e (by have:=he.s;omega) hn
def step3{m:zD}{zs:List Zon}{ss:List Sgn}(hf:zmq m zs ss){r:List Int}{bar:Int}(h:ziO m r bar)(len:Int)(hn:0<=len/\len<=20000)(e:Ego)(k:zci)(he:znd k.ego)(ow:List zk)(signals:Bool)(i:Nat)(hi:i<ow.length)(hi2:i<100000000000)(hb:VB m ow[i])(bs:List zk)(sw:List Swp)(hbs:bs.length<=99000000000)(hsw:sw.length<=99000000000) :
  Y L Cs zan (some [50,49,10,8,48,3,11,13,12,4,5]) 8 (s3E ow bs sw i signals) (stM m r len bar e k bs sw) =
    Y L Cs zan (some [50,49,10,8,48,3,11,13,12,4,5]) 8 (s3E ow (bs++(zm8 m zs ss r bar e.slo len k signals ow[i]).map Prod.fst) (sw++(zn0 m zs ss r bar e.slo len k signals ow[i]).map zlJ) (i+1) signals) (stM m r len bar e k (bs++(zm8 m zs ss r bar e.slo len k signals ow[i]).map Prod.fst) (sw++(zn0 m zs ss r bar e.slo len k signals ow[i]).map zlJ)):=by
 have hw:=zB (i:=i) wA;have hs:=hf.yn;have hmv:R L Cs zgV [.a (zh m r len),.a (ze ow[i]),W k.tick,Bo signals] []=some (.t [.a (ze (mvF m zs ss k signals ow[i])),Bo (decide ((mvF m zs ss k signals ow[i]).lo<=(mvF m zs ss k signals ow[i]).hi))],[]):=zAU hf r len ow[i] hb k.tick signals;have hbd:=zwE h.qO zs ss k signals hb;have De:=zCW m r len k.ego he hn;have hix:=zoq r ow[i].lane (by have:=h.len;omega);have hbl:=hb.lane;have uo:=(zqQ h.qO hb).pos;have hlo:=hb.lo;have hhi:=hb.le;have hes:=he.s;generalize hbe:ow[i]=b at *;unfold zm8 zn0;generalize hmm:mvF m zs ss k signals b=mv at *;have hml:0<=mv.lane/\mv.lane<m.jd.length:=by grind
 have hla:=zCi h hs len e mv hml mv.lo mv.hi wA wA (zfP m r len k b);have hlb:=zCi h hs len e mv hml b.lo mv.hi wA wA (zfP m r len k b);have hA:=zjI hs r bar e.slo mv mv.lo mv.hi (zfP m r len k b);have hB:=zjI hs r bar e.slo mv b.lo mv.hi (zfP m r len k b);generalize zlZ m r bar e.slo mv mv.lo mv.hi (zfP m r len k b)=la at *;generalize zlZ m r bar e.slo mv b.lo mv.hi (zfP m r len k b)=lb at *;have h1:=zwg m r len bar e k sw b mv ow i signals (zfP m r len k b) la wA la 0 bs rfl (jr _) wA;have h2:=zwf m r len bar e k (bs++la.map Prod.fst) b mv ow i signals lb wA lb 0 sw rfl (jr _) wA;have w1:=qB (k.ego.shi-len);simp only[zh,zi,zch,zm,ze,zG,jh,je]at hmv De hla hlb;simp only[s1E,s2E,zwh,bsC,swW,zdQ,own,zh,zi,zch,zm,ze,zG,jh,je,jg,znQ,jF,kl,zgg,zmB,zsU]at h1 h2;by_cases c:mv.lo<=mv.hi
 ·rw[if_pos c,if_pos c];have c':decide (mv.lo<=mv.hi)=true:=by grind
  rw[c']at hmv;cases hL:zgo r b.lane with
  |none =>
   have CI:zfP m r len k b=false:=by grind [zfP]
   rw[hL]at hix;simp only[zbe]at hix;rw[CI]at hla hlb h1;rw[ZfM zan.eq_1];simp[s3E,stM,bsC,swW,zdQ,own,zh,zi,zch,zm,ze,zG,hi,hbe,hw,hmv,hix,hla,hlb,h1,h2,zg]
  |some j =>
   obtain⟨hjl,_⟩:=zfT hL;have hsl:j<(zW m 0 r).length:=by grind [zcO]
   have hsi:(zW m 0 r)[j]=kM m r j:=by simp[kM,hsl]
   have hsb:=zmA h hjl;have w2:=qB (kM m r j+b.hi);have hj0:(0:Int)<=(j:Int):=wA
   rw[hL]at hix;simp only[zbe]at hix;by_cases g:k.ego.shi-len<=k.ego.slo
   ·have g':decide (k.ego.shi-len<=k.ego.slo)=true:=by simpa using g
    rw[g']at De;by_cases d:kM m r j+b.hi<k.ego.shi-len
    ·have CI:zfP m r len k b=true:=by simp[zfP,hL,g,d]
     rw[CI]at hla hlb h1;rw[ZfM zan.eq_1];simp[s3E,stM,bsC,swW,zdQ,own,zh,zi,zch,zm,ze,zG,hi,hbe,hw,hmv,hix,hla,hlb,h1,h2,zg,De,hsl,hsi,w1,w2,d,hj0]
    ·have CI:zfP m r len k b=false:=by simp[zfP,hL,d]
     rw[CI]at hla hlb h1;rw[ZfM zan.eq_1];simp[s3E,stM,bsC,swW,zdQ,own,zh,zi,zch,zm,ze,zG,hi,hbe,hw,hmv,hix,hla,hlb,h1,h2,zg,De,hsl,hsi,w1,w2,d,hj0]
   ·have g':decide (k.ego.shi-len<=k.ego.slo)=false:=by simpa using g
    rw[g']at De;have CI:zfP m r len k b=false:=by simp[zfP,hL,g]
    rw[CI]at hla hlb h1;rw[ZfM zan.eq_1];simp[s3E,stM,bsC,swW,zdQ,own,zh,zi,zch,zm,ze,zG,hi,hbe,hw,hmv,hix,hla,hlb,h1,h2,zg,De,hsl,hsi,w1,w2,hj0]
 ·rw[if_neg c,if_neg c];have c':decide (mv.lo<=mv.hi)=false:=by simpa using c
  rw[c']at hmv;rw[ZfM zan.eq_1];simp[s3E,stM,bsC,swW,zdQ,own,zh,zi,zch,zm,ze,zG,hi,hbe,hw,hmv,zg]
def zoO{m:zD}(hs:zmX m)(zs:List Zon)(ss:List Sgn)(r:List Int)(bar slo len:Int)(k:zci)(signals:Bool)(b:zk):(zm8 m zs ss r bar slo len k signals b).length<=3:=by
 unfold zm8;split
 ·exact zjI hs ..
 ·simp
def zoN{m:zD}(hs:zmX m)(zs:List Zon)(ss:List Sgn)(r:List Int)(bar slo len:Int)(k:zci)(signals:Bool)(b:zk):(zn0 m zs ss r bar slo len k signals b).length<=3:=by
 unfold zn0;split
 ·exact zjI hs ..
 ·simp
def zgt(m:zD)(zs:List Zon)(ss:List Sgn)(r:List Int)(bar slo len:Int)(k:zci)(signals:Bool)(t:List zk):List zk:=t.flatMap fun b=>(zm8 m zs ss r bar slo len k signals b).map Prod.fst
def zhM(m:zD)(zs:List Zon)(ss:List Sgn)(r:List Int)(bar slo len:Int)(k:zci)(signals:Bool)(t:List zk):List Swp:=t.flatMap fun b=>(zn0 m zs ss r bar slo len k signals b).map zlJ
def zxY{m:zD}(hs:zmX m)(zs:List Zon)(ss:List Sgn)(r:List Int)(bar slo len:Int)(k:zci)(signals:Bool)(t:List zk):(zgt m zs ss r bar slo len k signals t).length<=3*t.length:=by
 induction t with
 |nil=>simp[zgt]
 |cons b t ih =>
  have:=zoO hs zs ss r bar slo len k signals b;simp only[zgt,kG,jF,kl,jl]at ih ⊢;omega
def zoA{m:zD}(hs:zmX m)(zs:List Zon)(ss:List Sgn)(r:List Int)(bar slo len:Int)(k:zci)(signals:Bool)(t:List zk):(zhM m zs ss r bar slo len k signals t).length<=3*t.length:=by
 induction t with
 |nil=>simp[zhM]
 |cons b t ih =>
  have:=zoN hs zs ss r bar slo len k signals b;simp only[zhM,kG,jF,kl,jl]at ih ⊢;omega
def zwe{m:zD}{zs:List Zon}{ss:List Sgn}(hf:zmq m zs ss){r:List Int}{bar:Int}(h:ziO m r bar)(len:Int)(hn:0<=len/\len<=20000)(e:Ego)(k:zci)(he:znd k.ego)(ow:List zk)(hvb:∀b∈ow,VB m b)(how:ow.length<=800000000)(signals:Bool):∀(t:List zk) (i:Nat) (bs:List zk) (sw:List Swp),ow.drop i=t->i<=ow.length->bs.length<=3*i->sw.length<=3*i ->
  Y L Cs zan (some [50,49,10,8,48,3,11,13,12,4,5]) 8 (s3E ow bs sw i signals) (stM m r len bar e k bs sw) =
    some (.exit 0,(51,.w (Bo false))::s3E ow (bs++zgt m zs ss r bar e.slo len k signals t) (sw++zhM m zs ss r bar e.slo len k signals t) ow.length signals,stM m r len bar e k (bs++zgt m zs ss r bar e.slo len k signals t) (sw++zhM m zs ss r bar e.slo len k signals t)):=by
 intro t;induction t with
 |nil =>
  intro i bs sw hd hi h1 h2;obtain rfl:=zUb hd hi;rw[ZfM zan.eq_1];simp[zgt,zhM]
 |cons b t ih =>
  intro i bs sw hd hi h1 h2;obtain⟨hil,hb,hd'⟩:=zL hd;have l1:=zoO hf.yn zs ss r bar e.slo len k signals b;have l2:=zoN hf.yn zs ss r bar e.slo len k signals b;rw[step3 hf h len hn e k he ow signals i hil wA (hvb _ (jf hil)) bs sw wA wA,hb,ih (i+1) _ _ hd' wA (by simp;omega) (by simp;omega)];simp[zgt,zhM]
def zqn(r0 bar x:Int):Bool:=decide (x≠r0)||decide (0<=bar)
def zfb(m:zD)(r0 bar x:Int):List zk:=if zqn r0 bar x=true then [⟨x,0,0,0,zeR (zaK m x),0⟩] else []
def zqS(m:zD)(x:Int):∀(t:List zfn) (i:Nat),x∈zbK m i t<->∃j:Nat,j<t.length/\x=((i+j:Nat):Int)/\zes x 0 m.jd=[]
 |[],i=>by simp[zbK]
 |l::t,i=>by
  have ih:=zqS m x t (i+1);have step:(∃j:Nat,j<(l::t).length/\x=((i+j:Nat):Int)/\zes x 0 m.jd=[])<->(x=(i:Int)/\zes x 0 m.jd=[])\/x∈zbK m (i+1) t:=by
   rw[ih];constructor
   ·rintro⟨j,h1,h2,h3⟩;cases j with
    |zero=>exact .inl ⟨by simpa using h2,h3⟩
    |succ j=>exact .inr ⟨j,by simpa using h1,by rw[h2];congr 1;omega,h3⟩
   ·rintro(⟨h1,h2⟩ |⟨j,h1,h2,h3⟩)
    ·exact⟨0,wD,by simpa using h1,h2⟩
    ·exact⟨j+1,by simp;omega,by rw[h2];congr 1;omega,h3⟩
  rw[step,zbK];split
  ·next hb =>
   rw[jK];constructor
   ·rintro(h|h)
    ·exact .inl ⟨h,by rw[h];exact hb⟩
    ·exact .inr h
   ·rintro(⟨h,_⟩|h)
    ·exact .inl h
    ·exact .inr h
  ·next hb =>
   constructor
   ·exact .inr
   ·rintro(⟨h,h2⟩|h)
    ·rw[h]at h2;exact absurd h2 hb
    ·exact h
abbrev srT(m:zD):List Bool:=zkj (List.replicate m.jd.length false) (zbK m 0 m.jd)
def zxq(m:zD):(srT m).length=m.jd.length:=by rw[srT,znN];simp
def zBi(m:zD)(i:Nat)(hi:i<(srT m).length):(srT m)[i]=decide (zes (i:Int) 0 m.jd=[]):=by
 have hl:i<m.jd.length:=by rw[<-zxq m];exact hi
 have h:=zqp (zbK m 0 m.jd) (List.replicate m.jd.length false) i (by simpa using hl) (fun x hx=>by
  obtain⟨j,_,h,_⟩:=(zqS m x m.jd 0).1 hx;rw[h];omega)
 have e1:(zkj (List.replicate m.jd.length false) (zbK m 0 m.jd)).getD i false=(srT m)[i]:=by
  rw[jG,jq hi];rfl
 rw[e1]at h;rw[h];have e2:(List.replicate m.jd.length false).getD i false=false:=by simp[jG,hl]
 rw[e2,ux];have:((i:Int)∈zbK m 0 m.jd)<->zes (i:Int) 0 m.jd=[]:=by
  rw[zqS];constructor
  ·rintro⟨j,_,h2,h3⟩;exact h3
  ·intro h3;exact⟨i,hl,wD,h3⟩
 simp[this]
abbrev s4E(T:List Bool)(bs:List zk)(sw:List Swp)(i:Nat):Env:=[(12,.w (bsC 6 bs)),(147,.w (W i)),(146,.w (W T.length)),(8,.w (Pt 2)),(10,.w (Pt 4)),(13,.w (swW 7 sw)),(5,.w (Pt 1)),(145,.w (.c (.jb (zgU T)))),(11,.w (Pt 5)),(4,.w (Pt 0))]
def zwd{m:zD}(h:zcp m)(x0:Int)(r:List Int)(len bar:Int)(e:Ego)(k:zci)(sw:List Swp)(T:List Bool)(hl:T.length=m.jd.length)(hTT:∀(i:Nat) (h:i<T.length),T[i]=decide (zes (i:Int) 0 m.jd=[])):∀(t:List zfn) (i:Nat) (bs:List zk),m.jd.drop i=t->i<=m.jd.length->bs.length+t.length<=100000000000 ->
  Y L Cs zbd (some [12,147,146,8,10,13,5,145,11,4]) 8 (s4E T bs sw i) (stM m (x0::r) len bar e k bs sw) =
    some (.exit 6,(148,.w (Bo false))::s4E T (bs++(zbK m i t).flatMap (zfb m x0 bar)) sw T.length,stM m (x0::r) len bar e k (bs++(zbK m i t).flatMap (zfb m x0 bar)) sw):=by
 intro t;induction t with
 |nil =>
  intro i bs hd hi hb;obtain rfl:=zUb hd hi;rw[ZfM zbd.eq_1];simp[zbK,hl]
 |cons z t ih =>
  intro i bs hd hi hb;obtain⟨hil,hz,hd'⟩:=zL hd;simp only[jl]at hb;have hw:=zB (i:=i) (by have:=h.small.jd;omega);have hiT:i<T.length:=by rw[hl];exact hil
  have hT:=hTT i hiT;have hB:=zmo (h.kind _ (jf hil));have ek:zaK m i=m.jd[i].kind:=by simp[zaK,hil]
  have kA:(bs.length+1)*48<=140737488355328:=wA
  have e0:(m.jd.map zo)[i]'(by simpa using hil)=zo m.jd[i]:=wD
  rw[zbK];by_cases hbf:zes (i:Int) 0 m.jd=[]
  ·rw[if_pos hbf,kG];rw[decide_eq_true hbf]at hT;by_cases c1:(i:Int)=x0
   ·subst c1;by_cases c2:0<=bar
    ·have hs:zfb m i bar i=[⟨i,0,0,0,zeR m.jd[i].kind,0⟩]:=by simp[zfb,zqn,c2,ek]
     have:=ih (i+1) (bs++[⟨i,0,0,0,zeR m.jd[i].kind,0⟩]) hd' wA (by simp;omega);rw[hs,<-jM,<-this,ZfM zbd.eq_1];simp[s4E,stM,bsC,swW,zdQ,own,zh,zi,zch,zm,zG,zo,ze,hl,hil,hiT,hT,hB,hw,c2,kA,zg]
    ·have hs:zfb m i bar i=[]:=by simp[zfb,zqn,c2]
     have:=ih (i+1) bs hd' wA wA;rw[hs,je,<-this,ZfM zbd.eq_1];simp[s4E,stM,bsC,swW,zdQ,own,zh,zi,zch,zm,zG,zo,ze,hl,hil,hiT,hT,hB,hw,c2,kA,zg]
   ·have hs:zfb m x0 bar i=[⟨i,0,0,0,zeR m.jd[i].kind,0⟩]:=by simp[zfb,zqn,c1,ek]
    have c1':((i:Int)==x0)=false:=by simp[c1]
    have c1'':((i:Int) !=x0)=true:=by simp[c1]
    have:=ih (i+1) (bs++[⟨i,0,0,0,zeR m.jd[i].kind,0⟩]) hd' wA (by simp;omega);rw[hs,<-jM,<-this,ZfM zbd.eq_1];simp[s4E,stM,bsC,swW,zdQ,own,zh,zi,zch,zm,zG,zo,ze,hl,hil,hiT,hT,hB,hw,c1',c1'',kA,zg]
  ·rw[if_neg hbf];rw[decide_eq_false hbf]at hT;have:=ih (i+1) bs hd' wA wA;rw[<-this,ZfM zbd.eq_1];simp[s4E,stM,bsC,swW,zdQ,own,zh,zi,zch,zm,zG,zo,ze,hl,hil,hiT,hT,hw,zg]
abbrev sN(N k:Nat):WV:=.c (.slice 0 N 6 0 k none)
abbrev cB:WV:=fn1 zdc
def swp(l:List zk)(i j:Nat):List zk:=(l.set i (l.getD j z9)).set j (l.getD i z9)
@[simp] def zDr(l:List zk)(i j:Nat):(swp l i j).length=l.length:=by simp[swp]
def zxj(f:FuncId)(N k:Nat)(rest:List Int)(l l':List zk):Prop:=∀v,∃v',v<=v'/\(v'=v->l'=l)/\R L Cs f (sN N k::(rest.map W++[cB])) [blk v l]=some (.t [],[blk v' l'])
def zrm{f:FuncId}{N k:Nat}{a b:Int}{l l':List zk}(h:zxj f N k [a,b] l l')(hl:l.length=N)(hl':l'.length=N)(v:Nat) :
  ∃v' fp,v<=v'/\(v'=v->l'=l)/\zx (R L Cs) ⟨false⟩ (fn1 f) [.c (.slice 0 N 6 0 k none),W a,W b,fn1 zdc] [some { box:=false,esz:=6,rows:=zI l,gen:=N,fz:=false,ver:=v }]=some (.t [],[some { box:=false,esz:=6,rows:=zI l',gen:=N,fz:=false,ver:=v' }],fp):=by
 obtain⟨v',h1,h2,h3⟩:=h v;simp only[blk,hl,hl',List.map,jh,je]at h3;by_cases hv:v'=v
 ·simp_all
 simp_all
def zfi{f:FuncId}{N k:Nat}{a b c:Int}{l l':List zk}(h:zxj f N k [a,b,c] l l')(hl:l.length=N)(hl':l'.length=N)(v:Nat) :
  ∃v' fp,v<=v'/\(v'=v->l'=l)/\zx (R L Cs) ⟨false⟩ (fn1 f) [.c (.slice 0 N 6 0 k none),W a,W b,W c,fn1 zdc] [some { box:=false,esz:=6,rows:=zI l,gen:=N,fz:=false,ver:=v }]=some (.t [],[some { box:=false,esz:=6,rows:=zI l',gen:=N,fz:=false,ver:=v' }],fp):=by
 obtain⟨v',h1,h2,h3⟩:=h v;simp only[blk,hl,hl',List.map,jh,je]at h3;by_cases hv:v'=v
 ·simp_all
 simp_all
def swR(a b:Nat):Nat->Nat->List zk->List zk
 |_,0,l=>l
 |i,m+1,l=>swR a b (i+1) m (swp l (a+i) (b+i))
@[simp] def zBg(a b:Nat):∀(m i:Nat) (l:List zk),(swR a b i m l).length=l.length
  |0,_,_=>rfl
  |m+1,i,l=>by rw[swR,zBg a b m];simp
def zv8(N k a b n:Nat)(hk:k<=N)(hN:N<=900000000000)(ha:a+n<=k)(hb:b+n<=k):∀(m i:Nat) (l:List zk) (v:Nat),i+m=n->l.length=N->∃v',v<=v'/\(v'=v->swR a b i m l=l) /\
  Y L Cs zbo (some [10,3,2,0,1]) 1 [(10,.w (W i)),(3,.w (W n)),(2,.w (W b)),(0,.w (sN N k)),(1,.w (W a))] [some { box:=false,esz:=6,rows:=zI l,gen:=N,fz:=false,ver:=v }] =
    some (.exit 0,[(13,.w (Bo false)),(10,.w (W n)),(3,.w (W n)),(2,.w (W b)),(0,.w (sN N k)),(1,.w (W a))],[some { box:=false,esz:=6,rows:=zI (swR a b i m l),gen:=N,fz:=false,ver:=v' }]):=by
 intro m;induction m with
 |zero =>
  intro i l v hi hl;have:i=n:=wA
  subst this;rw[ZfM zbo.eq_1];simp[swR]
 |succ m ih =>
  intro i l v hi hl;obtain⟨v',h1,h2,h3⟩:=ih (i+1) (swp l (a+i) (b+i)) (v+1+1) wA (by simp[hl]);refine⟨v',wA,fun hv=>wA,?_⟩;rw[swR,<-h3,ZfM zbo.eq_1];have hw:=zB (i:=i) wA;have hwa:IntKind.i64.wrap ((a:Int)+(i:Int))=((a+i:Nat):Int):=by rw[zTd _ wA wA];omega
  have hwb:IntKind.i64.wrap ((b:Int)+(i:Int))=((b+i:Nat):Int):=by rw[zTd _ wA wA];omega
  have a1:a+i<k:=wA
  have a2:b+i<k:=wA
  have a3:a+i<N:=wA
  have a4:b+i<N:=wA
  have a5:a+i<l.length:=wA
  have a6:b+i<l.length:=wA
  have hin:i<n:=wA
  have hs1:=zeg l (a+i) l[b+i];have hs2:=zeg (l.set (a+i) l[b+i]) (b+i) l[a+i];have hsw:swp l (a+i) (b+i)=(l.set (a+i) l[b+i]).set (b+i) l[a+i]:=by simp[swp,a5,a6]
  have e1:(((a+i:Nat):Int)).toNat=a+i:=wA
  have e2:(((b+i:Nat):Int)).toNat=b+i:=wA
  simp only[ze]at hs1 hs2;simp[hin,hw,hwa,hwb,a1,a2,a3,a4,a5,a6,hl,hs1,hs2,hsw,ze,e1,e2,zy3,-Int.natCast_add]
def zmn(N k a b n:Nat)(hk:k<=N)(hN:N<=900000000000)(ha:a+n<=k)(hb:b+n<=k)(l:List zk)(hl:l.length=N):zxj zg5 N k [(a:Int),(b:Int),(n:Int)] l (swR a b 0 n l):=by
 intro v;obtain⟨v',h1,h2,h3⟩:=zv8 N k a b n hk hN ha hb n 0 l v wA hl;refine⟨v',h1,h2,?_⟩;simp only[jg]at h3;rw[zUa zhc rfl];simp[zcH,h3,hl,blk]
def zkm(m:Nat):Nat->Nat->Nat->List zk->Nat×List zk
 |0,i,j,l=>(i,l)
 |f+1,i,j,l=>if i=j then(i,l) else if j<i then zkm m f (i-j) j (swR (m-i) m 0 j l) else zkm m f i (j-i) (swR (m-i) (m+j-i) 0 i l)
def znR(m:Nat):∀(f i j:Nat) (l:List zk),(zkm m f i j l).2.length=l.length/\(0<i->0<j->i+j<=f->0<(zkm m f i j l).1/\(zkm m f i j l).1<=i/\(zkm m f i j l).1<=j)
 |0,i,j,l=>⟨rfl,fun _ _ _=>wA⟩
 |f+1,i,j,l=>by
  rw[zkm];split
  ·grind
  ·split
   ·obtain⟨h1,h2⟩:=znR m f (i-j) j (swR (m-i) m 0 j l);exact⟨by simp_all,fun a b c=>by grind⟩
   ·obtain⟨h1,h2⟩:=znR m f i (j-i) (swR (m-i) (m+j-i) 0 i l);exact⟨by simp_all,fun a b c=>by grind⟩
def zzB(N k m:Nat)(hk:k<=N)(hN:N<=900000000000):∀(f i j:Nat) (l:List zk) (v:Nat),i+j<=f->0<i->0<j->i<=m->m+j<=k->l.length=N->∃v' j',v<=v'/\(v'=v->(zkm m f i j l).2=l) /\
  Y L Cs zbc (some [10,0,2,4,11]) 1 [(10,.w (W i)),(0,.w (sN N k)),(2,.w (W m)),(4,.w cB),(11,.w (W j))] [some { box:=false,esz:=6,rows:=zI l,gen:=N,fz:=false,ver:=v }] =
    some (.exit 0,[(20,.w (Bo false)),(10,.w (W (zkm m f i j l).1)),(0,.w (sN N k)),(2,.w (W m)),(4,.w cB),(11,.w (W j'))],[some { box:=false,esz:=6,rows:=zI (zkm m f i j l).2,gen:=N,fz:=false,ver:=v' }]):=by
 intro f;induction f with
 |zero=>intro i j l v h1 h2;omega
 |succ f ih =>
  intro i j l v hf hi hj him hmj hl;rw[zkm];by_cases c:i=j
  ·subst c;refine⟨v,i,jm _,fun _=>by rw[if_pos rfl],?_⟩;rw[if_pos rfl,ZfM zbc.eq_1];simp
  ·rw[if_neg c];have hne:((i:Int) !=(j:Int))=true:=by simp;omega
   have hne2:((i:Int)==(j:Int))=false:=by simp;omega
   have hw1:IntKind.i64.wrap ((m:Int)-(i:Int))=((m-i:Nat):Int):=by rw[zTd _ wA wA];omega
   by_cases c2:j<i
   ·rw[if_pos c2];have hd:=zmn N k (m-i) m j hk hN wA wA l hl;obtain⟨v1,fp,q1,q2,q3⟩:=zfi hd hl (by simp[hl]) v;obtain⟨v',j',h1,h2,h3⟩:=ih (i-j) j (swR (m-i) m 0 j l) v1 wA wA hj wA hmj (by simp[hl]);refine⟨v',j',wA,fun hv=>by rw[h2 wA,q2 wA],?_⟩;rw[<-h3,ZfM zbc.eq_1];have hw2:IntKind.i64.wrap ((i:Int)-(j:Int))=((i-j:Nat):Int):=by rw[zTd _ wA wA];omega
    have hc:(j:Int)<(i:Int):=wA
    clear ih h3 hd;simp[hne,hne2,c,c2,hc,hw1,hw2,q3,-zx]
   ·rw[if_neg c2];have hd:=zmn N k (m-i) (m+j-i) i hk hN wA wA l hl;obtain⟨v1,fp,q1,q2,q3⟩:=zfi hd hl (by simp[hl]) v;obtain⟨v',j',h1,h2,h3⟩:=ih i (j-i) (swR (m-i) (m+j-i) 0 i l) v1 wA hi wA him wA (by simp[hl]);refine⟨v',j',wA,fun hv=>by rw[h2 wA,q2 wA],?_⟩;rw[<-h3,ZfM zbc.eq_1];have hw2:IntKind.i64.wrap ((j:Int)-(i:Int))=((j-i:Nat):Int):=by rw[zTd _ wA wA];omega
    have hw3:IntKind.i64.wrap ((m:Int)+(j:Int))=((m+j:Nat):Int):=by rw[zTd _ wA wA];omega
    have hw4:IntKind.i64.wrap (((m+j:Nat):Int)-(i:Int))=((m+j-i:Nat):Int):=by rw[zTd _ wA wA];omega
    have hc:¬(j:Int)<(i:Int):=wA
    clear ih h3 hd;simp[hne,hne2,c,c2,hc,hw1,hw2,hw3,hw4,q3,-zx,-Int.natCast_add]
def ztB(a m b:Nat)(l:List zk):List zk:=swR (m-(zkm m (b-a) (m-a) (b-m) l).1) m 0 (zkm m (b-a) (m-a) (b-m) l).1 (zkm m (b-a) (m-a) (b-m) l).2
@[simp] def zDj(a m b:Nat)(l:List zk):(ztB a m b l).length=l.length:=by simp[ztB,(znR m _ _ _ l).1]
def zAQ(N k a m b:Nat)(hk:k<=N)(hN:N<=900000000000)(ha:a<m)(hm:m<b)(hb:b<=k)(l:List zk)(hl:l.length=N):zxj ze4 N k [(a:Int),(m:Int),(b:Int)] l (ztB a m b l):=by
 intro v;obtain⟨v1,j',h1,h2,h3⟩:=zzB N k m hk hN (b-a) (m-a) (b-m) l v wA wA wA wA wA hl;obtain⟨g1,g2⟩:=znR m (b-a) (m-a) (b-m) l;unfold ztB;generalize zkm m (b-a) (m-a) (b-m) l=q at *;obtain⟨i,l1⟩:=q;dsimp only at *;have hd:=zmn N k (m-i) m i hk hN wA wA l1 wA;obtain⟨v2,fp,q1,q2,q3⟩:=zfi hd wA (by simp;omega) v1;refine⟨v2,wA,fun hv=>by rw[q2 wA,h2 wA],?_⟩;rw[zUa zh9 rfl];have hw1:IntKind.i64.wrap ((m:Int)-(a:Int))=((m-a:Nat):Int):=by rw[zTd _ wA wA];omega
 have hw2:IntKind.i64.wrap ((b:Int)-(m:Int))=((b-m:Nat):Int):=by rw[zTd _ wA wA];omega
 have hw3:IntKind.i64.wrap ((m:Int)-(i:Int))=((m-i:Nat):Int):=by rw[zTd _ wA wA];omega
 simp[zdk,h3,hl,blk,g1,hw1,hw2,hw3,q3,-zx]
def bsF(p:Nat->Bool):Nat->Nat->Nat->Nat
 |0,i,_=>i
 |f+1,i,j=>if i<j then(if p ((i+j) / 2) then bsF p f ((i+j) / 2+1) j else bsF p f i ((i+j) / 2)) else i
theorem zju(p:Nat->Bool):∀(f i j:Nat),i<=j->i<=bsF p f i j/\bsF p f i j<=j
 |0,i,j,h=>⟨jm _,h⟩
 |f+1,i,j,h=>by
  rw[bsF];split
  ·split
   ·have:=zju p f ((i+j) / 2+1) j wA;omega
   ·have:=zju p f i ((i+j) / 2) wA;omega
  grind
def ztp(n:Nat)(h:n<4000000000000):IntKind.u64.wrap (n:Int)=(n:Int):=by
 grind [IntKind.wrap,IntKind.signed,IntKind.bits]
def zqe(n:Nat):Int.fdiv (n:Int) (2 ^ min 1 IntKind.u64.bits)=((n / 2:Nat):Int):=by
 show Int.fdiv (n:Int) 2=_
 grind
def zqd(n:Nat)(h:n<4000000000000):IntKind.i64.wrap (n:Int)=(n:Int):=zTd _ wA wA
def pA(l:List zk)(a h:Nat):Bool:=decide (ziK (l.getD h z9) (l.getD a z9)<0)
def pB(l:List zk)(m h:Nat):Bool:=!decide (ziK (l.getD m z9) (l.getD h z9)<0)
def pC(l:List zk)(p c:Nat):Bool:=!decide (ziK (l.getD (p-c) z9) (l.getD c z9)<0)
def zxW(N k a:Nat)(hk:k<=N)(hN:N<=900000000000)(ha:a<k)(l:List zk)(hl:l.length=N)(v:Nat):∀(f i j:Nat),j-i<=f->i<=j->j<=k ->
  Y L Cs zaC (some [10,11,4,0,1]) 1 [(10,.w (W i)),(11,.w (W j)),(4,.w cB),(0,.w (sN N k)),(1,.w (W a))] [some { box:=false,esz:=6,rows:=zI l,gen:=N,fz:=false,ver:=v }] =
    some (.exit 0,[(33,.w (Bo false)),(10,.w (W (bsF (pA l a) f i j))),(11,.w (W (bsF (pA l a) f i j))),(4,.w cB),(0,.w (sN N k)),(1,.w (W a))],[some { box:=false,esz:=6,rows:=zI l,gen:=N,fz:=false,ver:=v }]):=by
 intro f;induction f with
 |zero =>
  intro i j hf hi hj;have:i=j:=wA
  subst this;rw[bsF,ZfM zaC.eq_1];simp
 |succ f ih =>
  intro i j hf hi hj;rw[bsF];by_cases c:i<j
  ·rw[if_pos c];have hw1:IntKind.i64.wrap ((i:Int)+(j:Int))=((i+j:Nat):Int):=by rw[zTd _ wA wA];omega
   have hu:=ztp (i+j) wA;have hh:=zqe (i+j);generalize hhh:(i+j) / 2=h at *;have hi1:=zqd h wA;have hks:h<k:=wA
   have hNs:h<N:=wA
   have hls:h<l.length:=wA
   have haN:a<N:=wA
   have hal:a<l.length:=wA
   have hc:=zop l[h] l[a];have hwh:=zB (i:=h) wA;have hp:pA l a h=decide (ziK l[h] l[a]<0):=by simp[pA,hls,hal]
   rw[hp];simp only[ze]at hc;by_cases q:ziK l[h] l[a]<0
   ·rw[if_pos (by simpa using q),<-ih (h+1) j wA wA hj,ZfM zaC.eq_1];simp[c,hw1,hu,hh,hi1,hks,hNs,hls,haN,hal,hc,q,hwh,hl,ha,ze,-Int.natCast_add]
   ·rw[if_neg (by simpa using q),<-ih i h wA wA wA,ZfM zaC.eq_1];simp[c,hw1,hu,hh,hi1,hks,hNs,hls,haN,hal,hc,q,hwh,hl,ha,ze,-Int.natCast_add]
  ·have:i=j:=wA
   subst this;rw[ZfM zaC.eq_1];simp
def zxU(N k m:Nat)(hk:k<=N)(hN:N<=900000000000)(ha:m<k)(l:List zk)(hl:l.length=N)(v:Nat):∀(f i j:Nat),j-i<=f->i<=j->j<=k ->
  Y L Cs zaB (some [14,15,4,2,0]) 1 [(14,.w (W i)),(15,.w (W j)),(4,.w cB),(2,.w (W m)),(0,.w (sN N k))] [some { box:=false,esz:=6,rows:=zI l,gen:=N,fz:=false,ver:=v }] =
    some (.exit 4,[(85,.w (Bo false)),(14,.w (W (bsF (pB l m) f i j))),(15,.w (W (bsF (pB l m) f i j))),(4,.w cB),(2,.w (W m)),(0,.w (sN N k))],[some { box:=false,esz:=6,rows:=zI l,gen:=N,fz:=false,ver:=v }]):=by
 intro f;induction f with
 |zero =>
  intro i j hf hi hj;have:i=j:=wA
  subst this;rw[bsF,ZfM zaB.eq_1];simp
 |succ f ih =>
  intro i j hf hi hj;rw[bsF];by_cases c:i<j
  ·rw[if_pos c];have hw1:IntKind.i64.wrap ((i:Int)+(j:Int))=((i+j:Nat):Int):=by rw[zTd _ wA wA];omega
   have hu:=ztp (i+j) wA;have hh:=zqe (i+j);generalize hhh:(i+j) / 2=h at *;have hi1:=zqd h wA;have hks:h<k:=wA
   have hNs:h<N:=wA
   have hls:h<l.length:=wA
   have haN:m<N:=wA
   have hal:m<l.length:=wA
   have hc:=zop l[m] l[h];have hwh:=zB (i:=h) wA;have hp:pB l m h = !decide (ziK l[m] l[h]<0):=by simp[pB,hls,hal]
   rw[hp];simp only[ze]at hc;by_cases q:ziK l[m] l[h]<0
   ·rw[if_neg (by simpa using q),<-ih i h wA wA wA,ZfM zaB.eq_1];simp[c,hw1,hu,hh,hi1,hks,hNs,hls,haN,hal,hc,q,hwh,hl,ha,ze,-Int.natCast_add]
   ·rw[if_pos (by simpa using q),<-ih (h+1) j wA wA hj,ZfM zaB.eq_1];simp[c,hw1,hu,hh,hi1,hks,hNs,hls,haN,hal,hc,q,hwh,hl,ha,ze,-Int.natCast_add]
  ·have:i=j:=wA
   subst this;rw[ZfM zaB.eq_1];simp
abbrev e5(b mid a m n p:Nat)(N k i j:Nat):Env:=[(20,.w (W i)),(3,.w (W b)),(18,.w (W mid)),(1,.w (W a)),(2,.w (W m)),(19,.w (W n)),(21,.w (W j)),(4,.w cB),(22,.w (W p)),(0,.w (sN N k))]
def zxS(N k b mid a m n p:Nat)(hk:k<=N)(hN:N<=900000000000)(hp1:p<=2000000000000)(l:List zk)(hl:l.length=N)(v:Nat):∀(f i j:Nat),j-i<=f->i<=j->j<=k->j<=p+1->p<k+i ->
  Y L Cs zaA (some [20,3,18,1,2,19,21,4,22,0]) 1 (e5 b mid a m n p N k i j) [some { box:=false,esz:=6,rows:=zI l,gen:=N,fz:=false,ver:=v }] =
    some (.exit 8,(151,.w (Bo false))::e5 b mid a m n p N k (bsF (pC l p) f i j) (bsF (pC l p) f i j),[some { box:=false,esz:=6,rows:=zI l,gen:=N,fz:=false,ver:=v }]):=by
 intro f;induction f with
 |zero =>
  intro i j hf hi hj hjp hpi;have:i=j:=wA
  subst this;rw[bsF,ZfM zaA.eq_1];simp
 |succ f ih =>
  intro i j hf hi hj hjp hpi;rw[bsF];by_cases c:i<j
  ·rw[if_pos c];have hw1:IntKind.i64.wrap ((i:Int)+(j:Int))=((i+j:Nat):Int):=by rw[zTd _ wA wA];omega
   have hu:=ztp (i+j) wA;have hh:=zqe (i+j);generalize hhh:(i+j) / 2=h at *;have hi1:=zqd h wA;have hks:h<k:=wA
   have hNs:h<N:=wA
   have hls:h<l.length:=wA
   have hw2:IntKind.i64.wrap ((p:Int)-(h:Int))=((p-h:Nat):Int):=by rw[zTd _ wA wA];omega
   have hkp:p-h<k:=wA
   have hNp:p-h<N:=wA
   have hlp:p-h<l.length:=wA
   have hc:=zop l[p-h] l[h];have hwh:=zB (i:=h) wA;have hp:pC l p h = !decide (ziK l[p-h] l[h]<0):=by simp[pC,hls,hlp]
   rw[hp];simp only[ze]at hc;by_cases q:ziK l[p-h] l[h]<0
   ·rw[if_neg (by simpa using q),<-ih i h wA wA wA wA wA,ZfM zaA.eq_1];simp[c,hw1,hu,hh,hi1,hks,hNs,hls,hw2,hkp,hNp,hlp,hc,q,hwh,hl,ze,-Int.natCast_add]
   ·rw[if_pos (by simpa using q),<-ih (h+1) j wA wA hj wA wA,ZfM zaA.eq_1];simp[c,hw1,hu,hh,hi1,hks,hNs,hls,hw2,hkp,hNp,hlp,hc,q,hwh,hl,ze,-Int.natCast_add]
  ·have:i=j:=wA
   subst this;rw[ZfM zaA.eq_1];simp
def upF:Nat->Nat->List zk->List zk
 |_,0,l=>l
 |k,c+1,l=>upF (k+1) c (swp l k (k+1))
def dnF:Nat->Nat->List zk->List zk
 |_,0,l=>l
 |k,c+1,l=>dnF (k-1) c (swp l k (k-1))
@[simp] def zBf:∀(c k:Nat) (l:List zk),(upF k c l).length=l.length
  |0,_,_=>rfl
  |c+1,k,l=>by rw[upF,zBf c];simp
@[simp] def zBN:∀(c k:Nat) (l:List zk),(dnF k c l).length=l.length
  |0,_,_=>rfl
  |c+1,k,l=>by rw[dnF,zBN c];simp
def zxV(N k i:Nat)(hk:k<=N)(hN:N<=900000000000)(hi0:0<i)(hi:i<=k):∀(c q:Nat) (l:List zk) (v:Nat),q+c=i-1->l.length=N->∃v',v<=v'/\(v'=v->upF q c l=l) /\
  Y L Cs zbv (some [13,10,0]) 1 [(13,.w (W q)),(10,.w (W i)),(0,.w (sN N k))] [some { box:=false,esz:=6,rows:=zI l,gen:=N,fz:=false,ver:=v }] =
    some (.exit 2,[(58,.w (Bo false)),(13,.w (W ((i-1:Nat):Int))),(10,.w (W i)),(0,.w (sN N k))],[some { box:=false,esz:=6,rows:=zI (upF q c l),gen:=N,fz:=false,ver:=v' }]):=by
 intro c;have hw0:IntKind.i64.wrap ((i:Int)-1)=((i-1:Nat):Int):=by rw[zTd _ wA wA];omega
 induction c with
 |zero =>
  intro q l v hq hl;have:q=i-1:=wA
  subst this;rw[ZfM zbv.eq_1];simp[upF,hw0]
 |succ c ih =>
  intro q l v hq hl;obtain⟨v',h1,h2,h3⟩:=ih (q+1) (swp l q (q+1)) (v+1+1) wA (by simp[hl]);refine⟨v',wA,fun hv=>wA,?_⟩;rw[upF,<-h3,ZfM zbv.eq_1];have hw:=zB (i:=q) wA;have a1:q<k:=wA
  have a2:q+1<k:=wA
  have a3:q<N:=wA
  have a4:q+1<N:=wA
  have a5:q<l.length:=wA
  have a6:q+1<l.length:=wA
  have hin:q<i-1:=wA
  have hs1:=zeg l q l[q+1];have hs2:=zeg (l.set q l[q+1]) (q+1) l[q];have hsw:swp l q (q+1)=(l.set q l[q+1]).set (q+1) l[q]:=by simp[swp,a5,a6]
  have e2:(((q+1:Nat):Int)).toNat=q+1:=wA
  simp only[ze]at hs1 hs2;simp[hin,hw,hw0,a1,a2,a3,a4,a5,a6,hl,hs1,hs2,hsw,ze,e2,-Int.natCast_add]
def zxT(N k i:Nat)(hk:k<=N)(hN:N<=900000000000):∀(c q:Nat) (l:List zk) (v:Nat),i+c=q->q<k->l.length=N->∃v',v<=v'/\(v'=v->dnF q c l=l) /\
  Y L Cs zbu (some [17,14,0]) 1 [(17,.w (W q)),(14,.w (W i)),(0,.w (sN N k))] [some { box:=false,esz:=6,rows:=zI l,gen:=N,fz:=false,ver:=v }] =
    some (.exit 6,[(110,.w (Bo false)),(17,.w (W i)),(14,.w (W i)),(0,.w (sN N k))],[some { box:=false,esz:=6,rows:=zI (dnF q c l),gen:=N,fz:=false,ver:=v' }]):=by
 intro c;induction c with
 |zero =>
  intro q l v hq hqk hl;have:q=i:=wA
  subst this;rw[ZfM zbu.eq_1];simp[dnF]
 |succ c ih =>
  intro q l v hq hqk hl;obtain⟨q,rfl⟩:∃r,q=r+1:=⟨q-1,wA⟩;obtain⟨v',h1,h2,h3⟩:=ih q (swp l (q+1) q) (v+1+1) wA wA (by simp[hl]);refine⟨v',wA,fun hv=>wA,?_⟩;rw[dnF,vN,<-h3,ZfM zbu.eq_1];have hw:IntKind.i64.wrap (((q+1:Nat):Int)-1)=(q:Int):=by rw[zTd _ wA wA];omega
  have a1:q<k:=wA
  have a2:q+1<k:=wA
  have a3:q<N:=wA
  have a4:q+1<N:=wA
  have a5:q<l.length:=wA
  have a6:q+1<l.length:=wA
  have hin:i<q+1:=wA
  have hs1:=zeg l (q+1) l[q];have hs2:=zeg (l.set (q+1) l[q]) q l[q+1];have hsw:swp l (q+1) q=(l.set (q+1) l[q]).set q l[q+1]:=by simp[swp,a5,a6]
  have e2:(((q+1:Nat):Int)).toNat=q+1:=wA
  simp only[ze]at hs1 hs2;simp[hin,hw,a1,a2,a3,a4,a5,a6,hl,hs1,hs2,hsw,ze,e2,-Int.natCast_add]
def zbS(a b:Nat):Nat:=(a+b) / 2
def loS(a m b:Nat):Nat:=if zbS a b<m then zbS a b+m-b else a
def hiS(a m b:Nat):Nat:=if zbS a b<m then zbS a b else m
def stS(a m b:Nat)(l:List zk):Nat:=bsF (pC l (zbS a b+m-1)) (hiS a m b-loS a m b) (loS a m b) (hiS a m b)
def enS(a m b:Nat)(l:List zk):Nat:=zbS a b+m-stS a m b l
def zjz(a m b:Nat)(l:List zk):List zk:=if stS a m b l<m/\m<enS a m b l then ztB (stS a m b l) m (enS a m b l) l else l
def zlI:Nat->Nat->Nat->Nat->List zk->List zk
 |0,_,_,_,l=>l
 |f+1,a,m,b,l =>
  if m-a=1 then upF a (bsF (pA l a) (b-m) m b-1-a) l
  else if b-m=1 then dnF m (m-bsF (pB l m) (m-a) a m) l
  else
   let l2:=if a<stS a m b l/\stS a m b l<zbS a b then zlI f a (stS a m b l) (zbS a b) (zjz a m b l) else zjz a m b l
   if zbS a b<enS a m b l/\enS a m b l<b then zlI f (zbS a b) (enS a m b l) b l2 else l2
@[simp] def zC6(a m b:Nat)(l:List zk):(zjz a m b l).length=l.length:=by unfold zjz;split<;>simp
@[simp] def zzn:∀(f a m b:Nat) (l:List zk),(zlI f a m b l).length=l.length
  |0,_,_,_,_=>rfl
  |f+1,a,m,b,l=>by
   rw[zlI];split
   ·simp
   ·split
    ·simp
    ·split<;>split<;>simp[zzn f]
structure Bd(a m b:Nat)(l:List zk):Prop where
 lo:loS a m b<=hiS a m b
 st:loS a m b<=stS a m b l/\stS a m b l<=hiS a m b
 hi:hiS a m b<=m/\a<=loS a m b
 en:m<=enS a m b l/\enS a m b l<=b
 mid:a<zbS a b/\zbS a b<b
 p:hiS a m b<=zbS a b+m-1+1/\zbS a b+m-1<b+loS a m b
 sm:loS a m b<4000000000000
def zDk{a m b:Nat}(h1:a<m)(h2:m<b)(hb:b<=900000000000)(l:List zk):Bd a m b l:=by
 have hm:zbS a b=(a+b) / 2:=rfl;have hlo:loS a m b<=hiS a m b:=by grind [loS,hiS]
 have hst:=zju (pC l (zbS a b+m-1)) (hiS a m b-loS a m b) (loS a m b) (hiS a m b) hlo;have Dc:loS a m b<=stS a m b l/\stS a m b l<=hiS a m b:=hst;have hen:enS a m b l=zbS a b+m-stS a m b l:=rfl;have e1:hiS a m b<=m/\a<=loS a m b/\loS a m b<4000000000000:=by grind [loS,hiS]
 have e2:hiS a m b<=zbS a b+m-1+1/\zbS a b+m-1<b+loS a m b:=by grind [loS,hiS]
 have e3:m<=zbS a b+m-stS a m b l/\zbS a b+m-stS a m b l<=b:=by
  have h4:=Dc.2;by_cases c:zbS a b<m
  ·simp only[hiS,if_pos c]at h4;omega
  grind
 exact⟨hlo,Dc,⟨e1.1,e1.2.1⟩,by grind,wA,e2,e1.2.2⟩
def C5{P Q C A B:Prop}(h:P/\Q->C)(h':¬(P/\Q)->A/\B):(P/\Q/\C)\/(P/\¬Q/\A/\B/\True)\/(¬P/\True/\A/\B/\True):=by
 grind
def zrM(N k:Nat)(hk:k<=N)(hN:N<=900000000000):∀(f a m b:Nat) (l:List zk),b-a<=f->a<m->m<b->b<=k->l.length=N->zxj zcQ N k [(a:Int),(m:Int),(b:Int)] l (zlI f a m b l):=by
 intro f;induction f with
 |zero=>intro a m b l h1 h2 h3;omega
 |succ f ih =>
  intro a m b l hf ham hmb hbk hl v;have w1:IntKind.i64.wrap ((m:Int)-(a:Int))=((m-a:Nat):Int):=by rw[zTd _ wA wA];omega
  have w2:IntKind.i64.wrap ((b:Int)-(m:Int))=((b-m:Nat):Int):=by rw[zTd _ wA wA];omega
  rw[zlI];by_cases c1:m-a=1
  ·rw[if_pos c1];have h1:=zxW N k a hk hN wA l hl v (b-m) m b (jm _) wA hbk;have hb:=zju (pA l a) (b-m) m b wA;obtain⟨v',g1,g2,h2⟩:=zxV N k (bsF (pA l a) (b-m) m b) hk hN wA wA (bsF (pA l a) (b-m) m b-1-a) a l v wA hl;refine⟨v',g1,g2,?_⟩;generalize bsF (pA l a) (b-m) m b=i at *;rw[zUa zcU rfl];have c1':((m-a:Nat):Int)=1:=wA
   simp[zc,w1,c1,h1,h2,blk,hl]
  ·rw[if_neg c1];have c1':(((m-a:Nat):Int)==1)=false:=by simp;omega
   by_cases c2:b-m=1
   ·rw[if_pos c2];have h1:=zxU N k m hk hN wA l hl v (m-a) a m (jm _) wA wA;have hb:=zju (pB l m) (m-a) a m wA;obtain⟨v',g1,g2,h2⟩:=zxT N k (bsF (pB l m) (m-a) a m) hk hN (m-bsF (pB l m) (m-a) a m) m l v wA wA hl;refine⟨v',g1,g2,?_⟩;generalize bsF (pB l m) (m-a) a m=i at *;rw[zUa zcU rfl];simp[zc,w1,w2,c1',c2,h1,h2,blk,hl]
   ·rw[if_neg c2];have c2':(((b-m:Nat):Int)==1)=false:=by simp;omega
    have bd:=zDk ham hmb wA l;have hL:=zxS N k b (zbS a b) a m (zbS a b+m) (zbS a b+m-1) hk hN (by have:=bd.mid;omega) l hl v (hiS a m b-loS a m b) (loS a m b) (hiS a m b) (jm _) bd.lo (by have:=bd.hi;omega) bd.p.1 (by have:=bd.p.2;omega);have eS:bsF (pC l (zbS a b+m-1)) (hiS a m b-loS a m b) (loS a m b) (hiS a m b)=stS a m b l:=rfl;rw[eS]at hL;have hen:enS a m b l=zbS a b+m-stS a m b l:=rfl;have b1:=bd.st;have b2:=bd.hi;have b3:=bd.en;have b4:=bd.mid;have hT:∃v1 fp1,v<=v1/\(v1=v->zjz a m b l=l)/\(stS a m b l<m/\m<enS a m b l->zx (R L Cs) ⟨false⟩ (fn1 ze4) [.c (.slice 0 N 6 0 k none),W (stS a m b l),W m,W (enS a m b l),fn1 zdc] [some { box:=false,esz:=6,rows:=zI l,gen:=N,fz:=false,ver:=v }]=some (.t [],[some { box:=false,esz:=6,rows:=zI (zjz a m b l),gen:=N,fz:=false,ver:=v1 }],fp1))/\(¬(stS a m b l<m/\m<enS a m b l)->zjz a m b l=l/\v1=v):=by
     by_cases c:stS a m b l<m/\m<enS a m b l
     ·have e:zjz a m b l=ztB (stS a m b l) m (enS a m b l) l:=by rw[zjz,if_pos c]
      have hd:=zAQ N k (stS a m b l) m (enS a m b l) hk hN c.1 c.2 wA l hl;rw[<-e]at hd;obtain⟨v1,fp,q1,q2,q3⟩:=zfi hd hl (by simp[hl]) v;exact⟨v1,fp,q1,q2,fun _=>q3,fun h=>absurd c h⟩
     ·have e:zjz a m b l=l:=by rw[zjz,if_neg c]
      exact⟨v,.no,jm _,fun _=>e,fun h=>absurd h c,fun _=>⟨e,rfl⟩⟩
    obtain⟨v1,fp1,t1,t2,t3,t4⟩:=hT;generalize hl1:zjz a m b l=l1 at *;have hl1n:l1.length=N:=by rw[<-hl1];simp[hl]
    dsimp only;generalize hl2:(if a<stS a m b l/\stS a m b l<zbS a b then zlI f a (stS a m b l) (zbS a b) l1 else l1)=l2;have hl2n:l2.length=N:=by rw[<-hl2];split<;>simp[hl1n]
    have hA:∃v2 fp2,v1<=v2/\(v2=v1->l2=l1)/\(a<stS a m b l/\stS a m b l<zbS a b->zx (R L Cs) ⟨false⟩ (fn1 zcQ) [.c (.slice 0 N 6 0 k none),W a,W (stS a m b l),W (zbS a b),fn1 zdc] [some { box:=false,esz:=6,rows:=zI l1,gen:=N,fz:=false,ver:=v1 }]=some (.t [],[some { box:=false,esz:=6,rows:=zI l2,gen:=N,fz:=false,ver:=v2 }],fp2))/\(¬(a<stS a m b l/\stS a m b l<zbS a b)->l2=l1/\v2=v1):=by
     by_cases c:a<stS a m b l/\stS a m b l<zbS a b
     ·rw[if_pos c]at hl2;have hd:=ih a (stS a m b l) (zbS a b) l1 wA c.1 c.2 wA hl1n;rw[hl2]at hd;obtain⟨v2,fp,q1,q2,q3⟩:=zfi hd hl1n hl2n v1;exact⟨v2,fp,q1,q2,fun _=>q3,fun h=>absurd c h⟩
     ·rw[if_neg c]at hl2;exact⟨v1,.no,jm _,fun _=>hl2.symm,fun h=>absurd h c,fun _=>⟨hl2.symm,rfl⟩⟩
    obtain⟨v2,fp2,s1,s2,s3,s4⟩:=hA;generalize hl3:(if zbS a b<enS a m b l/\enS a m b l<b then zlI f (zbS a b) (enS a m b l) b l2 else l2)=l3;have hl3n:l3.length=N:=by rw[<-hl3];split<;>simp[hl2n]
    have hB:∃v3 fp3,v2<=v3/\(v3=v2->l3=l2)/\(zbS a b<enS a m b l/\enS a m b l<b->zx (R L Cs) ⟨false⟩ (fn1 zcQ) [.c (.slice 0 N 6 0 k none),W (zbS a b),W (enS a m b l),W b,fn1 zdc] [some { box:=false,esz:=6,rows:=zI l2,gen:=N,fz:=false,ver:=v2 }]=some (.t [],[some { box:=false,esz:=6,rows:=zI l3,gen:=N,fz:=false,ver:=v3 }],fp3))/\(¬(zbS a b<enS a m b l/\enS a m b l<b)->l3=l2/\v3=v2):=by
     by_cases c:zbS a b<enS a m b l/\enS a m b l<b
     ·rw[if_pos c]at hl3;have hd:=ih (zbS a b) (enS a m b l) b l2 wA c.1 c.2 wA hl2n;rw[hl3]at hd;obtain⟨v3,fp,q1,q2,q3⟩:=zfi hd hl2n hl3n v2;exact⟨v3,fp,q1,q2,fun _=>q3,fun h=>absurd c h⟩
     ·rw[if_neg c]at hl3;exact⟨v2,.no,jm _,fun _=>hl3.symm,fun h=>absurd h c,fun _=>⟨hl3.symm,rfl⟩⟩
    obtain⟨v3,fp3,r1,r2,r3,r4⟩:=hB;refine⟨v3,wA,fun hv=>by rw[r2 wA,s2 wA,t2 wA],?_⟩;have w3:IntKind.i64.wrap ((a:Int)+(b:Int))=((a+b:Nat):Int):=by rw[zTd _ wA wA];omega
    have w4:=ztp (a+b) wA;have w5:Int.fdiv ((a+b:Nat):Int) (2 ^ min 1 IntKind.u64.bits)=((zbS a b:Nat):Int):=zqe (a+b);have w6:=zqd (zbS a b) wA;have w7:IntKind.i64.wrap ((zbS a b:Int)+(m:Int))=((zbS a b+m:Nat):Int):=by rw[zTd _ wA wA];omega
    have w8:IntKind.i64.wrap (((zbS a b+m:Nat):Int)-1)=((zbS a b+m-1:Nat):Int):=by rw[zTd _ wA wA];omega
    have w9:IntKind.i64.wrap (((zbS a b+m:Nat):Int)-(stS a m b l:Int))=((enS a m b l:Nat):Int):=by rw[zTd _ wA wA];omega
    have w10:zbS a b<m->IntKind.i64.wrap (((zbS a b+m:Nat):Int)-(b:Int))=((loS a m b:Nat):Int):=fun h=>by
     have:loS a m b=zbS a b+m-b:=by rw[loS,if_pos h]
     rw[zTd _ wA wA];have:b<=zbS a b+m:=by have:zbS a b=(a+b) / 2:=rfl;omega
     omega
    have w11:zbS a b<m->hiS a m b=zbS a b:=fun h=>by rw[hiS,if_pos h]
    have w12:¬zbS a b<m->hiS a m b=m/\loS a m b=a:=fun h=>by rw[hiS,loS,if_neg h,if_neg h];exact⟨rfl,rfl⟩
    generalize stS a m b l=st at *;generalize enS a m b l=en at *;generalize zbS a b=mid at *;generalize loS a m b=lo at *;generalize hiS a m b=hi at *;rw[zUa zcU rfl];clear ih bd;have BS:∀E,X L Cs zc.code E [blk v l]=X L Cs zc.code E [some { box:=false,esz:=6,rows:=zI l,gen:=N,fz:=false,ver:=v }]:=fun E=>by simp[blk,hl]
    simp only[e5]at hL;by_cases d1:mid<m
    ·rw[w11 d1]at hL;have w10:=w10 d1;rcases C5 t3 t4 with⟨d2,d2b,t3⟩ |⟨d2,d2b,e1,e2,t3⟩ |⟨d2,d2b,e1,e2,t3⟩<;>(try subst e1 e2)<;>rcases C5 s3 s4 with⟨d3,d3b,s3⟩ |⟨d3,d3b,e1,e2,s3⟩ |⟨d3,d3b,e1,e2,s3⟩<;>(try subst e1 e2)<;>rcases C5 r3 r4 with⟨d4,d4b,r3⟩ |⟨d4,d4b,e1,e2,r3⟩ |⟨d4,d4b,e1,e2,r3⟩<;>(try subst e1 e2)<;>simp[zc,w1,w2,c1',c2',w3,w4,w5,w6,w7,w8,w9,w10,hL,d1,d2,d2b,d3,d3b,d4,d4b,t3,s3,r3,blk,hl,hl3n,-zx,-Int.natCast_add]
    ·obtain⟨e3,e4⟩:=w12 d1;rw[e3,e4]at hL;rcases C5 t3 t4 with⟨d2,d2b,t3⟩ |⟨d2,d2b,e1,e2,t3⟩ |⟨d2,d2b,e1,e2,t3⟩<;>(try subst e1 e2)<;>rcases C5 s3 s4 with⟨d3,d3b,s3⟩ |⟨d3,d3b,e1,e2,s3⟩ |⟨d3,d3b,e1,e2,s3⟩<;>(try subst e1 e2)<;>rcases C5 r3 r4 with⟨d4,d4b,r3⟩ |⟨d4,d4b,e1,e2,r3⟩ |⟨d4,d4b,e1,e2,r3⟩<;>(try subst e1 e2)<;>simp[zc,w1,w2,c1',c2',w3,w4,w5,w6,w7,w8,w9,hL,d1,d2,d2b,d3,d3b,d4,d4b,t3,s3,r3,blk,hl,hl3n,-zx,-Int.natCast_add]
def zrH(a:Nat):Nat->List zk->List zk
 |0,l=>l
 |c+1,l=>if ziK (l.getD (a+c+1) z9) (l.getD (a+c) z9)<0 then zrH a c (swp l (a+c+1) (a+c)) else l
@[simp] def zAE(a:Nat):∀(c:Nat) (l:List zk),(zrH a c l).length=l.length
  |0,l=>rfl
  |c+1,l=>by
   rw[zrH];split
   ·rw[zAE a c];simp
   simp
def zwR(N k a b i:Nat)(hk:k<=N)(hN:N<=900000000000):∀(c:Nat) (l:List zk) (v:Nat),a+c<k->l.length=N->∃v' j',v<=v'/\(v'=v->zrH a c l=l) /\
  Y L Cs zaD (some [9,3,1,2,8,0]) 1 [(9,.w (W ((a+c:Nat):Int))),(3,.w cB),(1,.w (W a)),(2,.w (W b)),(8,.w (W i)),(0,.w (sN N k))] [some { box:=false,esz:=6,rows:=zI l,gen:=N,fz:=false,ver:=v }] =
    some (.exit 2,[(34,.w (Bo false)),(9,.w (W j')),(3,.w cB),(1,.w (W a)),(2,.w (W b)),(8,.w (W i)),(0,.w (sN N k))],[some { box:=false,esz:=6,rows:=zI (zrH a c l),gen:=N,fz:=false,ver:=v' }]):=by
 intro c;induction c with
 |zero =>
  intro l v hc hl;refine⟨v,a,jm _,fun _=>rfl,?_⟩;rw[ZfM zaD.eq_1];simp[zrH]
 |succ c ih =>
  intro l v hc hl;have a1:a+c+1<k:=wA
  have a2:a+c<k:=wA
  have a3:a+c+1<N:=wA
  have a4:a+c<N:=wA
  have a5:a+c+1<l.length:=wA
  have a6:a+c<l.length:=wA
  have hg:a<a+c+1:=wA
  have hw:IntKind.i64.wrap (((a+c+1:Nat):Int)-1)=((a+c:Nat):Int):=by rw[zTd _ wA wA];omega
  have e1:l.getD (a+c+1) z9=l[a+c+1]:=by simp[a5]
  have e2:l.getD (a+c) z9=l[a+c]:=by simp[a6]
  have e3:(((a+c+1:Nat):Int)).toNat=a+c+1:=wA
  have e4:(((a+c:Nat):Int)).toNat=a+c:=wA
  have e5:a+(c+1)=a+c+1:=wA
  have hc2:=zop l[a+c+1] l[a+c];simp only[ze]at hc2;rw[zrH,e1,e2,e5];by_cases h:ziK l[a+c+1] l[a+c]<0
  ·obtain⟨v',j',hv1,hv2,h4⟩:=ih (swp l (a+c+1) (a+c)) (v+1+1) wA (by simp[hl]);refine⟨v',j',wA,fun hv=>wA,?_⟩;rw[if_pos h,<-h4,ZfM zaD.eq_1];have hs1:=zeg l (a+c+1) l[a+c];have hs2:=zeg (l.set (a+c+1) l[a+c]) (a+c) l[a+c+1];have hsw:swp l (a+c+1) (a+c)=(l.set (a+c+1) l[a+c]).set (a+c) l[a+c+1]:=by simp[swp,a5,a6]
   simp only[ze]at hs1 hs2;simp[hg,hc2,h,hw,a1,a2,a3,a4,a5,a6,e3,e4,hl,ze,hs1,hs2,hsw,-Int.natCast_add]
  ·rw[if_neg h,ZfM zaD.eq_1];simp[hg,hc2,h,hw,a1,a2,a3,a4,a5,a6,e3,e4,hl,ze,-Int.natCast_add]
def zjJ(a:Nat):Nat->Nat->List zk->List zk
 |_,0,l=>l
 |i,m+1,l=>zjJ a (i+1) m (zrH a i l)
@[simp] def zAn(a:Nat):∀(m i:Nat) (l:List zk),(zjJ a i m l).length=l.length
  |0,i,l=>rfl
  |m+1,i,l=>by rw[zjJ,zAn a m];simp
def zwQ(N k a b:Nat)(hk:k<=N)(hN:N<=900000000000)(hb:b<=k):∀(m i:Nat) (l:List zk) (v:Nat),b-(a+i)=m->a+i<=b+1->l.length=N->∃v' i',v<=v'/\(v'=v->zjJ a i m l=l) /\
  Y L Cs za3 (some [2,1,3,8,0]) 1 [(2,.w (W b)),(1,.w (W a)),(3,.w cB),(8,.w (W ((a+i:Nat):Int))),(0,.w (sN N k))] [some { box:=false,esz:=6,rows:=zI l,gen:=N,fz:=false,ver:=v }] =
    some (.exit 0,[(14,.w (Bo false)),(3,.w cB),(1,.w (W a)),(2,.w (W b)),(8,.w (W i')),(0,.w (sN N k))],[some { box:=false,esz:=6,rows:=zI (zjJ a i m l),gen:=N,fz:=false,ver:=v' }]):=by
 intro m;induction m with
 |zero =>
  intro i l v hm hi hl;have hg:¬a+i<b:=wA
  rw[ZfM za3.eq_1];simp[hg,zjJ,-Int.natCast_add]
 |succ m ih =>
  intro i l v hm hi hl;have hg:a+i<b:=wA
  have hw:=zB (i:=a+i) wA;obtain⟨v1,j1,q1,q2,h1⟩:=zwR N k a b (a+i) hk hN i l v wA hl;obtain⟨v2,i2,q3,q4,h2⟩:=ih (i+1) (zrH a i l) v1 wA wA (by simp[hl]);refine⟨v2,i2,wA,fun hv=>by rw[zjJ,q4 wA,q2 wA],?_⟩;rw[show a+(i+1)=a+i+1 by omega]at h2;rw[zjJ,<-h2,ZfM za3.eq_1];simp[hg,h1,hw,hl,-Int.natCast_add]
def zAW(N k a b:Nat)(hk:k<=N)(hN:N<=900000000000)(ha:a<=b)(hb:b<=k)(l:List zk)(hl:l.length=N):zxj zf0 N k [(a:Int),(b:Int)] l (zjJ a 1 (b-(a+1)) l):=by
 intro v;obtain⟨v',i',q1,q2,h⟩:=zwQ N k a b hk hN hb (b-(a+1)) 1 l v rfl wA hl;rw[zUa zgc rfl];have hw:=zB (i:=a) wA
 simp_all [zce,blk,jt]
def zok(bs n:Nat):Nat->Nat->List zk->Nat×List zk
 |0,a,l=>(a,l)
 |f+1,a,l=>if a+bs<=n then zok bs n f (a+bs) (zjJ a 1 (a+bs-(a+1)) l) else(a,l)
def zrJ(bs n:Nat):∀(f a:Nat) (l:List zk),(zok bs n f a l).2.length=l.length/\(a<=n->(zok bs n f a l).1<=n)
 |0,a,l=>⟨rfl,fun h=>h⟩
 |f+1,a,l=>by
  rw[zok];split
  ·have:=zrJ bs n f (a+bs) (zjJ a 1 (a+bs-(a+1)) l)
   simp_all
  grind
def zAH(N k bs:Nat)(hk:k<=N)(hN:N<=900000000000)(h0:0<bs)(h1:bs<=900000000000):∀(f a:Nat) (l:List zk) (v:Nat),k-a<f*bs->a<=k->l.length=N->∃v' b',v<=v'/\(v'=v->(zok bs k f a l).2=l) /\
  Y L Cs zbO (some [7,8,1,0,2,6]) 1 [(7,.w (W a)),(8,.w (W ((a+bs:Nat):Int))),(1,.w (W k)),(0,.w (sN N k)),(2,.w cB),(6,.w (W bs))] [some { box:=false,esz:=6,rows:=zI l,gen:=N,fz:=false,ver:=v }] =
    some (.exit 0,[(13,.w (Bo false)),(7,.w (W (zok bs k f a l).1)),(8,.w (W b')),(1,.w (W k)),(0,.w (sN N k)),(2,.w cB),(6,.w (W bs))],[some { box:=false,esz:=6,rows:=zI (zok bs k f a l).2,gen:=N,fz:=false,ver:=v' }]):=by
 intro f;induction f with
 |zero=>grind
 |succ f ih =>
  intro a l v hf ha hl;rw[zok];by_cases c:a+bs<=k
  ·rw[if_pos c];have hd:=zAW N k a (a+bs) hk hN wA c l hl;obtain⟨v1,fp,q1,q2,q3⟩:=zrm hd hl (by simp[hl]) v;obtain⟨v2,b2,q4,q5,q6⟩:=ih (a+bs) (zjJ a 1 (a+bs-(a+1)) l) v1 (by rw[qZ]at hf;omega) c (by simp[hl]);refine⟨v2,b2,wA,fun hv=>by rw[q5 wA,q2 wA],?_⟩;rw[<-q6,ZfM zbO.eq_1];have hw:IntKind.i64.wrap (((a+bs:Nat):Int)+(bs:Int))=((a+bs+bs:Nat):Int):=by rw[zTd _ wA wA];omega
   simp[c,q3,hw,-zx,-Int.natCast_add]
  ·rw[ZfM zbO.eq_1];simp[c,-Int.natCast_add]
def zgP(bs n:Nat):Nat->Nat->List zk->Nat×List zk
 |0,a,l=>(a,l)
 |f+1,a,l=>if a+2*bs<=n then zgP bs n f (a+2*bs) (zlI (2*bs) a (a+bs) (a+2*bs) l) else(a,l)
def zqR(bs n:Nat):∀(f a:Nat) (l:List zk),(zgP bs n f a l).2.length=l.length/\(a<=n->(zgP bs n f a l).1<=n)
 |0,a,l=>⟨rfl,fun h=>h⟩
 |f+1,a,l=>by
  rw[zgP];split
  ·have:=zqR bs n f (a+2*bs) (zlI (2*bs) a (a+bs) (a+2*bs) l)
   simp_all
  grind
def zzZ(N k bs:Nat)(hk:k<=N)(hN:N<=900000000000)(h0:0<bs)(h1:bs<=900000000000):∀(f a:Nat) (l:List zk) (v:Nat),k-a<f*(2*bs)->a<=k->l.length=N->∃v' b',v<=v'/\(v'=v->(zgP bs k f a l).2=l) /\
  Y L Cs zbN (some [7,8,1,0,2,6]) 1 [(7,.w (W a)),(8,.w (W ((a+2*bs:Nat):Int))),(1,.w (W k)),(0,.w (sN N k)),(2,.w cB),(6,.w (W bs))] [some { box:=false,esz:=6,rows:=zI l,gen:=N,fz:=false,ver:=v }] =
    some (.exit 4,[(35,.w (Bo false)),(7,.w (W (zgP bs k f a l).1)),(8,.w (W b')),(1,.w (W k)),(0,.w (sN N k)),(2,.w cB),(6,.w (W bs))],[some { box:=false,esz:=6,rows:=zI (zgP bs k f a l).2,gen:=N,fz:=false,ver:=v' }]):=by
 intro f;induction f with
 |zero=>grind
 |succ f ih =>
  intro a l v hf ha hl;rw[zgP];by_cases c:a+2*bs<=k
  ·rw[if_pos c];have hd:=zrM N k hk hN (2*bs) a (a+bs) (a+2*bs) l wA wA wA c hl;obtain⟨v1,fp,q1,q2,q3⟩:=zfi hd hl (by simp[hl]) v;obtain⟨v2,b2,q4,q5,q6⟩:=ih (a+2*bs) (zlI (2*bs) a (a+bs) (a+2*bs) l) v1 (by rw[qZ]at hf;omega) c (by simp[hl]);refine⟨v2,b2,wA,fun hv=>by rw[q5 wA,q2 wA],?_⟩;rw[<-q6,ZfM zbN.eq_1];have hw0:IntKind.i64.wrap ((a:Int)+(bs:Int))=((a+bs:Nat):Int):=by rw[zTd _ wA wA];omega
   have hw1:IntKind.i64.wrap (2*(bs:Int))=((2*bs:Nat):Int):=by rw[zTd _ wA wA];omega
   have hw:IntKind.i64.wrap (((a+2*bs:Nat):Int)+((2*bs:Nat):Int))=((a+2*bs+2*bs:Nat):Int):=by rw[zTd _ wA wA];omega
   simp[c,q3,hw0,hw1,hw,-zx,-Int.natCast_add,-Int.natCast_mul]
  ·rw[ZfM zbN.eq_1];simp[c,-Int.natCast_add,-Int.natCast_mul]
def zjE(bs n:Nat)(l:List zk):List zk :=
 if(zgP bs n (n+1) 0 l).1+bs<n then zlI (n-(zgP bs n (n+1) 0 l).1) (zgP bs n (n+1) 0 l).1 ((zgP bs n (n+1) 0 l).1+bs) n (zgP bs n (n+1) 0 l).2 else(zgP bs n (n+1) 0 l).2
@[simp] def zDc(bs n:Nat)(l:List zk):(zjE bs n l).length=l.length:=by
  unfold zjE;have:=(zqR bs n (n+1) 0 l).1;split<;>simp[this]
def yi(n:Nat):Nat->Nat->List zk->List zk
 |0,_,l=>l
 |f+1,bs,l=>if bs<n then yi n f (2*bs) (zjE bs n l) else l
@[simp] def zwz(n:Nat):∀(f bs:Nat) (l:List zk),(yi n f bs l).length=l.length
  |0,_,_=>rfl
  |f+1,bs,l=>by
   rw[yi];split
   ·rw[zwz n f];simp
   simp
def zyk(N k:Nat)(hk:k<=N)(hN:N<=900000000000):∀(f bs:Nat) (l:List zk) (v:Nat),k<bs+f->0<bs->bs<=1800000000000->l.length=N->∃v' b',v<=v'/\(v'=v->yi k f bs l=l) /\
  Y L Cs zaO (some [1,0,2,6]) 1 [(1,.w (W k)),(0,.w (sN N k)),(2,.w cB),(6,.w (W bs))] [some { box:=false,esz:=6,rows:=zI l,gen:=N,fz:=false,ver:=v }] =
    some (.exit 2,[(30,.w (Bo false)),(1,.w (W k)),(0,.w (sN N k)),(2,.w cB),(6,.w (W b'))],[some { box:=false,esz:=6,rows:=zI (yi k f bs l),gen:=N,fz:=false,ver:=v' }]):=by
 intro f;induction f with
 |zero =>
  intro bs l v hf h0 h1 hl;refine⟨v,bs,jm _,fun _=>rfl,?_⟩;have c:¬bs<k:=wA
  rw[yi,ZfM zaO.eq_1];simp[c]
 |succ f ih =>
  intro bs l v hf h0 h1 hl;rw[yi];by_cases c:bs<k
  ·rw[if_pos c];obtain⟨v1,b1,q1,q2,q3⟩:=zzZ N k bs hk hN h0 wA (k+1) 0 l v (by have:k+1<=(k+1)*(2*bs):=qV _ wA;omega) (jr _) hl;obtain⟨g1,g2⟩:=zqR bs k (k+1) 0 l;have g2:=g2 (jr _);have hw1:IntKind.i64.wrap (2*(bs:Int))=((2*bs:Nat):Int):=by rw[zTd _ wA wA];omega
   have hw2:IntKind.i64.wrap ((bs:Int)*2)=((2*bs:Nat):Int):=by rw[zTd _ wA wA];omega
   simp only[jJ,jg]at q3;by_cases d:(zgP bs k (k+1) 0 l).1+bs<k
   ·have e:zjE bs k l=zlI (k-(zgP bs k (k+1) 0 l).1) (zgP bs k (k+1) 0 l).1 ((zgP bs k (k+1) 0 l).1+bs) k (zgP bs k (k+1) 0 l).2:=by rw[zjE,if_pos d]
    have hd:=zrM N k hk hN (k-(zgP bs k (k+1) 0 l).1) (zgP bs k (k+1) 0 l).1 ((zgP bs k (k+1) 0 l).1+bs) k (zgP bs k (k+1) 0 l).2 (jm _) wA d (jm _) wA;rw[<-e]at hd;have pl:(zjE bs k l).length=N:=by simp[hl]
    obtain⟨v2,fp,q4,q5,q6⟩:=zfi hd wA pl v1;obtain⟨v3,b3,q7,q8,q9⟩:=ih (2*bs) (zjE bs k l) v2 wA wA wA pl;refine⟨v3,b3,wA,fun hv=>by rw[q8 wA,q5 wA,q2 wA],?_⟩;rw[<-q9,ZfM zaO.eq_1];clear ih q9 hd e;generalize zjE bs k l=pF at *;generalize zgP bs k (k+1) 0 l=q at *;have hw0:IntKind.i64.wrap ((q.1:Int)+(bs:Int))=((q.1+bs:Nat):Int):=by rw[zTd _ wA wA];omega
    simp[c,d,q3,q6,hw0,hw1,hw2,-zx,-Int.natCast_add,-Int.natCast_mul]
   ·have e:zjE bs k l=(zgP bs k (k+1) 0 l).2:=by rw[zjE,if_neg d]
    obtain⟨v3,b3,q7,q8,q9⟩:=ih (2*bs) (zjE bs k l) v1 wA wA wA (by simp[hl]);refine⟨v3,b3,wA,fun hv=>by rw[q8 wA,e,q2 wA],?_⟩;rw[<-q9,e,ZfM zaO.eq_1];clear ih q9 e q8;generalize zgP bs k (k+1) 0 l=q at *;have hw0:IntKind.i64.wrap ((q.1:Int)+(bs:Int))=((q.1+bs:Nat):Int):=by rw[zTd _ wA wA];omega
    simp[c,d,q3,hw0,hw1,hw2,-zx,-Int.natCast_add,-Int.natCast_mul]
  ·rw[if_neg c];refine⟨v,bs,jm _,fun _=>rfl,?_⟩;rw[ZfM zaO.eq_1];simp[c]
def zmz(k:Nat)(l:List zk):List zk:=yi k k 20 (zjJ (zok 20 k (k+1) 0 l).1 1 (k-((zok 20 k (k+1) 0 l).1+1)) (zok 20 k (k+1) 0 l).2)
@[simp] def zCc(k:Nat)(l:List zk):(zmz k l).length=l.length:=by simp[zmz,(zrJ 20 k (k+1) 0 l).1]
def zsp(N k:Nat)(hk:k<=N)(hN:N<=900000000000)(l:List zk)(hl:l.length=N):zxj zhA N k [] l (zmz k l):=by
 intro v;obtain⟨v1,b1,q1,q2,q3⟩:=zAH N k 20 hk hN wC wC (k+1) 0 l v wA (jr _) hl;obtain⟨g1,g2⟩:=zrJ 20 k (k+1) 0 l;have g2:=g2 (jr _);unfold zmz;generalize zok 20 k (k+1) 0 l=q at *;have hd:=zAW N k q.1 k hk hN g2 (jm _) q.2 wA;obtain⟨v2,fp,q4,q5,q6⟩:=zrm hd wA (by simp;omega) v1;obtain⟨v3,b3,q7,q8,q9⟩:=zyk N k hk hN k 20 (zjJ q.1 1 (k-(q.1+1)) q.2) v2 wA wC wC (by simp;omega);have ve:v3=v->yi k k 20 (zjJ q.1 1 (k-(q.1+1)) q.2)=l:=fun hv=>by rw[q8 wA,q5 wA,q2 wA]
 refine⟨v3,wA,ve,?_⟩;have hlen:(yi k k 20 (zjJ q.1 1 (k-(q.1+1)) q.2)).length=N:=by simp;omega
 generalize zjJ q.1 1 (k-(q.1+1)) q.2=l2 at *;generalize yi k k 20 l2=l3 at *;simp only[jJ,jg]at q3;rw[show((20:Nat):Int)=20 from rfl]at q3 q9;have hs:∀v0,v0=v->R L Cs zhZ [sN N k,W k,cB] [some { box:=false,esz:=6,rows:=zI l,gen:=N,fz:=false,ver:=v0 }]=some (.t [],[some { box:=false,esz:=6,rows:=zI l3,gen:=N,fz:=false,ver:=v3 }]):=by
  intro v0 h0;subst h0;rw[zUa zh8 rfl];simp[zdj,q3,q6,q9,-zx]
 rw[zUa zhK rfl];by_cases hv:v3=v
 ·have:=ve hv;subst hv this;simp[zcd,hs,blk,hl]
 ·simp[zcd,hs,blk,hl,hlen,hv]
def zts(P M Q:List zk)(x y:zk):swp (P++x::(M++y::Q)) P.length (P.length+1+M.length)=P++y::(M++x::Q):=by
 have e1:(P++x::(M++y::Q)).getD (P.length+1+M.length) z9=y:=by
  grind
 have e2:(P++x::(M++y::Q)).getD P.length z9=x:=by
  grind
 rw[swp,e1,e2,uS _ _ wA,yF,List.set_cons_zero,uS _ _ wA,show P.length+1+M.length-P.length=M.length+1 by omega,List.set_cons_succ,uS _ _ wA,yF,List.set_cons_zero]
theorem zzo(l:List zk)(i j:Nat)(h:i≠j):swp l i j=swp l j i:=by
 unfold swp;exact qD _ _ (ko h) |>.symm ▸ rfl
def zsF(a b:Nat):∀(m i:Nat) (l:List zk),swR a b (i+1) m l=swR (a+1) (b+1) i m l
 |0,i,l=>rfl
 |m+1,i,l=>by
  rw[swR,swR,zsF a b m (i+1),show a+(i+1)=a+1+i by omega,show b+(i+1)=b+1+i by omega]
def zp7:∀(A B P M Q:List zk),A.length=B.length->swR P.length (P.length+A.length+M.length) 0 A.length (P++(A++(M++(B++Q))))=P++(B++(M++(A++Q)))
 |[],[],P,M,Q,_=>rfl
 |x::A,y::B,P,M,Q,h=>by
  have h':A.length=B.length:=by grind
  have:=zp7 A B (P++[y]) (M++[x]) Q h';rw[jl,swR,zsF];have e:swp (P++(x::A++(M++(y::B++Q)))) (P.length+0) (P.length+(A.length+1)+M.length+0)=P++(y::(A++(M++(x::(B++Q))))):=by
   have:=zts P (A++M) (B++Q) x y;simp only[jF,jM,jh]at this ⊢;rw[show P.length+(A.length+1)+M.length+0=P.length+1+(A.length+M.length) by omega,uL];exact this
  grind
def zzC:∀(f:Nat) (P A B Q:List zk) (m:Nat),m=P.length+A.length->0<A.length->0<B.length->A.length+B.length<=f ->
  swR (m-(zkm m f A.length B.length (P++(A++(B++Q)))).1) m 0 (zkm m f A.length B.length (P++(A++(B++Q)))).1 (zkm m f A.length B.length (P++(A++(B++Q)))).2=P++(B++(A++Q)):=by
 intro f;induction f with
 |zero=>grind
 |succ f ih =>
  intro P A B Q m hm ha hb hf;rw[zkm];by_cases c:A.length=B.length
  ·rw[if_pos c];have:=zp7 A B P [] Q c;rw[show m-A.length=P.length by omega,hm];exact this
  ·rw[if_neg c];by_cases c2:B.length<A.length
   ·rw[if_pos c2];have hA:=ki B.length A;have l1:(A.take B.length).length=B.length:=by simp;omega
    have l2:(A.drop B.length).length=A.length-B.length:=wD
    generalize A.take B.length=A1 at *;generalize A.drop B.length=A2 at *;have e:=zp7 A1 B P A2 Q l1;rw[l1]at e;have h2:=ih (P++B) A2 A1 Q m (by simp;omega) wA wA wA;rw[show m-A.length=P.length by omega];have hm2:m=P.length+B.length+A2.length:=wA
    rw[<-hA,jM A1 A2];have e':swR P.length m 0 B.length (P++(A1++(A2++(B++Q))))=P++(B++(A2++(A1++Q))):=by rw[hm2];exact e
    rw[e'];simp only[jM,jF,l1,l2]at h2 ⊢;rw[<-l2]at h2 ⊢;have hs:B.length+A2.length-B.length=A2.length:=wA
    rw[hs];exact h2
   ·rw[if_neg c2];have hB:=ki (B.length-A.length) B;have l1:(B.take (B.length-A.length)).length=B.length-A.length:=wD
    have l2:(B.drop (B.length-A.length)).length=A.length:=by simp;omega
    generalize B.take (B.length-A.length)=B1 at *;generalize B.drop (B.length-A.length)=B2 at *;have e:=zp7 A B2 P B1 Q l2.symm;have h2:=ih P B2 B1 (A++Q) m wA wA wA wA;have e':swR (m-A.length) (m+B.length-A.length) 0 A.length (P++(A++(B++Q)))=P++(B2++(B1++(A++Q))):=by
     rw[<-hB,show m-A.length=P.length by omega,show m+(B1++B2).length-A.length=P.length+A.length+B1.length by simp;omega];simp only[jM];exact e
    rw[e',<-l1,<-hB];rw[l2]at h2;simp only[jM];exact h2
def zzD(P A B Q:List zk)(ha:0<A.length)(hb:0<B.length):ztB P.length (P.length+A.length) (P.length+A.length+B.length) (P++(A++(B++Q)))=P++(B++(A++Q)):=by
 have:=zzC (A.length+B.length) P A B Q _ rfl ha hb (jm _)
 grind [ztB]
def zxl:∀(C P Q:List zk) (x:zk),upF P.length C.length (P++x::(C++Q))=P++(C++x::Q)
 |[],P,Q,x=>rfl
 |y::C,P,Q,x=>by
  have h:=zts P [] (C++Q) x y;have h2:=zxl C (P++[y]) Q x
  simp_all [je,jp,uL,jl,upF,jh,jF,jM]
def zxG:∀(n:Nat) (C P Q:List zk) (x:zk),C.length=n->dnF (P.length+C.length) C.length (P++(C++x::Q))=P++x::(C++Q)
 |0,C,P,Q,x,h=>by
  have:C=[]:=kc.1 h;subst this;rfl
 |n+1,C,P,Q,x,h=>by
  obtain⟨D,y,rfl⟩:∃D y,C=D++[y]:=by
   rcases uV C with e |⟨D,y,e⟩
   ·grind
   grind
  have hD:D.length=n:=by grind
  have h1:=zts (P++D) [] Q y x;have h2:=zxG n D P (y::Q) x hD
  grind [List.length_append,List.length_cons,List.length_nil,List.append_assoc,dnF,zzo]
def zmj(p:Nat->Bool):∀(f i j:Nat),j-i<=f->i<=j->(∀x y,i<=x->x<=y->y<j->p y=true->p x=true)->∀h,i<=h->h<j->(p h=true<->h<bsF p f i j)
 |0,i,j,hf,hi,hm,h,h1,h2=>wA
 |f+1,i,j,hf,hi,hm,h,h1,h2=>by
  rw[bsF,if_pos wA];by_cases c:p ((i+j) / 2)=true
  ·rw[if_pos c];by_cases c2:h<=(i+j) / 2
   ·grind [zju]
   ·exact zmj p f ((i+j) / 2+1) j wA wA (fun x y a b d e=>hm x y wA b d e) h wA h2
  ·rw[if_neg c];by_cases c2:(i+j) / 2<=h
   ·grind [zju,absurd]
   ·exact zmj p f i ((i+j) / 2) wA wA (fun x y a b d e=>hm x y a b wA e) h h1 wA
abbrev Srt(l:List zk):Prop:=l.Pairwise leB
def zw6(a b:zk):¬ziK a b<0<->leB b a:=by rw[znX,zqc]
def zyY{a b:zk}(h:ziK a b<0):leB a b:=zxy ((znX a b).1 h)
def zyX{u w x:zk}(h:leB u w)(g:ziK w x<0):ziK u x<0:=by
 rw[znX]at *
 grind [leB,ltB]
def Mrg(P A B Q r:List zk):Prop:=∃S,r=P++(S++Q)/\S.Perm (A++B)/\Srt S
def zoR{A R:List zk}{h:Nat}(P:List zk)(h1:P.length<=h)(h2:h<P.length+A.length):(P++(A++R)).getD h z9=A.getD (h-P.length) z9:=by
 grind
def zns{A B Q:List zk}{h:Nat}(P:List zk)(h1:P.length+A.length<=h)(h2:h<P.length+A.length+B.length):(P++(A++(B++Q))).getD h z9=B.getD (h-(P.length+A.length)) z9:=by
 grind
def ziQ{A:List zk}(h:Srt A){i j:Nat}(hij:i<=j)(hj:j<A.length):leB (A.getD i z9) (A.getD j z9):=by
 rcases Nat.lt_or_eq_of_le hij with hij|rfl
 ·grind [List.pairwise_iff_getElem]
 ·exact .inr ⟨rfl,jQ _⟩
def zi3{A:List zk}{x:zk}(h:x∈A):∃i,i<A.length/\A.getD i z9=x:=by
 obtain⟨i,hi,rfl⟩:=uy h;exact⟨i,hi,by grind⟩
def ztr(P B Q:List zk)(x:zk)(hB:Srt B)(hb:0<B.length):Mrg P [x] B Q (upF P.length (bsF (pA (P++([x]++(B++Q))) P.length) B.length (P.length+1) (P.length+1+B.length)-1-P.length) (P++([x]++(B++Q)))):=by
 have hx:(P++([x]++(B++Q))).getD P.length z9=x:=by grind
 have hp:∀h,P.length+1<=h->h<P.length+1+B.length->(pA (P++([x]++(B++Q))) P.length h=true<->ziK (B.getD (h-(P.length+1)) z9) x<0):=by
  intro h h1 h2;unfold pA;rw[hx,zns P (by simpa using h1) (by simpa using h2)];simp
 have hs:=zmj (pA (P++([x]++(B++Q))) P.length) B.length (P.length+1) (P.length+1+B.length) wA wA (by
  intro a b h1 h2 h3 h4;rw[hp b wA h3]at h4;rw[hp a h1 wA];exact zyX (ziQ hB wA wA) h4)
 have hb1:=zju (pA (P++([x]++(B++Q))) P.length) B.length (P.length+1) (P.length+1+B.length) wA;generalize bsF (pA (P++([x]++(B++Q))) P.length) B.length (P.length+1) (P.length+1+B.length)=r at *;have hB2:=ki (r-(P.length+1)) B;have l1:(B.take (r-(P.length+1))).length=r-(P.length+1):=by simp;omega
 have k1:∀y∈B.take (r-(P.length+1)),leB y x:=by
  intro y hy;obtain⟨i,hi,rfl⟩:=zi3 hy;rw[l1]at hi;have:=(hs (P.length+1+i) wA wA).2 wA;rw[hp _ wA wA,show P.length+1+i-(P.length+1)=i by omega]at this;have e:(B.take (r-(P.length+1))).getD i z9=B.getD i z9:=by simp[jG,kd hi]
  rw[e];exact zyY this
 have k2:∀y∈B.drop (r-(P.length+1)),leB x y:=by
  intro y hy;obtain⟨i,hi,rfl⟩:=zi3 hy;simp only[List.length_drop]at hi;have:=mt (hs (r+i) wA wA).1 wA;rw[hp _ wA wA,zw6]at this;have e:(B.drop (r-(P.length+1))).getD i z9=B.getD (r+i-(P.length+1)) z9:=by simp only[jG,qP];rw[show r-(P.length+1)+i=r+i-(P.length+1) by omega]
  rw[e];exact this
 generalize B.take (r-(P.length+1))=B1 at *;generalize B.drop (r-(P.length+1))=B2 at *;subst hB2;have hu:=zxl B1 P (B2++Q) x;refine⟨B1++x::B2,?_,?_,?_⟩
 ·rw[show r-1-P.length=B1.length by omega];simp only[jM,jh,je]at hu ⊢;exact hu
 ·exact yl
 ·have hsr:=kE.1 hB;refine kE.2 ⟨hsr.1,jX.2 ⟨k2,hsr.2.1⟩,fun a ha b hb=>?_⟩;rcases jK.1 hb with rfl|hb
  ·exact k1 a ha
  ·exact hsr.2.2 a ha b hb
def zr2(P A Q:List zk)(y:zk)(hA:Srt A):Mrg P A [y] Q (dnF (P.length+A.length) (P.length+A.length-bsF (pB (P++(A++([y]++Q))) (P.length+A.length)) A.length P.length (P.length+A.length)) (P++(A++([y]++Q)))):=by
 have hy:(P++(A++([y]++Q))).getD (P.length+A.length) z9=y:=by rw[zns P (jm _) wD];simp
 have hp:∀h,P.length<=h->h<P.length+A.length->(pB (P++(A++([y]++Q))) (P.length+A.length) h=true<->leB (A.getD (h-P.length) z9) y):=by
  intro h h1 h2;unfold pB;rw[hy,zoR P h1 h2,<-zw6];simp
 have hs:=zmj (pB (P++(A++([y]++Q))) (P.length+A.length)) A.length P.length (P.length+A.length) wA wA (by
  intro a b h1 h2 h3 h4;rw[hp b wA h3]at h4;rw[hp a h1 wA];exact zfs (ziQ hA wA wA) h4)
 have hb1:=zju (pB (P++(A++([y]++Q))) (P.length+A.length)) A.length P.length (P.length+A.length) wA;generalize bsF (pB (P++(A++([y]++Q))) (P.length+A.length)) A.length P.length (P.length+A.length)=r at *;have hA2:=ki (r-P.length) A;have l1:(A.take (r-P.length)).length=r-P.length:=by grind
 have k1:∀x∈A.take (r-P.length),leB x y:=by
  intro x hx;obtain⟨i,hi,rfl⟩:=zi3 hx;rw[l1]at hi;have:=(hs (P.length+i) wA wA).2 wA;rw[hp _ wA wA,show P.length+i-P.length=i by omega]at this;have e:(A.take (r-P.length)).getD i z9=A.getD i z9:=by simp[jG,kd hi]
  rw[e];exact this
 have k2:∀x∈A.drop (r-P.length),leB y x:=by
  intro x hx;obtain⟨i,hi,rfl⟩:=zi3 hx;simp only[List.length_drop]at hi;have:=mt (hs (r+i) wA wA).1 wA;rw[hp _ wA wA,zqc,Decidable.not_not]at this;have e:(A.drop (r-P.length)).getD i z9=A.getD (r+i-P.length) z9:=by simp only[jG,qP];rw[show r-P.length+i=r+i-P.length by omega]
  rw[e];exact zxy this
 have l2:(A.drop (r-P.length)).length=P.length+A.length-r:=by simp;omega
 generalize A.take (r-P.length)=A1 at *;generalize A.drop (r-P.length)=A2 at *;subst hA2;have hd:=zxG A2.length A2 (P++A1) Q y rfl;refine⟨A1++y::A2,?_,?_,?_⟩
 ·rw[<-l2];simp only[jM,jh,je,jF,qf]at hd ⊢;exact hd
 ·have:(A1++y::A2).Perm (A1++(A2++[y])):=List.Perm.append_left _ (List.perm_append_singleton y A2).symm;simpa using this
 ·have hsr:=kE.1 hA;refine kE.2 ⟨hsr.1,jX.2 ⟨k2,hsr.2.1⟩,fun a ha b hb=>?_⟩;rcases jK.1 hb with rfl|hb
  ·exact k1 a ha
  ·exact hsr.2.2 a ha b hb
def zuD:∀(f:Nat) (P A B Q:List zk),0<A.length->0<B.length->A.length+B.length<=f->Srt A->Srt B->Mrg P A B Q (zlI f P.length (P.length+A.length) (P.length+A.length+B.length) (P++(A++(B++Q)))):=by
 intro f;induction f with
 |zero=>intro P A B Q h1 h2 h3;omega
 |succ f ih =>
  intro P A B Q hA0 hB0 hf hA hB;rw[zlI];by_cases c1:P.length+A.length-P.length=1
  ·rw[if_pos c1];obtain⟨x,rfl⟩:∃x,A=[x]:=yb.1 wA;have:=ztr P B Q x hB hB0;simp only[jl,jp,jJ]at this ⊢;rw[show P.length+1+B.length-(P.length+1)=B.length by omega];exact this
  ·rw[if_neg c1];by_cases c2:P.length+A.length+B.length-(P.length+A.length)=1
   ·rw[if_pos c2];obtain⟨y,rfl⟩:∃y,B=[y]:=yb.1 wA;have:=zr2 P A Q y hA;rw[show P.length+A.length-P.length=A.length by omega];exact this
   ·rw[if_neg c2];have hm:zbS P.length (P.length+A.length+B.length)=(P.length+(P.length+A.length+B.length)) / 2:=rfl;have hlo:loS P.length (P.length+A.length) (P.length+A.length+B.length)<=hiS P.length (P.length+A.length) (P.length+A.length+B.length):=by unfold loS hiS;split<;>omega
    have hsp:=zmj (pC (P++(A++(B++Q))) (zbS P.length (P.length+A.length+B.length)+(P.length+A.length)-1)) (hiS P.length (P.length+A.length) (P.length+A.length+B.length)-loS P.length (P.length+A.length) (P.length+A.length+B.length)) (loS P.length (P.length+A.length) (P.length+A.length+B.length)) (hiS P.length (P.length+A.length) (P.length+A.length+B.length)) (jm _) hlo;have hbd:=zju (pC (P++(A++(B++Q))) (zbS P.length (P.length+A.length+B.length)+(P.length+A.length)-1)) (hiS P.length (P.length+A.length) (P.length+A.length+B.length)-loS P.length (P.length+A.length) (P.length+A.length+B.length)) (loS P.length (P.length+A.length) (P.length+A.length+B.length)) (hiS P.length (P.length+A.length) (P.length+A.length+B.length)) hlo;have eS:bsF (pC (P++(A++(B++Q))) (zbS P.length (P.length+A.length+B.length)+(P.length+A.length)-1)) (hiS P.length (P.length+A.length) (P.length+A.length+B.length)-loS P.length (P.length+A.length) (P.length+A.length+B.length)) (loS P.length (P.length+A.length) (P.length+A.length+B.length)) (hiS P.length (P.length+A.length) (P.length+A.length+B.length))=stS P.length (P.length+A.length) (P.length+A.length+B.length) (P++(A++(B++Q))):=rfl;rw[eS]at hsp hbd;have eE:enS P.length (P.length+A.length) (P.length+A.length+B.length) (P++(A++(B++Q)))=zbS P.length (P.length+A.length+B.length)+(P.length+A.length)-stS P.length (P.length+A.length) (P.length+A.length+B.length) (P++(A++(B++Q))):=rfl;have BT:(zbS P.length (P.length+A.length+B.length)<P.length+A.length/\loS P.length (P.length+A.length) (P.length+A.length+B.length)=zbS P.length (P.length+A.length+B.length)+(P.length+A.length)-(P.length+A.length+B.length)/\hiS P.length (P.length+A.length) (P.length+A.length+B.length)=zbS P.length (P.length+A.length+B.length))\/(P.length+A.length<=zbS P.length (P.length+A.length+B.length)/\loS P.length (P.length+A.length) (P.length+A.length+B.length)=P.length/\hiS P.length (P.length+A.length) (P.length+A.length+B.length)=P.length+A.length):=by
     by_cases c:zbS P.length (P.length+A.length+B.length)<P.length+A.length
     ·left;exact⟨c,by rw[loS,if_pos c],by rw[hiS,if_pos c]⟩
     ·right;exact⟨wA,by rw[loS,if_neg c],by rw[hiS,if_neg c]⟩
    unfold zjz;generalize hst:stS P.length (P.length+A.length) (P.length+A.length+B.length) (P++(A++(B++Q)))=st at *;generalize hen:enS P.length (P.length+A.length) (P.length+A.length+B.length) (P++(A++(B++Q)))=en at *;generalize hmid:zbS P.length (P.length+A.length+B.length)=mid at *;generalize hloe:loS P.length (P.length+A.length) (P.length+A.length+B.length)=lo at *;generalize hhie:hiS P.length (P.length+A.length) (P.length+A.length+B.length)=hi at *;have b1:P.length<=lo/\hi<=P.length+A.length/\P.length+A.length<=en/\en<=P.length+A.length+B.length:=wA
    have hp:∀c,lo<=c->c<hi->(pC (P++(A++(B++Q))) (mid+(P.length+A.length)-1) c=true<->leB (A.getD (c-P.length) z9) (B.getD (mid-1-c+P.length-P.length) z9)):=by
     intro c h1 h2;unfold pC;rw[zns P (h:=mid+(P.length+A.length)-1-c) wA wA,zoR P wA wA,<-zw6,show mid+(P.length+A.length)-1-c-(P.length+A.length)=mid-1-c+P.length-P.length by omega];simp
    have hsp:=hsp (by
     intro a b h1 h2 h3 h4;rw[hp b wA h3]at h4;rw[hp a h1 wA];refine zfs (ziQ hA wA wA) (zfs h4 (ziQ hB wA wA)))
    have hA2:=ki (st-P.length) A;have hB2:=ki (en-(P.length+A.length)) B;have la1:(A.take (st-P.length)).length=st-P.length:=by simp;omega
    have la2:(A.drop (st-P.length)).length=P.length+A.length-st:=by simp;omega
    have lb1:(B.take (en-(P.length+A.length))).length=en-(P.length+A.length):=by simp;omega
    have lb2:(B.drop (en-(P.length+A.length))).length=P.length+A.length+B.length-en:=by simp;omega
    have k1:∀x∈A.take (st-P.length),∀y∈B.drop (en-(P.length+A.length)),leB x y:=by
     intro x hx y hy;obtain⟨i,hi',rfl⟩:=zi3 hx;obtain⟨j,hj',rfl⟩:=zi3 hy;have e1:(A.take (st-P.length)).getD i z9=A.getD i z9:=by simp[jG,kd (by omega:i<st-P.length)]
     have e2:(B.drop (en-(P.length+A.length))).getD j z9=B.getD (en-(P.length+A.length)+j) z9:=by simp only[jG,qP]
     rw[e1,e2];have h0:=(hsp (st-1) wA wA).2 wA;rw[hp _ wA wA]at h0;exact zfs (ziQ hA wA wA) (zfs h0 (ziQ hB wA wA))
    have k2:∀y∈B.take (en-(P.length+A.length)),∀x∈A.drop (st-P.length),leB y x:=by
     intro y hy x hx;obtain⟨i,hi',rfl⟩:=zi3 hx;obtain⟨j,hj',rfl⟩:=zi3 hy;have e1:(A.drop (st-P.length)).getD i z9=A.getD (st-P.length+i) z9:=by simp only[jG,qP]
     have e2:(B.take (en-(P.length+A.length))).getD j z9=B.getD j z9:=by simp[jG,kd (by omega:j<en-(P.length+A.length))]
     rw[e1,e2];have h0:=mt (hsp st wA wA).1 wA;rw[hp _ wA wA,zqc,Decidable.not_not]at h0;exact zfs (ziQ hB wA wA) (zfs (zxy h0) (ziQ hA wA wA))
    generalize A.take (st-P.length)=A1 at *;generalize A.drop (st-P.length)=A2 at *;generalize B.take (en-(P.length+A.length))=B1 at *;generalize B.drop (en-(P.length+A.length))=B2 at *;subst hA2 hB2;have sA:=kE.1 hA;have sB:=kE.1 hB;simp only[jF]at *;have ht:(if st<P.length+(A1.length+A2.length)/\P.length+(A1.length+A2.length)<en then ztB st (P.length+(A1.length+A2.length)) en (P++(A1++A2++(B1++B2++Q))) else P++(A1++A2++(B1++B2++Q)))=P++(A1++(B1++(A2++(B2++Q)))):=by
     split
     ·rename_i hc;have:=zzD (P++A1) A2 B1 (B2++Q) wA wA;simp only[jF,jM]at this ⊢;rw[show st=P.length+A1.length by omega,show P.length+(A1.length+A2.length)=P.length+A1.length+A2.length by omega,show en=P.length+A1.length+A2.length+B1.length by omega];exact this
     ·rename_i hc;have:A2.length=0\/B1.length=0:=wA
      rcases this with h|h
      ·have:A2=[]:=kc.1 h;subst this;simp
      ·have:B1=[]:=kc.1 h;subst this;simp
    rw[ht];have hL:∃S1,(if P.length<st/\st<mid then zlI f P.length st mid (P++(A1++(B1++(A2++(B2++Q))))) else P++(A1++(B1++(A2++(B2++Q)))))=P++(S1++(A2++(B2++Q)))/\S1.Perm (A1++B1)/\Srt S1:=by
     split
     ·have:=ih P A1 B1 (A2++(B2++Q)) wA wA wA sA.1 sB.1;rw[show P.length+A1.length=st by omega,show st+B1.length=mid by omega]at this;exact this
     ·have:A1.length=0\/B1.length=0:=wA
      refine⟨A1++B1,wD,uG _,?_⟩;rcases this with h|h
      ·have:A1=[]:=kc.1 h;subst this;simpa using sB.1
      ·have:B1=[]:=kc.1 h;subst this;simpa using sA.1
    obtain⟨S1,e1,p1,o1⟩:=hL;rw[e1];have hl1:=p1.length_eq;simp only[jF]at hl1;have hR:∃S2,(if mid<en/\en<P.length+(A1.length+A2.length)+(B1.length+B2.length) then zlI f mid en (P.length+(A1.length+A2.length)+(B1.length+B2.length)) (P++(S1++(A2++(B2++Q)))) else P++(S1++(A2++(B2++Q))))=P++(S1++(S2++Q))/\S2.Perm (A2++B2)/\Srt S2:=by
     split
     ·obtain⟨S2,g1,g2,g3⟩:=ih (P++S1) A2 B2 Q wA wA wA sA.2.1 sB.2.1;simp only[jF,jM]at g1;rw[show P.length+S1.length=mid by omega,show mid+A2.length=en by omega,show en+B2.length=P.length+(A1.length+A2.length)+(B1.length+B2.length) by omega]at g1;exact⟨S2,g1,g2,g3⟩
     ·have:A2.length=0\/B2.length=0:=wA
      refine⟨A2++B2,wD,uG _,?_⟩;rcases this with h|h
      ·have:A2=[]:=kc.1 h;subst this;simpa using sB.2.1
      ·have:B2=[]:=kc.1 h;subst this;simpa using sA.2.1
    obtain⟨S2,e2,p2,o2⟩:=hR;refine⟨S1++S2,by rw[e2];simp,?_,kE.2 ⟨o1,o2,fun a ha b hb=>?_⟩⟩
    ·refine(p1.append p2).trans ?_;simp only[jM];refine List.Perm.append_left _ ?_;rw[<-jM,<-jM];exact List.Perm.append_right _ List.perm_append_comm
    ·have ha:=p1.subset ha;have hb:=p2.subset hb;rcases jL.1 ha with ha|ha<;>rcases jL.1 hb with hb|hb
     ·exact sA.2.2 a ha b hb
     ·exact k1 a ha b hb
     ·exact k2 a ha b hb
     ·exact sB.2.2 a ha b hb
def zvC(a:Nat):∀(c:Nat) (P l:List zk),P.length=a->zrH a c (P++l)=P++bub l c
 |0,P,l,_=>rfl
 |c+1,P,l,h=>by
  have g:∀i,(P++l).getD (a+i) z9=l.getD i z9:=fun i=>by
   grind
  have e1:=g (c+1);have e2:=g c;rw[show a+(c+1)=a+c+1 by omega]at e1;rw[zrH,bub,e1,e2];split
  ·rw[<-zvC a c P _ h]
   grind [swp,List.set_append_right]
  simp
def zs3(a:Nat):∀(m i:Nat) (P l:List zk),P.length=a->zjJ a i m (P++l)=P++zq4 l i m
 |0,i,P,l,_=>rfl
 |m+1,i,P,l,h=>by rw[zjJ,zq4,zvC a i P l h,zs3 a m (i+1) P _ h]
def zs2:∀(r s Q:List zk),zq4 (s++(r++Q)) s.length r.length=r.foldl zfK s++Q
 |[],s,Q=>by simp[zq4]
 |x::r,s,Q=>by
  have e:bub (s++(x::r++Q)) s.length=zfK s x++(r++Q):=zup x s.length s (r++Q) rfl;rw[jl,zq4,e,j8];have h:=zs2 r (zfK s x) Q
  grind [zn4]
theorem zyQ(s:List zk)(x:zk):(zfK s x).Perm (x::s):=by
 grind [zfK,List.take_append_drop,zev]
theorem znu:∀(r s:List zk),(r.foldl zfK s).Perm (s++r)
 |[],s=>wD
 |x::r,s=>by
  refine(znu r (zfK s x)).trans ?_
  grind [zyQ,trans,List.perm_middle]
def zq5(P C Q:List zk):∃S,zjJ P.length 1 (P.length+C.length-(P.length+1)) (P++(C++Q))=P++(S++Q)/\S.Perm C/\Srt S:=by
 rw[zs3 P.length _ 1 P _ rfl];cases C with
 |nil=>simp[zq4,uG]
 |cons x r =>
  have h:=zs2 r [x] Q;refine⟨r.foldl zfK [x],?_,by grind [znu],ziR r [x] wD⟩
  grind
inductive Chf (bs:Nat):List zk->Prop
 |nil:Chf bs []
 |cons {C R:List zk}:C.length=bs->Srt C->Chf bs R->Chf bs (C++R)
inductive Chs (bs:Nat):List zk->Prop
 |one {C:List zk}:C.length<=bs->Srt C->Chs bs C
 |cons {C R:List zk}:C.length=bs->Srt C->Chs bs R->Chs bs (C++R)
def Chf.snoc{bs:Nat}{R C:List zk}(h:Chf bs R)(hc:C.length<=bs)(hs:Srt C):Chs bs (R++C):=by
 induction h with
 |nil=>simpa using Chs.one hc hs
 |cons a b _ ih=>rw[jM];exact Chs.cons a b ih
def Chs.short{bs:Nat}{R:List zk}(h:Chs bs R)(hl:R.length<=bs):Srt R:=by
 cases h with
 |one _ h=>grind
 |cons a b c =>
  grind [List.length_eq_zero_iff]
def Chs.long{bs:Nat}{R:List zk}(h:Chs bs R)(hl:bs<R.length):∃C R',R=C++R'/\C.length=bs/\Srt C/\Chs bs R':=by
 cases h with
 |one h _=>omega
 |cons a b c=>grind
def Chs.two{bs:Nat}(h0:0<bs){R:List zk}(h:Chs bs R)(hl:2*bs<=R.length):∃A B R',R=A++(B++R')/\A.length=bs/\B.length=bs/\Srt A/\Srt B/\Chs bs R':=by
 obtain⟨A,R1,rfl,a1,a2,a3⟩:=h.long wA;simp at hl;by_cases c:bs<R1.length
 ·obtain⟨B,R2,rfl,b1,b2,b3⟩:=a3.long c
  grind
 ·exact⟨A,R1,[],wD,a1,wA,a2,a3.short wA,Chs.one wD List.Pairwise.nil⟩
def zAG(bs k:Nat)(T:List zk):∀(f:Nat) (P R:List zk),P.length+R.length=k->R.length<f*bs->∃R1 R2,zok bs k f P.length (P++(R++T))=(P.length+R1.length,P++(R1++(R2++T)))/\(R1++R2).Perm R/\Chf bs R1/\R2.length<bs:=by
 intro f;induction f with
 |zero=>grind
 |succ f ih =>
  intro P R h1 h2;rw[zok];by_cases c:P.length+bs<=k
  ·rw[if_pos c];have hR:=ki bs R;have l1:(R.take bs).length=bs:=by simp;omega
   have l2:(R.drop bs).length=R.length-bs:=wD
   generalize R.take bs=C at *;generalize R.drop bs=R' at *;subst hR;obtain⟨S,e,p,s⟩:=zq5 P C (R'++T);have hs:=p.length_eq;rw[l1]at e;obtain⟨R1,R2,g1,g2,g3,g4⟩:=ih (P++S) R' (by simp at h1 ⊢;omega) (by rw[qZ]at h2;omega);rw[jM C,e];simp only[jF,jM]at g1;rw[show P.length+S.length=P.length+bs by omega]at g1;rw[g1];refine⟨S++R1,R2,by simp;omega,?_,Chf.cons wA s g3,g4⟩;rw[jM];exact p.append g2
  ·rw[if_neg c];exact⟨[],R,wD,wD,Chf.nil,wA⟩
def zzY(bs k:Nat)(h0:0<bs)(T:List zk):∀(f:Nat) (P R:List zk),P.length+R.length=k->R.length<f*(2*bs)->Chs bs R->∃R1 R2,zgP bs k f P.length (P++(R++T))=(P.length+R1.length,P++(R1++(R2++T)))/\(R1++R2).Perm R/\Chf (2*bs) R1/\R2.length<2*bs/\Chs bs R2:=by
 intro f;induction f with
 |zero=>grind
 |succ f ih =>
  intro P R h1 h2 hc;rw[zgP];by_cases c:P.length+2*bs<=k
  ·rw[if_pos c];obtain⟨A,B,R',rfl,a1,b1,a2,b2,r3⟩:=hc.two h0 wA;obtain⟨S,e,p,s⟩:=zuD (2*bs) P A B (R'++T) wA wA wA a2 b2;have hs:=p.length_eq;simp only[jF]at hs h1 h2;obtain⟨R1,R2,g1,g2,g3,g4,g5⟩:=ih (P++S) R' (by simp;omega) (by rw[qZ]at h2;omega) r3;rw[a1,b1,show P.length+bs+bs=P.length+2*bs by omega]at e;simp only[jM];rw[e];simp only[jF,jM]at g1;rw[show P.length+S.length=P.length+2*bs by omega]at g1;rw[g1];refine⟨S++R1,R2,by simp;omega,?_,Chf.cons wA s g3,g4,g5⟩;rw[jM];refine(p.append g2).trans ?_;simp
  ·rw[if_neg c];exact⟨[],R,wD,wD,Chf.nil,wA,hc⟩
def zyj(bs:Nat)(h0:0<bs)(R T:List zk)(h:Chs bs R):∃R',zjE bs R.length (R++T)=R'++T/\R'.Perm R/\Chs (2*bs) R':=by
 obtain⟨R1,R2,e,p,c1,l2,c2⟩:=zzY bs R.length h0 T (R.length+1) [] R wD (by have:R.length+1<=(R.length+1)*(2*bs):=qV _ wA;omega) h;simp only[je,jp,jJ]at e;have hl:=p.length_eq;simp only[jF]at hl;unfold zjE;rw[e];by_cases c:R1.length+bs<R.length
 ·obtain⟨A,B,rfl,a1,a2,a3⟩:=c2.long wA;simp only[jF]at hl l2;obtain⟨S,e2,p2,s2⟩:=zuD (R.length-R1.length) R1 A B T wA wA wA a2 (a3.short wA);have hs:=p2.length_eq;simp only[jF]at hs;refine⟨R1++S,?_,?_,c1.snoc wA s2⟩
  ·grind
  grind
 ·rw[if_neg c];exact⟨R1++R2,wD,p,c1.snoc wA (c2.short wA)⟩
def zpp(T:List zk):∀(f bs:Nat) (R:List zk),0<bs->R.length<bs+f->Chs bs R->∃S,yi R.length f bs (R++T)=S++T/\S.Perm R/\Srt S
 |0,bs,R,h0,hf,hc=>⟨R,rfl,uG _,hc.short wA⟩
 |f+1,bs,R,h0,hf,hc=>by
  rw[yi];by_cases c:bs<R.length
  ·obtain⟨R',e,p,hc'⟩:=zyj bs h0 R T hc;have hl:=p.length_eq;obtain⟨S,e2,p2,s2⟩:=zpp T f (2*bs) R' wA wA hc'
   grind
  ·rw[if_neg c];exact⟨R,rfl,uG _,hc.short wA⟩
def zuI(R T:List zk):∃S,zmz R.length (R++T)=S++T/\S.Perm R/\Srt S:=by
 obtain⟨R1,R2,e,p,c1,l2⟩:=zAG 20 R.length T (R.length+1) [] R wD (by grind);simp only[je,jp,jJ]at e;have hl:=p.length_eq;unfold zmz;obtain⟨S2,e2,p2,s2⟩:=zq5 R1 R2 T;have h2:=p2.length_eq;have hc:Chs 20 (R1++S2):=c1.snoc wA s2;obtain⟨S,e3,p3,s3⟩:=zpp T R.length 20 (R1++S2) wD (by grind) hc
 grind
def zs4{x y:zk}(h:x.lane=y.lane):zeM x y=zeM y x:=by
 grind [zeM]
def zyR(a x y:zk):zeM (zeM a x) y=zeM (zeM a y) x:=by
 grind [zeM,max]
def zds(o:List zk)(a b:zk):zaQ (o++[a]) b=if meets a b=true then o++[zeM a b] else o++[a]++[b]:=by
 simp[zaQ,meets,if_pos,if_neg]
def zse(out:List zk){x y:zk}(h1:x.lane=y.lane)(h2:x.lo=y.lo)(hx:x.lo<=x.hi)(hy:y.lo<=y.hi):zaQ (zaQ out x) y=zaQ (zaQ out y) x:=by
 have hm:∀a,meets a x=meets a y:=fun a=>by grind [meets]
 have m1:meets x y=true:=by grind [meets]
 have m2:meets y x=true:=by grind [meets]
 rcases uV out with e |⟨o,a,e⟩
 ·simp_all [zaQ,zds,if_pos,zs4]
 ·rw[yh]at e;subst e;rw[zds,zds,<-hm a];by_cases c:meets a x=true
  ·have c1:meets (zeM a x) y=true:=by
    grind [meets,zeM]
   have c2:meets (zeM a y) x=true:=by
    grind [meets,zeM]
   simp_all [if_pos,zds,zyR]
  ·rw[if_neg c,if_neg c,zds,zds,if_pos m1,if_pos m2,zs4 h1]
theorem zrb{x:zk}(hx:x.lo<=x.hi):∀(u:List zk) (g:List zk),(∀y∈u,y.lane=x.lane/\y.lo=x.lo/\y.lo<=y.hi)->u.foldl zaQ (zaQ g x)=zaQ (u.foldl zaQ g) x
 |[],g,h=>rfl
 |y::u,g,h=>by
  obtain⟨h1,h2,h3⟩:=h y (js ..);simp only[j8];rw[zse g h1.symm h2.symm hx h3,zrb hx u (zaQ g y) fun z hz=>h z (jE _ hz)]
def zn8:∀(s t:List zk) (g:List zk),s.Perm t->Srt s->Srt t->(∀x∈s,x.lo<=x.hi)->s.foldl zaQ g=t.foldl zaQ g
 |[],t,g,hp,_,_,_=>by simp_all
 |x::s,t,g,hp,hs,ht,hn=>by
  have hx:x∈t:=hp.mem_iff.1 (js ..);obtain⟨u,v,rfl⟩:=List.append_of_mem hx;have hp':s.Perm (u++v):=(List.perm_cons x).1 (hp.trans yl);have ht':Srt (u++v):=ht.sublist (List.Sublist.append_left (List.sublist_cons_self ..) u);obtain⟨hs1,hs2⟩:=jX.1 hs;have ih:=zn8 s (u++v) (zaQ g x) hp' hs2 ht' fun y hy=>hn y (jE _ hy)
  have hu:∀y∈u,y.lane=x.lane/\y.lo=x.lo/\y.lo<=y.hi:=by
   grind [leB,List.mem_cons_self,List.mem_append_left,List.mem_cons_of_mem]
  grind [zrb,List.mem_cons_self]
def zq6{l:List zk}:∀x∈l.filter (fun b=>!bad b),x.lo<=x.hi:=by
 grind
def zAi{l S:List zk}(hp:S.Perm (l.filter fun b=>!bad b))(hs:Srt S):S.foldl zaQ []=zcz l:=by
 rw[<-zAh];unfold zAj;rw[zsN];refine zn8 S _ [] ?_ hs (ziR _ [] List.Pairwise.nil) (fun x hx=>zq6 x (hp.subset hx));exact hp.trans (by simpa using(znu (l.filter fun b=>!bad b) []).symm)
def zso(l:List zk)(hl:l.length<=100000000000)(hok:∀x∈l,OKB x):R L Cs zsj [.c (.jb (zI l))] []=some (.w (.c (.jb (zI (zcz l)))),[]):=by
 have hc:=zvv l wA;obtain⟨l',v1,d1,d2,d3,d4,d5,hD⟩:=zuw l l.length wA;obtain⟨S,e,p,s⟩:=zuI (l.filter fun b=>!bad b) (l'.drop (l.filter fun b=>!bad b).length);have hsl:=p.length_eq;have hdec:(l.filter fun b=>!bad b)++l'.drop (l.filter fun b=>!bad b).length=l':=by
  conv=>lhs;arg 1;rw[<-d5]
  exact ki _ _
 rw[hdec]at e;obtain⟨v2,s1,s2,hS⟩:=zsp l'.length (l.filter fun b=>!bad b).length wA wA l' rfl v1;rw[e]at s2 hS;have htk:(S++l'.drop (l.filter fun b=>!bad b).length).take (l.filter fun b=>!bad b).length=S:=by
  rw[<-hsl,List.take_left]
 have hSl0:(S++l'.drop (l.filter fun b=>!bad b).length).length=l.length:=by simp;omega
 obtain⟨w',hJ⟩:=zyO (S++l'.drop (l.filter fun b=>!bad b).length) (l.filter fun b=>!bad b).length wA wA v2 (by
  rw[htk];intro x hx;exact hok x (uO.1 (p.subset hx)).1) _ 0 [] 0 rfl (jr _) (jr _) wD
 rw[u7,htk,zAi p s]at hJ;generalize hk:(l.filter fun b=>!bad b).length=k at *;generalize zcz l=Q at *;generalize S++l'.drop k=S' at *;simp only[blk,hSl0,d3,jg,jp,zic,qs,je]at hD hS hJ;rw[zUa zsx rfl];by_cases q1:v1=l.length
 ·have e1:=d2 q1;by_cases q2:v2=v1
  ·have e2:=s2 q2;rw[e1,q1]at hD;rw[e2,e1,q2,q1]at hS hJ;simp[zeQ,hc,hD,hS,hJ]
  ·rw[e1,q1]at hD;rw[e1,q1]at hS;rw[q1]at q2;simp[zeQ,hc,hD,hS,hJ,q2]
 ·by_cases q2:v2=v1
  ·have e2:=s2 q2;rw[e2,q2]at hS hJ;simp[zeQ,hc,hD,hS,hJ,q1]
  ·simp[zeQ,hc,hD,hS,hJ,q1,q2]
def zfx(len:Int)(e:Ego):Int:=e.shi-len-1
def zex(m:zD)(zs:List Zon)(ss:List Sgn)(r:List Int)(len:Int)(k:zci)(e:Ego)(signals:Bool):List zk :=
 zgt m zs ss r (zfx len e) e.slo len k signals (zkr m k.ego len r k.jZ)++(zbK m 0 m.jd).flatMap (zfb m (r.getD 0 0) (zfx len e))
def zfV(m:zD)(zs:List Zon)(ss:List Sgn)(r:List Int)(len:Int)(k:zci)(e:Ego)(signals:Bool):List Swp :=
 zhM m zs ss r (zfx len e) e.slo len k signals (zkr m k.ego len r k.jZ)
def zpg(m:zD)(zs:List Zon)(ss:List Sgn)(r:List Int)(len:Int)(k:zci)(e:Ego)(signals:Bool):zci :=
 ⟨k.tick+1,zkr m e len r (zcz (zex m zs ss r len k e signals)),e⟩
def zsL(m:zD)(r0 bar:Int):∀(t:List Int),(t.flatMap (zfb m r0 bar)).length<=t.length
 |[]=>wD
 |x::t=>by
  have ih:=zsL m r0 bar t;have:(zfb m r0 bar x).length<=1:=by grind [zfb]
  grind
def zne{m:zD}(hs:zmX m)(zs:List Zon)(ss:List Sgn){r:List Int}(hr:r.length<=2)(len:Int)(k:zci)(e:Ego)(signals:Bool)(hk:k.jZ.length<=200000000):(zex m zs ss r len k e signals).length<=2400000100:=by
 have h1:=zxY hs zs ss r (zfx len e) e.slo len k signals (zkr m k.ego len r k.jZ);have h2:=zij m k.ego len hr k.jZ;have h3:=zsL m (r.getD 0 0) (zfx len e) (zbK m 0 m.jd);have h4:=zlK m m.jd 0;have h5:=hs.few
 grind [zex,List.length_append]
def zsI{m:zD}(h:zcp m)(zs:List Zon)(ss:List Sgn)(r:List Int)(len:Int)(k:zci)(e:Ego)(signals:Bool)(hvb:∀b∈k.jZ,VB m b):∀x∈zex m zs ss r len k e signals,OKB x:=by
 intro x hx;rcases jL.1 hx with hx|hx
 ·obtain⟨b,hb,hx⟩:=kj.1 hx;obtain⟨z,hz,rfl⟩:=jW.1 hx;have hv:=ztK k.ego len r k.jZ hvb b hb;unfold zm8 at hz;split at hz
  ·have ho:=zBF h r (zfx len e) e.slo (mvF m zs ss k signals b) (by exact hv.lane) _ _ _ z hz;have h1:=zcX h ho.on;have h2:=ho.lo;have h3:=ho.le;have h4:=ho.hi;exact⟨wA,wA,wA,wA⟩
  grind
 ·obtain⟨b,hb,hx⟩:=kj.1 hx;unfold zfb at hx;split at hx
  ·simp only[jB]at hx;subst hx;exact⟨wD,wD,wD,wD⟩
  grind
def zux{m:zD}{zs:List Zon}{ss:List Sgn}(hf:zmq m zs ss){r:List Int}(hr:zdA m r=0)(len:Int)(hn:0<=len/\len<=20000)(k:zci)(hk:k.jZ.length<=200000000)(ht:0<=k.tick/\k.tick<=1099511628776)(he:znd k.ego)(hvb:∀b∈k.jZ,VB m b)(act:Int)(ha:zk0 act)(signals:Bool) :
  R L Cs zl7 [.a (zh m r len),.a (zG k),W act,Bo signals] []=some (.t [.a (zG (zpg m zs ss r len k (zaN m r k.ego act) signals)),.c (.jb (zbf (zhp (zlg (zfV m zs ss r len k (zaN m r k.ego act) signals)))))],[]):=by
 have h:=hf.qO;obtain⟨hon,hne,hl8⟩:=zg1 h hr;have hr2:=zlP hf.yn hr;obtain⟨x0,r',rfl⟩:∃x r',r=x::r':=by cases r with|nil=>exact absurd rfl hne|cons x r'=>grind
 have hx0:=hon x0 (js ..);have hD:=zvQ h x0 r' len hx0 k.ego he act ha;have s1:=zge h r' hx0 act k.ego.vlo;have s2:=zge h r' hx0 act k.ego.vhi;have hes:=he.s;have hbl:=zne hf.yn zs ss hr2 len k (zaN m (x0::r') k.ego act) signals hk;have hok:=zsI h zs ss (x0::r') len k (zaN m (x0::r') k.ego act) signals hvb;have hb1:0<=(zaN m (x0::r') k.ego act).slo/\(zaN m (x0::r') k.ego act).slo<=1099511630000/\0<=(zaN m (x0::r') k.ego act).shi/\(zaN m (x0::r') k.ego act).shi<=1099511630000:=by
  grind [zaN]
 have hsw:(zfV m zs ss (x0::r') len k (zaN m (x0::r') k.ego act) signals).length<=2400000100:=by
  have h1:=zoA hf.yn zs ss (x0::r') (zfx len (zaN m (x0::r') k.ego act)) (zaN m (x0::r') k.ego act).slo len k signals (zkr m k.ego len (x0::r') k.jZ)
  grind [zij,zfV]
 unfold zpg;generalize zaN m (x0::r') k.ego act=e at *;have hp:2 ^ (x0::r').length<=4:=u5 wD hr2;have hO1:=zor h (x0::r') hl8 hon len k.ego wA hn k.jZ (by
  grind [Nat.le_trans,Nat.mul_le_mul])
 have hJl:=zkq (zex m zs ss (x0::r') len k e signals);have hO2:=zor h (x0::r') hl8 hon len e wA hn (zcz (zex m zs ss (x0::r') len k e signals)) (by
  grind [Nat.le_trans,Nat.mul_le_mul])
 have hJ:=zso (zex m zs ss (x0::r') len k e signals) wA hok;have Dh:-4000000000000<=zfx len e/\zfx len e<=4000000000000:=by grind [zfx]
 have hly:ziO m (x0::r') (zfx len e):=⟨h,hl8,hon,Dh⟩;have how:=zij m k.ego len hr2 k.jZ;have hvo:=ztK k.ego len (x0::r') k.jZ hvb;generalize zkr m e len (x0::r') (zcz (zex m zs ss (x0::r') len k e signals))=out at *;generalize zcz (zex m zs ss (x0::r') len k e signals)=jn at *;unfold zex at hJ hbl;unfold zfV at hsw ⊢;generalize zkr m k.ego len (x0::r') k.jZ=ow at *;have h3:=zwe hf hly len hn e k he ow hvo wA signals ow 0 [] [] rfl (jr _) wD wD;have hTg:∀(i:Nat) (hi:i<(srT m).length),(srT m)[i]=decide (zes (i:Int) 0 m.jd=[]):=zBi m;have h4:=zwd h x0 r' len (zfx len e) e k (zhM m zs ss (x0::r') (zfx len e) e.slo len k signals ow) (srT m) (zxq m) hTg m.jd 0 (zgt m zs ss (x0::r') (zfx len e) e.slo len k signals ow) rfl (jr _) (by have:=h.small.jd;grind);have e0:(x0::r').getD 0 0=x0:=rfl;rw[e0]at hJ hbl;generalize zgt m zs ss (x0::r') (zfx len e) e.slo len k signals ow++(zbK m 0 m.jd).flatMap (zfb m x0 (zfx len e))=bl at *;generalize hSA:zgt m zs ss (x0::r') (zfx len e) e.slo len k signals ow=sa at *;generalize zhM m zs ss (x0::r') (zfx len e) e.slo len k signals ow=sw at *;have w1:=qB (e.shi-len);have w2:=qB (e.shi-len-1);have w3:=qB (k.tick+1);simp only[zfx,zh,zi,zch,zm,zG,jh,je,zaP]at hD hO1 hO2 h3 h4;simp only[s3E,s4E,stM,bsC,swW,zdQ,own,zfx,zaP,zox,je,zh,zi,zch,zm,zG,jh,je,jg,zmB,zgg,jp,zic,zoB]at h3 h4;by_cases c:sw=[]
 ·subst c;have hS:=zvU 0;have hC:R L Cs zeD [.c (.slice 0 0 4 0 0 none)] [swB 0 []]=some (.w (.c (.slice 0 0 4 0 0 none)),[swB 0 []]):=by
   rw[zUa zcq rfl];simp[zbk,zg]
  have e3:zlg []=[]:=kc.1 (by simp[zhh]);have e2:zhp (zlg [])=[]:=by rw[e3];rfl
  simp only[swB,swS,jp,zoB]at hS hC h4;rw[e2,zUa zhx rfl];simp (maxSteps:=3000000) [zcT,zh,zi,zch,zm,zG,hD,hO1,hO2,h3,h4,hJ,hS,hC,w1,w2,w3,zg,zX]
 ·have hS:=zB0 sw wA c sw.length;obtain⟨C,v',c1,c2,c3,c4,c5,hC⟩:=zrS (zlg sw) (by rw[zhh];omega) (sw.length+1);rw[zhh]at c1 c5;simp only[swB,swS,zhh,c1]at hS hC;have c2':=congrArg zbf c2;rw[<-zwp]at c2';generalize zhp (zlg sw)=q at *;rw[zUa zhx rfl];have hql:q.length<=sw.length:=c5;have hqC:q.length<=C.length:=by rw[c1];exact c5
  by_cases qv:v'=sw.length+1
  ·have eC:=c4 qv;subst eC;subst qv;simp (maxSteps:=3000000) [zcT,zh,zi,zch,zm,zG,hD,hO1,hO2,h3,h4,hJ,hS,hC,w1,w2,w3,zg,zhh,hql,zX,c2',c5]
  ·simp (maxSteps:=3000000) [zcT,zh,zi,zch,zm,zG,hD,hO1,hO2,h3,h4,hJ,hS,hC,w1,w2,w3,zg,qv,hqC,zX,c2',c5]
def zte{m:zD}{k:zci}(h:zdf m k=0):znd k.ego/\0<=k.tick/\k.tick<=1099511627776:=by
 unfold zdf at h;split at h
 ·cases h
 ·rename_i ho;unfold ziI zsa at ho;exact⟨⟨wA,wA⟩,wA,wA⟩
def Apt(p b:zk):Prop:=p.lane<b.lane\/(p.lane=b.lane/\p.hi+1<b.lo)
def zFx{m:zD}{b:zk}(h:VB m b):¬Ay m b:=by
 have h1:=h.lo;have h2:=h.le;have h3:=h.hi;have h4:=h.vlo;have h5:=h.vle;have h6:=h.vhi;have h7:=h.hold
 grind [Ay]
def zED{m:zD}:∀(l:List zk) (p:zk),(∀b∈l,VB m b)->l.Pairwise Apt->(∀b∈l,¬zmM p b)->zls m p l=0
 |[],_,_,_,_=>rfl
 |x::l,p,hv,ha,hp=>by
  rw[jX]at ha;have hx:=hv x (js ..);have hl:=hx.lane;have h0:zer m p x=0:=by
   simp_all [zer,if_neg,zFx,js]
  unfold zls;rw[if_neg (by grind)];refine zED l x (fun b hb=>hv b (jE _ hb)) ha.2 fun b hb=>?_
  grind [Apt,zmM]
theorem zFt{m:zD}{a b:zk}(ha:VB m a)(hb:VB m b)(hl:a.lane=b.lane):VB m (glue a b):=by
 have a1:=ha.lo;have a2:=ha.le;have a3:=ha.hi;have a4:=ha.vlo;have a5:=ha.vle;have a6:=ha.vhi;have a7:=ha.hold;rw[hl]at a3 a6 a7;have b3:=hb.hi;have b4:=hb.vlo;have b6:=hb.vhi;have b7:=hb.hold;refine⟨hb.lane,a1,?_,?_,?_,?_,?_,?_⟩
 ·show a.lo<=max a.hi b.hi;omega
 ·show max a.hi b.hi<=z8 m b.lane;omega
 ·show 0<=min a.vlo b.vlo;omega
 ·show min a.vlo b.vlo<=max a.vhi b.vhi;omega
 ·show max a.vhi b.vhi<=zeR (zaK m b.lane);omega
 ·show 0<=(if a.hold=0\/b.hold=0 then 0 else max a.hold b.hold)/\(if a.hold=0\/b.hold=0 then 0 else max a.hold b.hold)<=z8 m b.lane;split<;>omega
def zEw(init:List zk)(a b:zk):zcP (init++[a]) b=if far a b=false then init++[glue a b] else init++[a]++[b]:=by
 simp[zcP,far,if_pos,if_neg]
def zEu{m:zD}:∀(l init:List zk) (a:zk),(a::l).Pairwise leB->(∀b∈l,VB m b)->(∀o∈init++[a],VB m o)->(init++[a]).Pairwise Apt ->
  (∀o∈l.foldl zcP (init++[a]),VB m o)/\(l.foldl zcP (init++[a])).Pairwise Apt
 |[],init,a,_,_,h1,h2=>⟨h1,h2⟩
 |b::l,init,a,hs,hv,h1,h2=>by
  rw[jX]at hs;have hab:=hs.1 b (js ..);have ha:=h1 a wD;rw[j8,zEw];have hfar:far a b=false<->(a.lane=b.lane/\b.lo<=a.hi+1):=by
   grind [far]
  by_cases c:far a b=false
  ·rw[if_pos c];refine zEu l init (glue a b) ?_ (fun x hx=>hv x (jE _ hx)) ?_ ?_
   ·grind [List.pairwise_cons,leB,glue]
   ·grind [List.mem_append_left,List.mem_singleton,zFt]
   grind [List.mem_singleton,Apt,glue]
  ·rw[if_neg c];have hc:¬(a.lane=b.lane/\b.lo<=a.hi+1):=fun h=>c (hfar.2 h)
   refine zEu l (init++[a]) b hs.2 (fun x hx=>hv x (jE _ hx)) ?_ ?_
   ·grind
   ·rw[kE];refine⟨h2,List.pairwise_singleton _ _,fun x hx y hy=>?_⟩;rw[jB.1 hy];have hA:Apt a b:=by
     unfold Apt;unfold leB at hab;omega
    rcases jL.1 hx with hx|hx
    ·have:=(kE.1 h2).2.2 x hx a wD;have a2:=ha.le;unfold Apt at this hA ⊢;omega
    ·rw[jB.1 hx];exact hA
def zEl{m:zD}(l:List zk)(h:∀b∈l,VB m b):(∀o∈zcz l,VB m o)/\(zcz l).Pairwise Apt:=by
 have hm:∀x∈l.foldl zb5 [],x∈l:=fun x hx=>(zuL l [] x hx).resolve_right wD
 have hs:(l.foldl zb5 []).Pairwise leB:=by
  simp[zpi,ziR]
 unfold zcz;generalize l.foldl zb5 []=S at *;cases S with
 |nil=>simp
 |cons a t =>
  refine zEu t [] a hs (fun b hb=>h b (hm b (jE _ hb))) ?_ ?_
  ·grind
  grind
theorem zE1{x fr to:Int}{b:zk}:∀z∈zoX x fr to b,z.lane=b.lane/\b.lo<=z.lo/\z.hi<=b.hi:=by
 grind [zoX]
def zFm(x fr to:Int)(b:zk):(zoX x fr to b).Pairwise Apt:=by
 unfold zoX;split
 ·grind
 ·split
  ·split
   ·simp only[List.singleton_append,jX,jB,forall_eq,qg,false_imp_iff,implies_true,List.Pairwise.nil,and_true];exact .inr ⟨rfl,by grind⟩
   grind
  ·split<;>simp
theorem zE0{x fr to:Int}:∀(l:List zk),∀z∈zhn x fr to l,∃b∈l,z.lane=b.lane/\b.lo<=z.lo/\z.hi<=b.hi
 |[],z,hz=>by cases hz
 |b::l,z,hz=>by
  rcases jL.1 hz with hz|hz
  ·grind [List.mem_cons_self,zE1]
  ·obtain⟨c,hc,h⟩:=zE0 l z hz
   grind
theorem zEN(x fr to:Int):∀(l:List zk),l.Pairwise Apt->(zhn x fr to l).Pairwise Apt
 |[],_=>List.Pairwise.nil
 |b::l,h=>by
  rw[jX]at h;unfold zhn;rw[kE];refine⟨zFm x fr to b,zEN x fr to l h.2,fun y hy z hz=>?_⟩
  grind [zE1,zE0,Apt]
theorem zEK(m:zD)(e:Ego)(len:Int):∀(r:List Int) (a:Int) (l:List zk),l.Pairwise Apt->(zpO m e len a r l).Pairwise Apt
 |[],_,l,h=>h
 |x::r,a,l,h=>zEK m e len r _ _ (zEN _ _ _ l h)
def zFg(m:zD)(e:Ego)(len:Int)(r:List Int)(l:List zk)(h:l.Pairwise Apt):(zkr m e len r l).Pairwise Apt:=by
 grind [zkr,zEK]
theorem zEs{m:zD}{r:List Int}{bar:Int}{b:zk}{lo hi:Int}{cap:Bool}:∀z∈zbA m r bar b lo hi cap,z.1.lane=b.lane:=by
 intro z hz;unfold zbA at hz;split at hz
 ·simp only[jB]at hz;subst hz;rfl
 grind
def zE8{m:zD}{r:List Int}{bar slo:Int}{b:zk}{lo hi:Int}{cap:Bool}:∀z∈zlZ m r bar slo b lo hi cap,z.1.lane=b.lane\/z.1.lane∈zS m b.lane:=by
 intro z hz;rcases jL.1 hz with hz|hz
 ·grind [zEs]
 ·split at hz
  ·grind
  ·obtain⟨x,hx,hz⟩:=kj.1 hz;exact .inr (by rw[zEs z hz];exact hx)
def zFE{m:zD}{zs:List Zon}{ss:List Sgn}(hf:zmq m zs ss){lane tick l:Int}(h:l∈zeA zs ss lane tick):0<=l/\l<=z8 m lane:=by
 obtain⟨z,hz,hl⟩:=kj.1 h;rcases zlX ss lane tick z with e |⟨p,hp,e⟩
 ·grind
 ·have h1:=yw hp;have h2:=qL hp;obtain⟨_,a1,a2,a3,_⟩:=hf.pv z hz p h2
  grind
def zFi{m:zD}{zs:List Zon}{ss:List Sgn}(hf:zmq m zs ss)(k:zci)(signals:Bool){b:zk}(hb:VB m b):0<=(mvF m zs ss k signals b).hold/\(mvF m zs ss k signals b).hold<=z8 m b.lane:=by
 have a1:=hb.lo;have a2:=hb.le;have a3:=hb.hi;show 0<=((if signals then(zeA zs ss b.lane k.tick).find? (zcY m b) else none)).getD 0/\((if signals then(zeA zs ss b.lane k.tick).find? (zcY m b) else none)).getD 0<=z8 m b.lane;split
 ·cases h:(zeA zs ss b.lane k.tick).find? (zcY m b)with
  |none=>grind
  |some l=>simpa using zFE hf (qL h)
 grind
def zE4{m:zD}{zs:List Zon}{ss:List Sgn}(hf:zmq m zs ss)(r:List Int)(len:Int)(k:zci)(e:Ego)(signals:Bool)(hvb:∀b∈k.jZ,VB m b):∀x∈zex m zs ss r len k e signals,VB m x:=by
 have h:=hf.qO;intro x hx;rcases jL.1 hx with hx|hx
 ·obtain⟨b,hb,hx⟩:=kj.1 hx;obtain⟨z,hz,rfl⟩:=jW.1 hx;have hv:=ztK k.ego len r k.jZ hvb b hb;have hbd:=zwE h zs ss k signals hv;have hmo:=zqQ h hv;have hho:=zFi hf k signals hv;have hvl:(mvF m zs ss k signals b).vlo=zcW m b:=rfl;have hvh:(mvF m zs ss k signals b).vhi=zde m b:=rfl;unfold zm8 at hz;split at hz
  ·have ho:=zBF h r (zfx len e) e.slo (mvF m zs ss k signals b) (by exact hv.lane) _ _ _ z hz;have hl:=zE8 z hz;rw[hbd.1]at hl;have hk:zaK m z.1.lane=zaK m b.lane:=by
    rcases hl with hl|hl
    ·rw[hl]
    ·exact hf.yn.kn _ _ hl
   have hf2:zde m b<=zeR (zaK m b.lane):=by grind [zde]
   refine⟨ho.on,ho.lo,ho.le,ho.hi,?_,?_,?_,?_⟩
   ·rw[ho.vlo,hvl];exact hmo.s.1
   ·rw[ho.vlo,ho.vhi,hvl,hvh];exact hmo.sf
   ·rw[ho.vhi,hvh,hk];grind
   ·rcases ho.hold with⟨h1,h2⟩|h2
    ·grind
    ·have h3:=ho.lo;have h4:=ho.le;have h5:=ho.hi;omega
  grind
 ·obtain⟨b,hb,hx⟩:=kj.1 hx;obtain⟨j,hj,hbj,_⟩:=(zqS m b m.jd 0).1 hb;unfold zfb at hx;split at hx
  ·simp only[jB]at hx;subst hx;have hl:0<=b/\b<m.jd.length:=by grind
   have h1:=zcX h hl;have ht:=tops (zu9 h hl);exact⟨hl,jQ _,jQ _,by grind,jQ _,by grind,jQ _,by grind⟩
  grind
def zEJ(m:zD)(r:List Int)(act:Int){v w:Int}(h:v<=w):zcD m r act v<=zcD m r act w:=by
 grind [zcD]
def zFl(m:zD):∀(f:Nat) (a:Int) (n:Nat),goF m a (goR m f a n)=true
 |0,_,_=>rfl
 |f+1,a,n=>by
  unfold goR;split
  ·rfl
  ·rename_i h;have hi:n % (zS m a).length<(zS m a).length:=qF _ wA;have e:(zS m a).getD (n % (zS m a).length) 0=(zS m a)[n % (zS m a).length]:=by simp[jG,hi]
   have hm:(zS m a).getD (n % (zS m a).length) 0∈zS m a:=by rw[e];exact jf hi
   unfold goF;rw[zFl m f];rw[y9];exact decide_eq_true hm
def zEY{m:zD}{x:Int}:∀(l:List zfn) (i:Nat),(∀(j:Nat) (h:j<l.length),x∉l[j].next)->zes x i l=[]
 |[],_,_=>rfl
 |z::l,i,h=>by
  unfold zes;rw[if_neg (show ¬x∈z.next from h 0 (Nat.zero_lt_succ _))];exact zEY (m:=m) l (i+1) fun j hj=>h (j+1) (Nat.succ_lt_succ hj)
def zFr{m:zD}(hs:zmX m)(hp:0<m.jd.length):zbK m 0 m.jd≠[]:=by
 intro h;have:(0:Int)∈zbK m 0 m.jd:=by
  rw[zqS];refine⟨0,hp,rfl,zEY (m:=m) _ 0 fun j hj hx=>?_⟩;have hx':(0:Int)∈zS m (j:Int):=by simpa [zS,hj]using hx
  have:=hs.up _ _ hx';omega
 rw[h]at this;cases this
def zE5{m:zD}{zs:List Zon}{ss:List Sgn}(hf:zmq m zs ss)(hp:0<m.jd.length)(k:Int):zdA m (zDT m k)=0:=by
 have hne:=zFr hf.yn hp;have hl:=zEm m k;have Ac:∀i,i<(zbK m 0 m.jd).length->(zbK m 0 m.jd).getD i 0∈zbK m 0 m.jd:=fun i hi=>by
  have e:(zbK m 0 m.jd).getD i 0=(zbK m 0 m.jd)[i]:=by simp[jG,hi]
  rw[e];exact jf hi
 have hlen:0<(zbK m 0 m.jd).length:=kD.2 hne;have h0:=Ac ((k % 1048576).toNat % (zbK m 0 m.jd).length) (qF _ hlen);unfold zDT at hl ⊢;rw[if_neg hne]at hl ⊢;generalize (zbK m 0 m.jd).getD ((k % 1048576).toNat % (zbK m 0 m.jd).length) 0=x at *;have hg:=zFl m 7 x ((k % 1048576).toNat / (zbK m 0 m.jd).length);generalize goR m 7 x ((k % 1048576).toNat / (zbK m 0 m.jd).length)=t at *;obtain⟨j,hj,hxj,hb⟩:=(zqS m x m.jd 0).1 h0;simp only[jl]at hl;simp only[zdA];rw[if_neg wA,if_neg wA,if_neg wA,if_neg (by simpa using hb),if_pos hg]
def zFv{m:zD}{k:zci}(ho:¬ziI k)(hv:∀b∈k.jZ,VB m b)(ha:k.jZ.Pairwise Apt):zdf m k=0:=by
 unfold zdf;rw[if_neg ho];refine zED _ _ hv ha fun b hb=>?_
 have:=(hv b hb).lane;simp only[zmM,zqY];omega
def zFu{m:zD}(h:zcp m)(q:List Int)(hq:q.length<=8)(hon:zj2 m q):0<=zmd m 0 q/\zmd m 0 q<=8000000:=by
 have:=zEC h q 0 hon (jQ _);omega
def zE9(k:Nat)(hk:k<7)(lim r o1 o2 o3 v:Int)(ws:List zCP):0<(zq k lim r o1 o2 o3 v ws).jd.length:=by
 match k,hk with
 |0,_ |1,_ |2,_ |3,_ |4,_ |5,_ |6,_=>simp[zq,zy]
abbrev zEt(m:zD)(zs:List Zon)(ss:List Sgn)(r:List Int)(len:Int)(signals:Bool)(k:zci)(a:Int):zci:=zpg m zs ss r len k (zaN m r k.ego a) signals
structure InP(p q:zk):Prop where
 lane:p.lane=q.lane
 lo:q.lo<=p.lo
 hi:p.hi<=q.hi
 vlo:q.vlo<=p.vlo
 vhi:p.vhi<=q.vhi
 hold:q.hold=0\/(p.hold≠0/\p.hold<=q.hold)
theorem InP.refl(p:zk):InP p p:=⟨rfl,jQ _,jQ _,jQ _,jQ _,wA⟩
theorem InP.trans{p q s:zk}(h:InP p q)(g:InP q s):InP p s :=
 ⟨h.lane.trans g.lane,by have:=h.lo;have:=g.lo;omega,by have:=h.hi;have:=g.hi;omega,by have:=h.vlo;have:=g.vlo;omega,by have:=h.vhi;have:=g.vhi;omega,by have:=h.hold;have:=g.hold;omega⟩
abbrev Sub(l k:List zk):Prop:=∀p∈l,∃q∈k,InP p q
structure InE(x y:Ego):Prop where
 slo:y.slo<=x.slo
 shi:x.shi<=y.shi
 vlo:y.vlo<=x.vlo
 vhi:x.vhi<=y.vhi
structure InK(a b:zci):Prop where
 tick:a.tick=b.tick
 ego:InE a.ego b.ego
 bl:Sub a.jZ b.jZ
theorem InK.refl(a:zci):InK a a:=⟨rfl,⟨jQ _,jQ _,jQ _,jQ _⟩,fun p hp=>⟨p,hp,.refl p⟩⟩
abbrev Le(l:List zk):Prop:=∀p∈l,p.lo<=p.hi
theorem zUB{x fr to:Int}{p p':zk}(h:p'∈zoX x fr to p)(hp:p.lo<=p.hi):InP p' p/\p'.lo<=p'.hi:=by
 unfold zoX at h;split at h
 ·obtain rfl:=jB.1 h;exact⟨.refl _,hp⟩
 ·rcases jL.1 h with h|h
  ·split at h
   ·obtain rfl:=jB.1 h;exact⟨⟨rfl,jQ _,by grind,jQ _,jQ _,by grind⟩,by grind⟩
   grind
  ·split at h
   ·obtain rfl:=jB.1 h;exact⟨⟨rfl,by grind,jQ _,jQ _,jQ _,by grind⟩,by grind⟩
   grind
theorem zVn{p q:zk}(h:InP p q)(hp:p.lo<=p.hi){x fr to fr' to':Int}(hf:fr'<=fr)(ht:to<=to'){p':zk}(hp':p'∈zoX x fr' to' p):∃q'∈zoX x fr to q,InP p' q':=by
 have h1:=h.lane;have h2:=h.lo;have h3:=h.hi;have h4:=h.hold;have h5:=h.vlo;have h6:=h.vhi;by_cases c:q.lane≠x\/fr>to\/fr>q.hi\/to<q.lo
 ·exact⟨q,by unfold zoX;rw[if_pos c];simp,(zUB hp' hp).1.trans h⟩
 ·have e:zoX x fr to q=(if q.lo<fr then [{ q with hi:=fr-1 }] else [])++(if to<q.hi then [{ q with lo:=to+1 }] else []):=by unfold zoX;rw[if_neg c]
  rw[e];have left:∀z:zk,z.lane=p.lane->z.lo=p.lo->z.vlo=p.vlo->z.vhi=p.vhi->z.hold=p.hold->z.hi<=fr-1->z.lo<=z.hi->∃q'∈(if q.lo<fr then [{ q with hi:=fr-1 }] else [])++(if to<q.hi then [{ q with lo:=to+1 }] else []),InP z q':=fun z z1 z2 z3 z4 z5 z6 z7 =>
   ⟨{ q with hi:=fr-1 },kV _ (by rw[if_pos wA];simp),⟨by rw[z1];exact h1,by grind,z6,by rw[z3];exact h5,by rw[z4];exact h6,by rw[z5];exact h4⟩⟩
  have right:∀z:zk,z.lane=p.lane->z.hi=p.hi->z.vlo=p.vlo->z.vhi=p.vhi->z.hold=p.hold->to+1<=z.lo->z.lo<=z.hi->∃q'∈(if q.lo<fr then [{ q with hi:=fr-1 }] else [])++(if to<q.hi then [{ q with lo:=to+1 }] else []),InP z q':=fun z z1 z2 z3 z4 z5 z6 z7 =>
   ⟨{ q with lo:=to+1 },qj _ (by grind),⟨by rw[z1];exact h1,z6,by grind,by grind,by rw[z4];exact h6,by grind⟩⟩
  unfold zoX at hp';split at hp'
  ·grind
  ·rcases jL.1 hp' with hh|hh
   ·split at hh
    ·obtain rfl:=jB.1 hh;exact left _ rfl rfl rfl rfl rfl (by simp only;omega) (by grind)
    grind
   ·split at hh
    ·obtain rfl:=jB.1 hh;exact right _ rfl rfl rfl rfl rfl (by grind) (by grind)
    grind
theorem zUl{x fr to:Int}{p':zk}:∀{l:List zk},p'∈zhn x fr to l<->∃p∈l,p'∈zoX x fr to p
 |[]=>by simp[zhn]
 |b::l=>by
  simp only[zhn,jL,zUl (l:=l),jK]
  grind
def zUA{x fr to:Int}{l:List zk}(hl:Le l):Sub (zhn x fr to l) l/\Le (zhn x fr to l):=by
 refine⟨fun p' h=>?_,fun p' h=>?_⟩
 ·grind [zUl,zUB]
 ·obtain⟨p,hp,h⟩:=zUl.1 h;exact(zUB h (hl p hp)).2
def zVm{l k:List zk}(h:Sub l k)(hl:Le l){x fr to fr' to':Int}(hf:fr'<=fr)(ht:to<=to'):Sub (zhn x fr' to' l) (zhn x fr to k):=fun p' hp'=>by
 grind [zUl,zVn]
theorem Sub.trans{l k j:List zk}(h:Sub l k)(g:Sub k j):Sub l j:=fun p hp=>by
 obtain⟨q,hq,h⟩:=h p hp;obtain⟨s,hs,g⟩:=g q hq;exact⟨s,hs,h.trans g⟩
def zUN(m:zD)(e:Ego)(len:Int):∀(r:List Int) (a:Int) (l:List zk),Le l->Sub (zpO m e len a r l) l/\Le (zpO m e len a r l)
 |[],a,l,hl=>⟨fun p hp=>⟨p,hp,.refl p⟩,hl⟩
 |x::r,a,l,hl=>by
  obtain⟨h1,h2⟩:=zUA (x:=x) (fr:=e.shi-len-a) (to:=e.slo-a) hl;obtain⟨h3,h4⟩:=zUN m e len r (a+z8 m x) _ h2;exact⟨h3.trans h1,h4⟩
def zVd(m:zD)(e:Ego)(len:Int)(r:List Int){l:List zk}(hl:Le l):Sub (zkr m e len r l) l/\Le (zkr m e len r l):=by
 unfold zkr;split
 ·exact zUN m e len r 0 l hl
 ·exact⟨fun p hp=>⟨p,hp,.refl p⟩,hl⟩
def zUF(m:zD){e f:Ego}(he:InE e f)(len:Int):∀(r:List Int) (a:Int) (l k:List zk),Sub l k->Le l->Sub (zpO m e len a r l) (zpO m f len a r k)
 |[],a,l,k,h,hl=>h
 |x::r,a,l,k,h,hl=>by
  have h1:=he.shi;have h2:=he.slo;exact zUF m he len r _ _ _ (zVm h hl wA wA) (zUA hl).2
def zUG(m:zD){e f:Ego}(he:InE e f)(len:Int)(r:List Int){l k:List zk}(h:Sub l k)(hl:Le l):Sub (zkr m e len r l) (zkr m f len r k):=by
 have h1:=he.shi;have h2:=he.slo;by_cases c:f.shi-len<=f.slo
 ·unfold zkr;rw[if_pos c,if_pos wA];exact zUF m he len r 0 l k h hl
 ·have e2:zkr m f len r k=k:=by simp_all [zkr,if_neg]
  rw[e2];exact(zVd m e len r hl).1.trans h
abbrev Off(e:Ego)(len st:Int)(p:zk):Prop:=st+p.hi<e.shi-len\/e.slo<st+p.lo
def Off.sub{e:Ego}{len st:Int}{p q:zk}(h:Off e len st q)(g:InP p q):Off e len st p:=by
 have:=g.lo;have:=g.hi
 grind
def zVx{x fr to:Int}(hft:fr<=to){p p':zk}(h:p'∈zoX x fr to p)(hx:p'.lane=x):p'.hi<fr\/to<p'.lo:=by
 grind [zoX]
def zUR(m:zD)(e:Ego)(len:Int)(hg:e.shi-len<=e.slo):∀(r:List Int) (a:Int) (l:List zk),Le l->∀p∈zpO m e len a r l,∀(i:Nat) (h:i<r.length),r[i]=p.lane->Off e len ((zW m a r).getD i 0) p
 |[],a,l,hl,p,hp,i,h,hi=>by grind
 |x::r,a,l,hl,p,hp,i,h,hi=>by
  have hc:=zUA (x:=x) (fr:=e.shi-len-a) (to:=e.slo-a) hl;cases i with
  |zero =>
   obtain⟨q,hq,hin⟩:=(zUN m e len r (a+z8 m x) _ hc.2).1 p hp;obtain⟨s,hs,hs'⟩:=zUl.1 hq;have:=zVx wA hs' (by rw[<-hin.lane];grind);have:Off e len a q:=by grind
   exact this.sub hin
  |succ i =>
   have:=zUR m e len hg r (a+z8 m x) _ hc.2 p hp i (by grind) (by grind)
   grind [zW]
def zVu{a b:zk}(h:leB a b)(hl:a.lane=b.lane):a.lo<=b.lo:=by grind [leB]
def zVw{a b:zk}(hl:a.lane=b.lane)(hlo:a.lo<=b.lo):InP a (glue a b)/\InP b (glue a b):=by
 have ho:(glue a b).hold=0\/(a.hold≠0/\a.hold<=(glue a b).hold)/\(b.hold≠0/\b.hold<=(glue a b).hold):=by
  grind [glue]
 refine⟨⟨hl,jQ _,by grind [glue],by grind [glue],by grind [glue],wA⟩,⟨rfl,hlo,by grind [glue],by grind [glue],by grind [glue],wA⟩⟩
def zUU{a b x:zk}(hl:a.lane=b.lane)(hab:leB a b)(hbx:leB b x):leB (glue a b) x:=by
 grind [leB,glue]
def zVg(a b:zk):far a b=false<->(a.lane=b.lane/\b.lo<=a.hi+1):=by
 grind [far]
def zUn:∀(l init:List zk) (a:zk),(a::l).Pairwise leB->∀x,(x∈init++[a]\/x∈l)->∃o∈l.foldl zcP (init++[a]),InP x o
 |[],init,a,_,x,hx=>⟨x,hx.resolve_right wD,.refl x⟩
 |b::l,init,a,hs,x,hx=>by
  rw[jX]at hs;have hbl:=hs.2;rw[jX]at hbl;have hab:=hs.1 b (js ..);rw[j8,zEw];by_cases c:far a b=false
  ·rw[if_pos c];have hc:=(zVg a b).1 c;obtain⟨g1,g2⟩:=zVw hc.1 (zVu hab hc.1);have ih:=zUn l init (glue a b) (jX.2 ⟨fun y hy=>zUU hc.1 hab (hbl.1 y hy),hbl.2⟩);obtain⟨o,ho,hg⟩:=ih (glue a b) (.inl wD);rcases hx with hx|hx
   ·rcases jL.1 hx with hx|hx
    ·simp_all
    ·rw[jB.1 hx];exact⟨o,ho,g1.trans hg⟩
   ·rcases jK.1 hx with rfl|hx
    ·exact⟨o,ho,g2.trans hg⟩
    grind
  ·have ih:=zUn l (init++[a]) b hs.2
   grind
def zUM:∀{K:List zk},K.Pairwise Apt->∀{X Y:zk},X∈K->Y∈K->X=Y\/Apt X Y\/Apt Y X
 |[],_,X,Y,h,_=>by grind
 |k::K,hp,X,Y,hx,hy=>by
  rw[jX]at hp;rcases jK.1 hx with e1|hx<;>rcases jK.1 hy with e2|hy
  ·grind
  ·grind
  ·grind
  ·exact zUM hp.2 hx hy
def zUp{K:List zk}(hK:K.Pairwise Apt):∀(l init:List zk) (a:zk),(a::l).Pairwise leB->Le l->Sub l K->Sub (init++[a]) K->Sub (l.foldl zcP (init++[a])) K
 |[],init,a,_,_,_,h=>h
 |b::l,init,a,hs,hl,hb,h=>by
  rw[jX]at hs;have hbl:=hs.2;rw[jX]at hbl;have hab:=hs.1 b (js ..);have hl':Le l:=fun x hx=>hl x (jE _ hx)
  have hb':Sub l K:=fun x hx=>hb x (jE _ hx)
  rw[j8,zEw];by_cases c:far a b=false
  ·rw[if_pos c];have hc:=(zVg a b).1 c;refine zUp hK l init (glue a b) (jX.2 ⟨fun y hy=>zUU hc.1 hab (hbl.1 y hy),hbl.2⟩) hl' hb' fun o ho=>?_
   rcases jL.1 ho with ho|ho
   ·simp_all
   ·rw[jB.1 ho];obtain⟨Y,hY,hy⟩:=h a wD;obtain⟨X,hX,hx⟩:=hb b (js ..);have hlo:=zVu hab hc.1;have y1:=hy.lane;have y2:=hy.lo;have y3:=hy.hi;have y4:=hy.vlo;have y5:=hy.vhi;have y6:=hy.hold;have x1:=hx.lane;have x2:=hx.lo;have x3:=hx.hi;have x4:=hx.vlo;have x5:=hx.vhi;have x6:=hx.hold;have e:X=Y:=by
     rcases zUM hK hX hY with e|e|e
     ·grind
     ·grind [Apt]
     grind [Apt]
    subst e;refine⟨X,hX,⟨x1,y2,by grind [glue],by grind [glue],by grind [glue],?_⟩⟩
    grind [glue]
  ·rw[if_neg c];refine zUp hK l (init++[a]) b hs.2 hl' hb' fun o ho=>?_
   grind
def zUQ{l:List zk}(hl:Le l):(l.foldl zb5 []).Perm l/\(l.foldl zb5 []).Pairwise leB:=by
 have hf:l.filter (fun b=>!bad b)=l:=vu.2 fun b hb=>by
  grind
 have e:=zpi l [];constructor
 ·grind [znu]
 simp_all [ziR]
def zU6{l:List zk}(hl:Le l):Sub l (zcz l):=fun x hx=>by
 obtain⟨hp,hs⟩:=zUQ hl;unfold zcz;generalize l.foldl zb5 []=S at *;cases S with
 |nil=>grind
 |cons a t =>
  refine zUn t [] a hs x ?_
  grind
def zU5{l K:List zk}(hl:Le l)(hK:K.Pairwise Apt)(h:Sub l K):Sub (zcz l) K:=by
 obtain⟨hp,hs⟩:=zUQ hl;have hS:Sub (l.foldl zb5 []) K:=fun x hx=>h x (hp.mem_iff.1 hx)
 have hL:Le (l.foldl zb5 []):=fun x hx=>hl x (hp.mem_iff.1 hx)
 unfold zcz;generalize l.foldl zb5 []=S at *;cases S with
 |nil=>grind
 |cons a t =>
  exact zUp hK t [] a hs (fun x hx=>hL x (jE _ hx)) (fun x hx=>hS x (jE _ hx)) fun o ho=>hS o (by grind)
def zVl{m:zD}{l k:List zk}(hl:∀b∈l,VB m b)(hk:∀b∈k,VB m b)(h:Sub l k):Sub (zcz l) (zcz k) :=
 zU5 (fun b hb=>(hl b hb).le) (zEl k hk).2 (h.trans (zU6 fun b hb=>(hk b hb).le))
def zVc{b:Int}(hb:1<=b):∀(f:Nat) (v:Int),v<=f->0<=zet v b
 |0,v,h=>by grind [zki]
 |f+1,v,h=>by
  by_cases c:b<v
  ·rw[zsG hb c];have:=zVc hb f (v-b) wA;omega
  simp_all [zki,jQ]
def zUE{b:Int}(hb:1<=b):∀(f:Nat) (v w:Int),v<=w->w<=f->zet v b<=zet w b
 |0,v,w,h,hw=>by grind [zki]
 |f+1,v,w,h,hw=>by
  by_cases c:b<w
  ·by_cases d:b<v
   ·rw[zsG hb c,zsG hb d];have:=zUE hb f (v-b) (w-b) wA wA;omega
   ·rw[zki hb (show v<=b by omega)];exact zVc hb (f+1) w hw
  grind [zki]
def zUL{m:zD}{p q:zk}(h:InP p q){line:Int}(hq:zcY m q line=true):zcY m p line=true:=by
 unfold zcY at hq ⊢;have hb:1<=zd4 (zaK m q.lane):=by grind [zd4]
 have h3:=h.hi;have h5:=h.vhi;have h4:=h.hold;have hs:=zUE hb q.vhi.toNat p.vhi q.vhi h5 wA;rw[h.lane]
 grind
def zUt{P Q:Int->Bool}(hPQ:∀x,Q x=true->P x=true):∀{l:List Int},Asc l->∀{y},l.find? Q=some y->∃x,l.find? P=some x/\x<=y
 |[],_,y,h=>by grind
 |a::l,hs,y,h=>by
  have hs:=jX.1 hs;by_cases c:P a=true
  ·grind
  ·have e1:(a::l).find? P=l.find? P:=by grind
   rw[e1];have e2:(a::l).find? Q=l.find? Q:=by grind
   rw[e2]at h;exact zUt hPQ hs.2 h
def zU4{m:zD}{p q:zk}(h:InP p q)(hp:0<=p.hi)(hq:0<=q.lo){red:List Int}(hr:Asc red)(signals src:Bool):InP (zdC m red p signals src) (zdC m red q signals src):=by
 have h1:=h.lane;have h2:=h.lo;have h3:=h.hi;have h5:=h.vlo;have h6:=h.vhi;have hsl:zcW m q<=zcW m p:=by grind [zcW]
 have hfa:zde m p<=zde m q:=by grind [zde]
 have hs0:0<=zcW m q:=by grind [zcW]
 refine⟨h1,?_,?_,hsl,hfa,?_⟩
 ·grind [zdC]
 ·simp only[zdC];cases signals with
  |false=>grind
  |true =>
   simp only[if_true];cases hf:red.find? (zcY m q)with
   |some y =>
    obtain⟨x,hx,hxy⟩:=zUt (fun l hl=>zUL h hl) hr hf
    grind
   |none=>cases red.find? (zcY m p)<;>simp only<;>omega
 ·simp only[zdC];cases signals with
  |false=>grind
  |true =>
   cases hf:red.find? (zcY m q)with
   |some y =>
    obtain⟨x,hx,hxy⟩:=zUt (fun l hl=>zUL h hl) hr hf
    grind [zcY]
   |none=>grind
def zD8(l:List zk)(hl:l.length<=100000000000)(hok:∀x∈l,OKB x):R L Cs zEB [.c (.jb (zI l))] []=some (.w (.c (.jb (zI (zcz l)))),[]):=by
 have h:=zso l hl hok;rw[zUa zEG rfl];simp[zuk,h]
def zFs{p b:zk}(h:¬zmM p b):Apt p b:=by
 unfold zmM at h;unfold Apt;omega
def zEO{m:zD}(h:zcp m):∀(r:List zk) (p:zk),zls m p r=0->r.Pairwise Apt/\∀b∈r,Apt p b
 |[],p,_=>⟨List.Pairwise.nil,wD⟩
 |x::r,p,hc=>by
  unfold zls at hc;split at hc
  ·rename_i h1;exact absurd hc h1
  ·rename_i h1;have h1:zer m p x=0:=by simpa using h1
   obtain⟨a1,a2,a3,a4,a5,a6,a7,a8,a9,a10,_,a12⟩:=zui h h1;have hx:=zFs a12;obtain⟨i1,i2⟩:=zEO h r x hc;refine⟨jX.2 ⟨i2,i1⟩,fun b hb=>?_⟩;rcases jK.1 hb with rfl|hb
   ·exact hx
   ·have:=i2 b hb;unfold Apt at this hx ⊢;omega
def Zm3{m:zD}(h:zcp m){k:zci}(hc:zdf m k=0):k.jZ.Pairwise Apt:=by
 unfold zdf at hc;split at hc
 ·cases hc
 ·exact(zEO h _ _ hc).1
def zO4{l:List Swp}{s:Swp}(h:s∈zlg l):s∈l:=(zsK l).mem_iff.1 h
structure KJ(m:zD)(k:zci):Prop where
 vb:∀b∈k.jZ,VB m b
 apt:k.jZ.Pairwise Apt
 ego:znd k.ego
def zN7{m:zD}(h:zcp m)(hs:zmX m){k:zci}(hk:KJ m k):k.jZ.length<=200000000:=by
 have hc:zls m zqY k.jZ=0:=zED _ _ hk.vb hk.apt fun b hb=>by
  have:=(hk.vb b hb).lane;simp only[zmM,zqY];omega
 have:=zvw h _ _ hc (show(-1:Int)<_ by omega) (show(0:Int)<=_ by omega);have:=hs.few;simp only[zqY]at *;omega
def zPP{m:zD}(h:zcp m){k:zci}(hc:zdf m k=0):KJ m k:=⟨zxJ h hc,Zm3 h hc,(zte hc).1⟩
def zLs{m:zD}(h:zcp m){r:List Int}(hr:zdA m r=0){e:Ego}(he:znd e)(act:Int) :
  0<=(zaN m r e act).slo/\(zaN m r e act).slo<=(zaN m r e act).shi/\(zaN m r e act).shi<=e.shi+2000/\0<=(zaN m r e act).vlo/\(zaN m r e act).vlo<=(zaN m r e act).vhi/\(zaN m r e act).vhi<=2000:=by
 obtain⟨hon,hne,_⟩:=zg1 h hr;obtain⟨x0,r',rfl⟩:∃x r',r=x::r':=by cases r with|nil=>exact absurd rfl hne|cons x r'=>exact⟨x,r',rfl⟩
 have hx0:=hon x0 (js ..);have s1:=zge h r' hx0 act e.vlo;have s2:=zge h r' hx0 act e.vhi;have hes:=he.s;have hev:=he.v;have s3:=zEJ m (x0::r') act hev.2.1;simp only[zaN];omega
def zNm{m:zD}{zs:List Zon}{ss:List Sgn}(hf:zmq m zs ss){r:List Int}(hr:zdA m r=0)(len:Int)(signals:Bool){k:zci}(hk:KJ m k)(act:Int)(hs:(zEt m zs ss r len signals k act).ego.shi<=1099511627776):KJ m (zEt m zs ss r len signals k act):=by
 obtain⟨j1,j2⟩:=zEl _ (zE4 hf r len k (zaN m r k.ego act) signals hk.vb);have hd:=zLs hf.qO hr hk.ego act;have hs':(zaN m r k.ego act).shi<=1099511627776:=hs;exact⟨ztK _ _ _ _ j1,zFg _ _ _ _ _ j2,⟨⟨hd.1,hd.2.1,hs'⟩,⟨hd.2.2.2.1,hd.2.2.2.2.1,hd.2.2.2.2.2⟩⟩⟩
abbrev zKu(m:zD)(zs:List Zon)(ss:List Sgn)(r:List Int)(len:Int)(signals:Bool)(k:zci)(a:Int):List Swp:=zhp (zlg (zfV m zs ss r len k (zaN m r k.ego a) signals))
def zNq{m:zD}{zs:List Zon}{ss:List Sgn}(hf:zmq m zs ss){r:List Int}(hr:zdA m r=0)(len:Int)(signals:Bool){k:zci}(hk:KJ m k)(a:Int):(zKu m zs ss r len signals k a).length<=100000000000:=by
 have hr2:=zlP hf.yn hr;have h4:=zoA hf.yn zs ss r (zfx len (zaN m r k.ego a)) (zaN m r k.ego a).slo len k signals (zkr m k.ego len r k.jZ);have h5:=zij m k.ego len hr2 k.jZ;have h0:=zN7 hf.qO hf.yn hk;obtain⟨_,_,_,_,_,_,h6,_⟩:=zrS (zlg (zfV m zs ss r len k (zaN m r k.ego a) signals)) (by rw[zhh];unfold zfV;omega) 0;rw[zhh]at h6;unfold zfV at h6;unfold zKu zfV;omega
structure InV(p q:zk):Prop where
 lane:p.lane=q.lane
 vlo:q.vlo<=p.vlo
 vhi:p.vhi<=q.vhi
 hold:q.hold=0\/(p.hold≠0/\p.hold<=q.hold)
def InP.v{p q:zk}(h:InP p q):InV p q:=⟨h.lane,h.vlo,h.vhi,h.hold⟩
abbrev zVp(z w:LB):Prop:=InP z.1 w.1/\(w.2=true->z.2=true)
def zU1(m:zD)(r:List Int){bar A8:Int}(hb:bar<=A8)(lane:Int){hi hi':Int}(hh:hi<=hi'){cap Bg:Bool}(hc:Bg=true->cap=true):zcj m r bar lane hi cap<=zcj m r A8 lane hi' Bg:=by
 unfold zcj;cases zgo r lane with
 |none=>simp only;omega
 |some i =>
  cases Bg with
  |true=>rw[hc rfl];simp only[if_true];omega
  |false=>cases cap<;>simp only[if_true,jI,if_false]<;>omega
def zUx(m:zD)(r:List Int){bar A8:Int}(hb:bar<=A8){p q:zk}(h:InV p q){lo lo' hi hi':Int}(hl:lo'<=lo)(hh:hi<=hi'){cap Bg:Bool}(hc:Bg=true->cap=true):∀z∈zbA m r bar p lo hi cap,∃w∈zbA m r A8 q lo' hi' Bg,zVp z w:=by
 intro z hz;unfold zbA at hz;split at hz
 ·rename_i hs;rw[jB.1 hz];have ht:=zU1 m r hb q.lane hh hc;unfold stays at hs;rw[h.lane]at hs;have hs':stays m r A8 q lo' hi' Bg=true:=by
   grind [stays]
  refine⟨(zhO m r A8 q lo' hi' Bg,zcV r q.lane Bg),by simp_all [zbA,if_pos,List.mem_singleton_self],⟨h.lane,by grind [zhO],by simp only[zhO];rw[h.lane];grind,h.vlo,h.vhi,h.hold⟩,?_⟩;unfold zcV;rw[h.lane]
  grind
 grind
def zUK(m:zD)(r:List Int){bar A8 slo Cx:Int}(hb:bar<=A8)(hs:Cx<=slo){p q:zk}(h:InV p q){lo lo' hi hi':Int}(hl:lo'<=lo)(hh:hi<=hi'){cap Bg:Bool}(hc:Bg=true->cap=true):∀z∈zlZ m r bar slo p lo hi cap,∃w∈zlZ m r A8 Cx q lo' hi' Bg,zVp z w:=by
 intro z hz;unfold zlZ at hz ⊢;rcases jL.1 hz with hz|hz
 ·obtain⟨w,hw,g⟩:=zUx m r hb h hl hh hc z hz
  grind
 ·rw[h.lane]at hz;split at hz
  ·grind
  ·rw[if_neg wA];obtain⟨x,hx,hz⟩:=kj.1 hz;unfold zg3 at hz;rw[h.lane]at hz;have hcn:zhq m r Cx q.lane x Bg=true->zhq m r slo q.lane x cap=true:=by
    grind [zhq,zcV,zb2]
   obtain⟨w,hw,g⟩:=zUx m r hb (p:=za6 p x) (q:=za6 q x) ⟨rfl,h.vlo,h.vhi,.inl rfl⟩ (show lo'-z8 m q.lane<=lo-z8 m q.lane by omega) (show hi-z8 m q.lane<=hi'-z8 m q.lane by omega) hcn z hz;exact⟨w,qj _ (kj.2 ⟨x,hx,hw⟩),g⟩
def zVz(m:zD)(r:List Int)(len:Int){a b:zci}(he:InE a.ego b.ego){bs:List zk}(hl:Le bs){p q:zk}(h:InP p q)(hp:p∈zkr m a.ego len r bs):zfP m r len b q=true->zfP m r len a p=true:=by
 unfold zfP;rw[h.lane];cases hi:zgo r q.lane with
 |none=>grind
 |some i =>
  simp only[jk,decide_eq_true_eq];rintro⟨g1,g2⟩;have e1:=he.slo;have e2:=he.shi;have hg:a.ego.shi-len<=a.ego.slo:=wA
  obtain⟨hil,hx⟩:=zfT hi;have hle:=(zVd m a.ego len r hl).2 p hp;unfold zkr at hp;rw[if_pos hg]at hp;have ho:=zUR m a.ego len hg r 0 bs hl p hp i hil (by rw[hx,h.lane]);have h3:=h.hi
  grind [kM]
def zVk{m:zD}{zs:List Zon}{ss:List Sgn}(hf:zmq m zs ss)(r:List Int)(len:Int){bar A8 slo Cx:Int}(hb:bar<=A8)(hs:Cx<=slo){a b:zci}(ht:a.tick=b.tick)(he:InE a.ego b.ego){bs:List zk}(hl:Le bs){p q:zk}(h:InP p q)(hp:p∈zkr m a.ego len r bs)(vp:VB m p)(vq:VB m q)(signals:Bool) :
  (∀z∈zm8 m zs ss r bar slo len a signals p,∃w∈zm8 m zs ss r A8 Cx len b signals q,zVp z w)/\(∀z∈zn0 m zs ss r bar slo len a signals p,∃w∈zn0 m zs ss r A8 Cx len b signals q,zVp z w):=by
 have hm:InP (mvF m zs ss a signals p) (mvF m zs ss b signals q):=by
  unfold mvF;rw[h.lane,ht];exact zU4 h (by have:=vp.lo;have:=vp.le;omega) vq.lo (hf.asc _ _) signals _
 have hbh:=zVz m r len he hl h hp;have h2:=hm.lo;have h3:=hm.hi;have h4:=h.lo;constructor
 ·intro z hz;unfold zm8 at hz ⊢;split at hz
  ·rw[if_pos wA];exact zUK m r hb hs hm.v h2 h3 hbh z hz
  grind
 ·intro z hz;unfold zn0 at hz ⊢;split at hz
  ·rw[if_pos wA];exact zUK m r hb hs hm.v h4 h3 hbh z hz
  grind
structure InS(s t:Swp):Prop where
 lane:s.lane=t.lane
 lo:t.lo<=s.lo
 hi:s.hi<=t.hi
 cap:t.cap=true->s.cap=true
abbrev zVA(l k:List Swp):Prop:=∀s∈l,∃t∈k,InS s t
def zUy(l:List Swp)(s:Swp):s∈zhp (zlg l)<->s∈l:=by grind [zrs,zsK]
def zUz(m:zD)(r:List Int){e f:Ego}(h:InE e f)(act:Int):InE (zaN m r e act) (zaN m r f act):=by
 have s1:=zEJ m r act h.vlo;have s2:=zEJ m r act h.vhi;have:=h.slo;have:=h.shi;exact⟨by grind [zaN],by grind [zaN],s1,s2⟩
def zVi{m:zD}{zs:List Zon}{ss:List Sgn}(hf:zmq m zs ss)(r:List Int)(len:Int){a b:zci}(hI:InK a b)(ha:zdf m a=0)(hb:zdf m b=0)(act:Int)(signals:Bool) :
  InK (zEt m zs ss r len signals a act) (zEt m zs ss r len signals b act)/\zVA (zKu m zs ss r len signals a act) (zKu m zs ss r len signals b act):=by
 have h:=hf.qO;have va:=zxJ h ha;have vb:=zxJ h hb;have la:Le a.jZ:=fun x hx=>(va x hx).le
 have hE:=zUz m r hI.ego act;have hO:=zUG m hI.ego len r hI.bl la;have oa:=ztK (m:=m) a.ego len r _ va;have ob:=ztK (m:=m) b.ego len r _ vb;have Dh:zfx len (zaN m r a.ego act)<=zfx len (zaN m r b.ego act):=by unfold zfx;have:=hE.shi;omega
 have key:∀p∈zkr m a.ego len r a.jZ,∃q∈zkr m b.ego len r b.jZ,(∀z∈zm8 m zs ss r (zfx len (zaN m r a.ego act)) (zaN m r a.ego act).slo len a signals p,∃w∈zm8 m zs ss r (zfx len (zaN m r b.ego act)) (zaN m r b.ego act).slo len b signals q,zVp z w)/\(∀z∈zn0 m zs ss r (zfx len (zaN m r a.ego act)) (zaN m r a.ego act).slo len a signals p,∃w∈zn0 m zs ss r (zfx len (zaN m r b.ego act)) (zaN m r b.ego act).slo len b signals q,zVp z w):=fun p hp=>by
  obtain⟨q,hq,hpq⟩:=hO p hp;exact⟨q,hq,zVk hf r len Dh hE.slo hI.tick hI.ego la hpq hp (oa p hp) (ob q hq) signals⟩
 have hBl:Sub (zex m zs ss r len a (zaN m r a.ego act) signals) (zex m zs ss r len b (zaN m r b.ego act) signals):=by
  intro x hx;unfold zex at hx ⊢;rcases jL.1 hx with hx|hx
  ·grind [zgt]
  ·obtain⟨s,hs,hx⟩:=kj.1 hx;refine⟨x,qj _ (kj.2 ⟨s,hs,?_⟩),.refl x⟩;unfold zfb at hx ⊢;split at hx
   ·rw[if_pos]
    ·grind
    grind [zqn]
   grind
 have b1:=zE4 hf r len a (zaN m r a.ego act) signals va;have b2:=zE4 hf r len b (zaN m r b.ego act) signals vb;refine⟨⟨by show a.tick+1=b.tick+1;rw[hI.tick],hE,?_⟩,?_⟩
 ·exact zUG m hE len r (zVl b1 b2 hBl) fun x hx=>((zEl _ b1).1 x hx).le
 ·intro s hs;have hs:=(zUy _ s).1 hs;obtain⟨p,hp,hx⟩:=kj.1 hs;obtain⟨z,hz,rfl⟩:=jW.1 hx;obtain⟨q,hq,_,hB⟩:=key p hp;obtain⟨w,hw,g⟩:=hB z hz;refine⟨zlJ w,(zUy _ _).2 ?_,⟨g.1.lane,g.1.lo,g.1.hi,g.2⟩⟩
  grind [zfV,zhM]
def z0V{m:zD}(h:zcp m)(h1:zXl m){n:Nat}(hn:n<m.jd.length)(cs:List Pnt):∀x∈zXw n m.jd[n] cs,InB x/\x.lane=n/\x.lo<=x.hi:=by
 intro x hx;have hle:=h.Cf _ (jf hn);simp only[zXw,kj,zXt,jW]at hx;obtain⟨p,hp,f,hf,rfl⟩:=hx;have hb:=(zYS h1 (jf hn) p).2 f hf;refine⟨⟨?_,?_⟩,rfl,?_⟩<;>simp only[zYk]<;>omega
theorem zZO{m:zD}(h1:zXl m){n:Nat}(hn:n<m.jd.length)(cs:List Pnt):(zXw n m.jd[n] cs).length<=cs.length:=by
 induction cs with
 |nil=>simp[zXw]
 |cons p cs ih =>
  grind [zZf,zXw,List.length_append,List.length_cons]
def zYw(n:Nat)(l:zfn)(cs:List Pnt):List Fnd:=(zYJ (zXw n l cs)).foldl grp []
def zXF(cs:List Pnt):Nat->List zfn->List Fnd
 |_,[]=>[]
 |n,l::ls=>zYw n l cs++zXF cs (n+1) ls
theorem zY3(s:List Fnd):∀g,(s.foldl grp g).length<=g.length+s.length:=by
 induction s with
 |nil=>grind
 |cons x s ih =>
  grind [grp,z0h,List.length_cons]
theorem zZd{m:zD}(h1:zXl m){n:Nat}(hn:n<m.jd.length)(cs:List Pnt):(zYw n m.jd[n] cs).length<=cs.length:=by
 grind [zY3,zYJ,zXw,zX5,zZO,zYw]
def zZJ{m:zD}(h:zcp m)(h1:zXl m)(pts:List Pnt)(hp:pts.length<=1000)(hm:m.jd.length<=90):∀(r:List zfn) (i v:Nat) (o:List Fnd),m.jd.drop i=r->i<=m.jd.length->o.length<=i*1000 ->
  ∃v',Y L Cs zWT (some [5,21,20,1,2]) 3 [(5,.w (.c (oS 2 o))),(21,.w (W i)),(20,.w (W m.jd.length)),(1,.w (.c (.jb (zWs pts)))),(2,.w (Pt 0))] [bx 5 (zf m),gb 5,oB v o] =
   some (.exit 0,[(22,.w (Bo false)),(5,.w (.c (oS 2 (o++zXF (pts.filter zXq) i r)))),(21,.w (W m.jd.length)),(20,.w (W m.jd.length)),(1,.w (.c (.jb (zWs pts)))),(2,.w (Pt 0))],[bx 5 (zf m),gb 5,oB v' (o++zXF (pts.filter zXq) i r)]):=by
 intro r;induction r with
 |nil =>
  intro i v o hd hi ho;obtain rfl:=zUb hd hi;refine⟨v,?_⟩;rw[ZfM zWT.eq_1];simp[zXF]
 |cons ln r ih =>
  intro i v o hd hi ho;obtain⟨hil,hs,hd'⟩:=zL hd;have hw:=zB (i:=i) wA;have hcnt:=z0z pts hp;have hfl:(pts.filter zXq).length<=pts.length:=qx _ _;have hcs:∀p∈pts.filter zXq,zXq p=true:=fun p hp=>(uO.1 hp).2
  generalize pts.filter zXq=cs at *;have hl1:=zZK h h1 hil v m.jd.length o pts cs hcs wA cs 0 [] rfl (jr _) (jr _);have hlen:=zZO h1 hil cs;have hInB:=z0V h h1 hil cs;have hll:=zZd h1 hil cs;rw[hs]at hl1 hlen hInB hll;obtain⟨v2,hl2⟩:=zYG (m:=m) i m.jd.length ((zXw i ln cs).length+1) o wA pts (zYJ (zXw i ln cs)) (fun x hx=>(hInB x ((zZa _).mem_iff.1 hx)).1) (by rw[zX5];omega) (zYJ (zXw i ln cs)) 0 v [] rfl (jr _) (jr _) wD;change Y _ _ _ _ _ _ _=some (_,[_,_,_,_,_,_,_,_,_,(5,.w (.c (oS 2 (o++zYw i ln cs))))],[_,_,oB v2 (o++zYw i ln cs),_])at hl2;have hsl:=zX5 (zXw i ln cs);by_cases h0:zXw i ln cs=[]
  ·have e:zYw i ln cs=[]:=by
    have:zYJ ([]:List Fnd)=[]:=jN (zX5 []);simp[zYw,h0,this]
   obtain⟨v',ih⟩:=ih (i+1) v o hd' hil wA;refine⟨v',?_⟩;have hS:=zZS 0;rw[zXF,e,je,<-ih,ZfM zWT.eq_1];clear ih hl2 hInB hll;obtain⟨v3,hl2⟩:=zYG (m:=m) i m.jd.length 0 o wA pts [] wD wD [] 0 v [] rfl (jr _) (jr _) wD;have hv3:v3=v:=by
    rw[ZfM zWH.eq_1]at hl2;simp[oB,oS,lB,zf]at hl2;exact hl2.symm
   subst hv3;rw[h0]at hl1;simp only[oB,oS,lB,sl,own,zf,jp,jg,zXx,ku,je,zYf,List.foldl_nil]at hl1 hl2 hcnt hS ⊢;simp[hil,hw,hcnt,hl1,hS,hl2,zg,zH,zf,oB,oS,lB]
  ·obtain⟨v',ih⟩:=ih (i+1) v2 (o++zYw i ln cs) hd' hil (by simp;omega);refine⟨v',?_⟩;have hS:=z1u (zXw i ln cs) wA h0 (zXw i ln cs).length;have hn0:(zXw i ln cs).length≠0:=by simpa using h0
   rw[zXF,<-jM,<-ih,ZfM zWT.eq_1];clear ih hInB;generalize zYw i ln cs=lf at *;generalize zYJ (zXw i ln cs)=sf at *;simp only[je]at hl1;generalize zXw i ln cs=af at *;simp only[oB,oS,lB,sl,own,zf,jp,jg,zXx,ku,zYf,hsl]at hl1 hl2 hcnt hS ⊢;simp[hil,hw,hcnt,hl1,hS,hl2,zg,zH,zf,oB,oS,lB,hsl]
def zZ5{m:zD}(h1:zXl m)(cs:List Pnt):∀(r:List zfn) (i:Nat),m.jd.drop i=r->(zXF cs i r).length<=r.length*cs.length:=by
 intro r;induction r with
 |nil=>grind [zXF]
 |cons ln r ih =>
  intro i hd;obtain⟨hil,hs,hd'⟩:=zL hd
  grind [zZd,zXF,List.length_append,List.length_cons,Nat.succ_mul]
def zWG(m:zD)(pts:List Pnt):List Fnd:=zXF (pts.filter zXq) 0 m.jd
def z1x{m:zD}(h:zcp m)(h1:zXl m)(pts:List Pnt)(hp:pts.length<=1000)(hm:m.jd.length<=90):R L Cs zY5 [.a (zf m),.c (.jb (zWs pts))] []=some (.w (.c (.jb (zWw (zWG m pts)))),[]):=by
 obtain⟨v',hl⟩:=zZJ h h1 pts hp hm m.jd 0 0 [] rfl (jr _) (jr _);have hck:=h.chk;have htk:List.take (zWG m pts).length (zWw (zWG m pts))=zWw (zWG m pts):=zYQ _;change Y _ _ _ _ _ _ _=some (_,[_,(5,.w (.c (oS 2 (zWG m pts)))),_,_,_,_],[_,_,oB v' (zWG m pts)])at hl;simp only[oB,oS,zf,jp,jg,zXx]at hl hck;rw[zUa zY8 rfl];simp[zXH,zf,hck,hl,zg,zX,htk]
def Ax:List Spn->List zk->List zk
 |[],l=>l
 |s::r,l=>Ax r (zhn s.lane s.lo s.hi l)
def zXy(seen:List Spn)(b:zk):Bool:=seen.any fun s=>decide (s.lane=b.lane)&&(decide (s.lo<=b.lo)&&decide (b.hi<=s.hi))
def zXe(b:zk)(f:Fnd):Bool:=decide (f.lane=b.lane)&&(decide (f.lo<=b.hi)&&decide (b.lo<=f.hi))
def zYT(x:Fnd)(l:List Fnd):Fnd:=l.foldl (fun y z=>if z.v1<y.v1 then z else y) x
def zYU(x:Fnd)(l:List Fnd):Fnd:=l.foldl (fun y z=>if y.v2<z.v2 then z else y) x
def nrB(b:zk):List Fnd->zk
 |[]=>b
 |x::l=>{ b with vlo:=max b.vlo (zYT x l).v1,vhi:=min b.vhi (zYU x l).v2 }
def zX4(seen:List Spn)(found:List Fnd)(b:zk):List zk :=
 if zXy seen b=true then(if(nrB b (found.filter (zXe b))).vlo<=(nrB b (found.filter (zXe b))).vhi then [nrB b (found.filter (zXe b))] else []) else [b]
def zXm(m:zD)(seen:List Spn)(pts:List Pnt)(l:List zk):List zk :=
 (Ax (zXD m seen (zWG m pts)) l).flatMap (zX4 (zXa m seen) (zWG m pts))
def zZg:∀(fr:List Spn) (l k:List zk),Sub l k->Le l->Sub (Ax fr l) (Ax fr k)
 |[],l,k,h,_=>h
 |s::r,l,k,h,hl=>zZg r _ _ (zVm h hl (jQ _) (jQ _)) (zUA hl).2
def zX8:∀(fr:List Spn) (l:List zk),Le l->Sub (Ax fr l) l/\Le (Ax fr l)
 |[],l,hl=>⟨fun p hp=>⟨p,hp,.refl p⟩,hl⟩
 |s::r,l,hl=>by
  obtain⟨h1,h2⟩:=zUA (x:=s.lane) (fr:=s.lo) (to:=s.hi) hl;obtain⟨g1,g2⟩:=zX8 r _ h2;exact⟨g1.trans h1,g2⟩
def zZM:∀(fr:List Spn) (l:List zk),Le l->∀s∈fr,s.lo<=s.hi->∀p∈Ax fr l,p.lane=s.lane->p.hi<s.lo\/s.hi<p.lo
 |t::r,l,hl,s,hs,hse,p,hp,hpl=>by
  obtain⟨h1,h2⟩:=zUA (x:=t.lane) (fr:=t.lo) (to:=t.hi) hl;rcases jK.1 hs with rfl|hs
  ·obtain⟨q,hq,hi⟩:=(zX8 r _ h2).1 p hp;obtain⟨b,hb,hqb⟩:=zUl.1 hq;have:=zVx hse hqb (by rw[<-hi.lane,hpl]);have:=hi.lo;have:=hi.hi;omega
  ·exact zZM r _ h2 s hs hse p hp hpl
def zZs{m:zD}:∀(fr:List Spn) (l:List zk),(∀b∈l,VB m b)->l.Pairwise Apt->(∀b∈Ax fr l,VB m b)/\(Ax fr l).Pairwise Apt
 |[],l,hv,ha=>⟨hv,ha⟩
 |s::r,l,hv,ha=>zZs r _ (zxH l hv) (zEN _ _ _ l ha)
abbrev z04(ln o:Int)(l:List Spn):Prop:=∃t∈l,t.lane=ln/\t.lo<=o/\o<=t.hi
def zZN{x fr to ln o:Int}(hno:¬(x=ln/\fr<=o/\o<=to)):∀{l:List Spn},z04 ln o l->z04 ln o (zYr x fr to l)
 |b::l,⟨t,ht,h1,h2,h3⟩=>by
  unfold zYr;rcases jK.1 ht with rfl|ht
  ·have key:z04 ln o (zYm x fr to t):=by
    unfold zYm;split
    ·grind
    ·by_cases c1:o<fr
     ·exact⟨{ t with hi:=fr-1 },kV _ (by grind),h1,h2,by grind⟩
     ·exact⟨{ t with lo:=to+1 },qj _ (by grind),h1,by grind,h3⟩
   grind
  ·obtain⟨t',ht',hh⟩:=zZN hno ⟨t,ht,h1,h2,h3⟩
   grind
def zZe{m:zD}{ln o:Int}:∀(fs:List Fnd) (l:List Spn),(∀f∈fs,¬(f.lane=ln/\f.lo<=o/\o<=f.hi))->z04 ln o l->z04 ln o (zYx m fs l)
 |[],l,_,h=>h
 |f::fs,l,hf,h=>by
  refine zZe fs _ (fun x hx=>hf x (jE _ hx)) ?_;split
  ·simp_all [zZN,js]
  grind
def z0J{m:zD}{seen:List Spn}{fs:List Fnd}{l:List zk}(hl:Le l){p:zk}(hp:p∈Ax (zXD m seen fs) l)(hs:zXy (zXa m seen) p=true):fs.filter (zXe p)≠[]:=by
 intro he;have hle:=(zX8 _ _ hl).2 p hp;obtain⟨s,hsm,hsp⟩:=kN.1 hs;simp only[jk,decide_eq_true_eq]at hsp;have hno:∀f∈fs,¬(f.lane=p.lane/\f.lo<=p.lo/\p.lo<=f.hi):=fun f hf hh=>by
  have:f∈fs.filter (zXe p):=uO.2 ⟨hf,by grind [zXe]⟩
  grind
 obtain⟨t,ht,t1,t2,t3⟩:=zZe (m:=m) fs (zXa m seen) hno ⟨s,hsm,hsp.1,hsp.2.1,wA⟩;have:=zZM _ _ hl t ht wA p hp t1.symm;omega
def zYB:∀(l:List Fnd) (x:Fnd),(zYT x l∈x::l)/\∀y∈x::l,(zYT x l).v1<=y.v1
 |[],x=>⟨by simp[zYT],fun y hy=>by rw[jB.1 hy];exact jQ _⟩
 |z::l,x=>by
  have e:zYT x (z::l)=zYT (if z.v1<x.v1 then z else x) l:=rfl;obtain⟨h1,h2⟩:=zYB l (if z.v1<x.v1 then z else x)
  grind
def zYC:∀(l:List Fnd) (x:Fnd),(zYU x l∈x::l)/\∀y∈x::l,y.v2<=(zYU x l).v2
 |[],x=>⟨by simp[zYU],fun y hy=>by rw[jB.1 hy];exact jQ _⟩
 |z::l,x=>by
  have e:zYU x (z::l)=zYU (if x.v2<z.v2 then z else x) l:=rfl;obtain⟨h1,h2⟩:=zYC l (if x.v2<z.v2 then z else x)
  grind
def z0M(b:zk)(l:List Fnd):(nrB b l).lane=b.lane/\(nrB b l).lo=b.lo/\(nrB b l).hi=b.hi/\(nrB b l).hold=b.hold/\b.vlo<=(nrB b l).vlo/\(nrB b l).vhi<=b.vhi:=by
 cases l with
 |nil=>exact⟨rfl,rfl,rfl,rfl,jQ _,jQ _⟩
 |cons x l=>exact⟨rfl,rfl,rfl,rfl,by grind [nrB],by grind [nrB]⟩
def zYv{seen:List Spn}{found:List Fnd}{b p:zk}(h:p∈zX4 seen found b):InP p b/\p.lane=b.lane/\p.lo=b.lo/\p.hi=b.hi/\p.hold=b.hold/\(b.vlo<=b.vhi->p.vlo<=p.vhi):=by
 unfold zX4 at h;obtain⟨n1,n2,n3,n4,n5,n6⟩:=z0M b (found.filter (zXe b));split at h
 ·split at h
  ·rename_i c;rw[jB.1 h];exact⟨⟨n1,wA,wA,n5,n6,by grind⟩,n1,n2,n3,n4,fun _=>c⟩
  grind
 ·rw[jB.1 h];exact⟨.refl b,rfl,rfl,rfl,rfl,id⟩
def z0o{seen:List Spn}{found:List Fnd}{p q:zk}(hle:p.lo<=p.hi)(hI:InP p q)(hh:zXy seen p=true->found.filter (zXe p)≠[]){p':zk}(hp:p'∈zX4 seen found p):∃q'∈zX4 seen found q,InP p' q':=by
 have i1:=hI.lane;have i2:=hI.lo;have i3:=hI.hi;have i4:=hI.vlo;have i5:=hI.vhi;by_cases cq:zXy seen q=true
 ·have cp:zXy seen p=true:=by
   obtain⟨s,hs,hsq⟩:=kN.1 cq;exact kN.2 ⟨s,hs,by grind⟩
  unfold zX4 at hp ⊢;rw[if_pos cp]at hp;rw[if_pos cq];have B7:∀f∈found.filter (zXe p),f∈found.filter (zXe q):=fun f hf=>by
   grind [zXe]
  generalize found.filter (zXe p)=A at *;generalize found.filter (zXe q)=B at *;obtain⟨x,l,rfl⟩:∃x l,A=x::l:=by cases A with|nil=>grind|cons x l=>grind
  obtain⟨y,k,rfl⟩:∃y k,B=y::k:=by cases B with|nil=>grind [absurd,List.mem_cons_self]|cons y k=>grind
  have m1:=(zYB k y).2 _ (B7 _ (zYB l x).1);have m2:=(zYC k y).2 _ (B7 _ (zYC l x).1);split at hp
  ·rw[jB.1 hp];have hc:(nrB q (y::k)).vlo<=(nrB q (y::k)).vhi:=by grind [nrB]
   rw[if_pos hc];exact⟨_,jB.2 rfl,⟨i1,i2,i3,by grind [nrB],by grind [nrB],hI.hold⟩⟩
  grind
 ·obtain⟨hin,_⟩:=zYv hp;have e:zX4 seen found q=[q]:=by simp_all [zX4,if_neg]
  rw[e];exact⟨q,wD,hin.trans hI⟩
def z0n{m:zD}{seen:List Spn}{pts:List Pnt}{l k:List zk}(h:Sub l k)(hl:Le l):Sub (zXm m seen pts l) (zXm m seen pts k):=by
 intro p' hp';obtain⟨p,hp,hpp⟩:=kj.1 hp';obtain⟨q,hq,hI⟩:=zZg _ _ _ h hl p hp;obtain⟨q',hq',hI'⟩:=z0o ((zX8 _ _ hl).2 p hp) hI (z0J hl hp) hpp;exact⟨q',kj.2 ⟨q,hq,hq'⟩,hI'⟩
def z0e{m:zD}{seen:List Spn}{pts:List Pnt}{l:List zk}(hl:Le l):Sub (zXm m seen pts l) l:=by
 intro p' hp';obtain⟨p,hp,hpp⟩:=kj.1 hp';obtain⟨q,hq,hI⟩:=(zX8 _ _ hl).1 p hp;exact⟨q,hq,(zYv hpp).1.trans hI⟩
theorem zZj{m:zD}{seen:List Spn}{pts:List Pnt}{l:List zk}(hv:∀b∈l,VB m b)(ha:l.Pairwise Apt):(∀b∈zXm m seen pts l,VB m b)/\(zXm m seen pts l).Pairwise Apt:=by
 unfold zXm;obtain⟨h1,h2⟩:=zZs (zXD m seen (zWG m pts)) l hv ha;generalize Ax (zXD m seen (zWG m pts)) l=c at *;refine⟨fun b hb=>?_,?_⟩
 ·obtain⟨p,hp,hpp⟩:=kj.1 hb;have hb:=h1 p hp;obtain⟨g,g1,g2,g3,g4,g5⟩:=zYv hpp;have:=g.vlo;have:=g.vhi;exact⟨by rw[g1];exact hb.lane,by rw[g2];exact hb.lo,by rw[g2,g3];exact hb.le,by rw[g1,g3];exact hb.hi,by have:=hb.vlo;omega,g5 hb.vle,by rw[g1];have:=hb.vhi;omega,by rw[g1,g4];exact hb.hold⟩
 ·clear h1;induction c with
  |nil=>grind
  |cons p c ih =>
   obtain⟨q1,q2⟩:=jX.1 h2;rw[kG,kE];refine⟨?_,ih q2,fun a ha b hb=>?_⟩
   ·unfold zX4;split
    ·split
     ·grind
     simp_all
    grind
   ·obtain⟨_,a1,a2,a3,_,_⟩:=zYv ha;obtain⟨q,hq,hqq⟩:=kj.1 hb;obtain⟨_,b1,b2,b3,_,_⟩:=zYv hqq
    grind [Apt]
def zZ9(a b:Fnd):R L Cs zW3 [.a (zWN a),.a (zWN b)] []=some (.w (W (zgQ a.v1 b.v1)),[]):=by
 have h:=zp1 a.v1 b.v1;rw[zUa zYE rfl];simp[zXk,zWN,h,zg]
def zZ8(a b:Fnd):R L Cs zW2 [.a (zWN a),.a (zWN b)] []=some (.w (W (zgQ a.v2 b.v2)),[]):=by
 have h:=zp1 a.v2 b.v2;rw[zUa zYD rfl];simp[zXj,zWN,h,zg]
abbrev mnE(q:Nat)(l:List Fnd)(i:Nat):Env:=[(6,.w (W i)),(4,.w (Pt 0)),(1,.w (.c (.fn q [] []))),(0,.w (.c (.jb (zWw l)))),(5,.w (Pt 1))]
def z1k(a b:Int):(zgQ a b<0)=(a<b):=by
 grind [zgQ]
def z1l(a b:Int):(0<zgQ a b)=(b<a):=by
 grind [zgQ]
def z0P(l:List Fnd)(hl:l.length<=100000)(z:List Cl):∀(r:List Fnd) (i v:Nat) (y:Fnd),l.drop i=r->i<=l.length ->
  ∃v',Y L Cs zWC (some [6,4,1,0,5]) 2 (mnE zW3 l i) [bx 5 z,bxv v 5 (zWN y)]=some (.exit 0,(17,.w (Bo false))::mnE zW3 l l.length,[bx 5 z,bxv v' 5 (zWN (zYT y r))]):=by
 intro r;induction r with
 |nil =>
  intro i v y hd hi;obtain rfl:=zUb hd hi;rw[ZfM zWC.eq_1];simp[zYT]
 |cons x r ih =>
  intro i v y hd hi;obtain⟨hil,hx,hd'⟩:=zL hd;have hw:=zB (i:=i) wA;have hc:=zZ9 x y;have e:zYT y (x::r)=zYT (if x.v1<y.v1 then x else y) r:=rfl;have hs:=z1k x.v1 y.v1;by_cases c:x.v1<y.v1
  ·obtain⟨v',h'⟩:=ih (i+1) (v+1) x hd' hil;refine⟨v',?_⟩;rw[e,if_pos c,<-h'];rw[ZfM zWC.eq_1];simp only[zWN]at hc;simp[mnE,hil,hx,hw,zWN,hc,hs,c]
  ·obtain⟨v',h'⟩:=ih (i+1) v y hd' hil;refine⟨v',?_⟩;rw[e,if_neg c,<-h'];rw[ZfM zWC.eq_1];simp only[zWN]at hc;simp[mnE,hil,hx,hw,zWN,hc,hs,c]
def z0Q(l:List Fnd)(hl:l.length<=100000)(z:List Cl):∀(r:List Fnd) (i v:Nat) (y:Fnd),l.drop i=r->i<=l.length ->
  ∃v',Y L Cs zWD (some [6,4,1,0,5]) 2 (mnE zW2 l i) [bx 5 z,bxv v 5 (zWN y)]=some (.exit 0,(17,.w (Bo false))::mnE zW2 l l.length,[bx 5 z,bxv v' 5 (zWN (zYU y r))]):=by
 intro r;induction r with
 |nil =>
  intro i v y hd hi;obtain rfl:=zUb hd hi;rw[ZfM zWD.eq_1];simp[zYU]
 |cons x r ih =>
  intro i v y hd hi;obtain⟨hil,hx,hd'⟩:=zL hd;have hw:=zB (i:=i) wA;have hc:=zZ8 x y;have e:zYU y (x::r)=zYU (if y.v2<x.v2 then x else y) r:=rfl;have hs:=z1l x.v2 y.v2;by_cases c:y.v2<x.v2
  ·obtain⟨v',h'⟩:=ih (i+1) (v+1) x hd' hil;refine⟨v',?_⟩;rw[e,if_pos c,<-h'];rw[ZfM zWD.eq_1];simp only[zWN]at hc;simp[mnE,hil,hx,hw,zWN,hc,hs,c]
  ·obtain⟨v',h'⟩:=ih (i+1) v y hd' hil;refine⟨v',?_⟩;rw[e,if_neg c,<-h'];rw[ZfM zWD.eq_1];simp only[zWN]at hc;simp[mnE,hil,hx,hw,zWN,hc,hs,c]
def z0A(x:Fnd)(l:List Fnd)(hl:l.length<100000):R L Cs zXS [.c (.jb (zWw (x::l))),.c (.fn zW3 [] [])] []=some (.w (.a (zWN (zYT x l))),[]):=by
 obtain⟨v',h⟩:=z0P (x::l) (by grind) [I 0,I 0,I 0,I 0,I 0] l 1 1 x rfl wD;have hp:¬((l.length:Int)+1<1):=wA
 simp only[mnE,kg,jl,zYn,zWN]at h;rw[zUa zXZ rfl];simp[zWV,h,zWN,hp,zg]
def z0B(x:Fnd)(l:List Fnd)(hl:l.length<100000):R L Cs zXT [.c (.jb (zWw (x::l))),.c (.fn zW2 [] [])] []=some (.w (.a (zWN (zYU x l))),[]):=by
 obtain⟨v',h⟩:=z0Q (x::l) (by grind) [I 0,I 0,I 0,I 0,I 0] l 1 1 x rfl wD;have hp:¬((l.length:Int)+1<1):=wA
 simp only[mnE,kg,jl,zYn,zWN]at h;rw[zUa zX0 rfl];simp[zWW,h,zWN,hp,zg]
abbrev nwE(fs out:List Fnd)(i:Nat):Env:=[(6,.w (.c (sl 2 5 (zWw out)))),(13,.w (W i)),(12,.w (W fs.length)),(4,.w (Pt 1)),(11,.w (.c (.jb (zWw fs)))),(2,.w (Pt 0))]
def z1g(b:zk)(fs:List Fnd)(hl:fs.length<=100000):∀(r:List Fnd) (i:Nat) (out:List Fnd),fs.drop i=r->i<=fs.length->out.length<=i ->
  Y L Cs zWQ (some [6,13,12,4,11,2]) 3 (nwE fs out i) [bx 6 (ze b),bx 6 [I 0,I 0,I 0,I 0,I 0,I 0],some (own 5 (zWw out))] =
    some (.exit 0,[(14,.w (Bo false)),(6,.w (.c (sl 2 5 (zWw (out++r.filter (zXe b)))))),(13,.w (W fs.length)),(12,.w (W fs.length)),(4,.w (Pt 1)),(11,.w (.c (.jb (zWw fs)))),(2,.w (Pt 0))],[bx 6 (ze b),bx 6 [I 0,I 0,I 0,I 0,I 0,I 0],some (own 5 (zWw (out++r.filter (zXe b))))]):=by
 intro r;induction r with
 |nil =>
  intro i out hd hi ho;obtain rfl:=zUb hd hi;rw[ZfM zWQ.eq_1];simp
 |cons x r ih =>
  intro i out hd hi ho;obtain⟨hil,hx,hd'⟩:=zL hd;have hw:=zB (i:=i) wA;have kA:(out.length+1)*40<=140737488355328:=wA
  by_cases c:zXe b x=true
  ·rw[uh,if_pos c,show out++x::r.filter (zXe b)=(out++[x])++r.filter (zXe b) by simp,<-ih (i+1) (out++[x]) hd' hil (by simp;omega)];clear ih;unfold zXe at c;simp only[jk,decide_eq_true_eq]at c;obtain⟨c1,c2,c3⟩:=c;have c1':(x.lane==b.lane)=true:=by simp[c1]
   rw[ZfM zWQ.eq_1];simp[nwE,hil,hx,hw,zWN,ze,c1,c1',c2,c3,kA,zg,zH]
  ·rw[uh,if_neg c,<-ih (i+1) out hd' hil wA];clear ih;unfold zXe at c;simp only[jk,decide_eq_true_eq]at c;rw[ZfM zWQ.eq_1];by_cases c1:x.lane=b.lane
   ·have c1':(x.lane==b.lane)=true:=by simp[c1]
    by_cases c2:x.lo<=b.hi
    ·have c3:¬b.lo<=x.hi:=fun h=>c ⟨c1,c2,h⟩
     simp[nwE,hil,hx,hw,zWN,ze,c1,c1',c2,c3,zg,zH]
    ·simp[nwE,hil,hx,hw,zWN,ze,c1,c1',c2,zg,zH]
   ·have c1':(x.lane==b.lane)=false:=by simp[c1]
    simp[nwE,hil,hx,hw,zWN,ze,c1,c1',zg,zH]
def z00(b:zk)(hb:b.vlo<=b.vhi)(fs:List Fnd)(hl:fs.length<=50000) :
  R L Cs zYV [.a (ze b),.c (.jb (zWw fs))] []=some (.t [.a (ze (nrB b (fs.filter (zXe b)))),Bo (decide ((nrB b (fs.filter (zXe b))).vlo<=(nrB b (fs.filter (zXe b))).vhi))],[]):=by
 have h:=z1g b fs wA fs 0 [] rfl (jr _) (jm _);have hfl:=qx (zXe b) fs;simp only[je,nwE,jg,zXx,jp,sl,own]at h;generalize fs.filter (zXe b)=A at *;cases A with
 |nil =>
  simp only[zXx,jp,ze]at h;rw[zUa zYc rfl];simp[zXf,h,nrB,hb,ze,zg,zH]
 |cons x l =>
  have h1:=z0A x l (by grind);have h2:=z0B x l (by grind);have hz:((l.length:Int)+1==0)=false:=beq_false_of_ne wA;simp only[zYn,zWN,ze]at h h1 h2;rw[zUa zYc rfl];simp[zXf,h,h1,h2,nrB,zWN,ze,hz,zg,zH,zX]
  grind
theorem zYo{m:zD}(h:zcp m)(hs:zmX m){l:List zk}(hv:∀b∈l,VB m b)(ha:l.Pairwise Apt):l.length<=200000000 :=
 zN7 h hs (k:=⟨0,l,⟨0,0,0,0⟩⟩) ⟨hv,ha,(show znd ⟨0,0,0,0⟩ from⟨wD,wD⟩)⟩
def z0f(k:Int):300<=zeR k/\zeR k<=2000:=by grind [zeR]
abbrev VS(m:zD)(l:List Spn):Prop:=(∀b∈l.map zWu,VB m b)/\(l.map zWu).Pairwise Apt
theorem zZh(x fr to:Int):∀l:List Spn,(zYr x fr to l).map zWu=zhn x fr to (l.map zWu)
 |[]=>rfl
 |b::l=>by
  rw[zYr,uP,zZh x fr to l,kR,zhn]
  congr 1
  unfold zYm zoX;by_cases c:b.lane≠x\/fr>to\/fr>b.hi\/to<b.lo
  ·simp_all [if_pos,zWu]
  ·rw[if_neg c,if_neg (show ¬((zWu b).lane≠x\/fr>to\/fr>(zWu b).hi\/to<(zWu b).lo) from c),uP]
   congr 1
   ·by_cases c1:b.lo<fr
    ·simp_all [if_pos,zWu]
    simp_all [if_neg,zWu]
   ·by_cases c1:to<b.hi
    ·simp_all [if_pos,zWu]
    simp_all [if_neg,zWu]
def z0X{m:zD}{x fr to:Int}{l:List Spn}(h:VS m l):VS m (zYr x fr to l):=by
 grind [zZh,zxH,zEN]
def z0W{m:zD}(h:zcp m)(hs:zmX m){l:List Spn}(hv:VS m l):l.length<=200000000:=by
 grind [zYo,List.length_map]
def zZE{m:zD}(h:zcp m)(l:List Spn):VS m (zXa m l):=by
 have h0:∀b∈(l.filter (onF m)).map zWu,VB m b:=fun b hb=>by
  obtain⟨s,hs,rfl⟩:=jW.1 hb;unfold onF at hs;have:=z0f (zaK m s.lane);exact⟨by grind [zWu],by grind [zWu],by grind [zWu],by grind [zWu],by grind [zWu],by grind [zWu],by grind [zWu],by grind [zWu]⟩
 obtain⟨j1,j2⟩:=zEl _ h0;unfold VS zXa;rw[ya];refine⟨fun b hb=>?_,?_⟩
 ·obtain⟨q,hq,rfl⟩:=jW.1 hb;have v:=j1 q hq;have:=z0f (zaK m q.lane);have:=zcX h v.lane;exact⟨v.lane,v.lo,v.le,v.hi,jQ _,jQ _,by show(0:Int)<=zeR (zaK m q.lane);omega,by constructor;exact jQ _;show(0:Int)<=z8 m q.lane;omega⟩
 ·rw[List.pairwise_map];exact j2.imp fun {a b} hab=>by
   simp_all [Apt,Function.comp,zWu,zXs]
def z0i{m:zD}(h:zcp m)(fs:List Fnd):∀(r:List Fnd) (l:List Spn),VS m l->VS m (zYx m r l)
 |[],l,hv=>hv
 |f::r,l,hv=>by
  refine z0i h fs r _ ?_;split
  ·exact z0X hv
  grind
def zZ4{m:zD}(h:zcp m)(hs:zmX m)(fs:List Fnd)(hl:fs.length<=100000):∀(r:List Fnd) (i:Nat) (out:List Spn),fs.drop i=r->i<=fs.length->VS m out ->
  Y L Cs zW9 (some [7,19,18,17,3]) 2 [(7,.w (.c (.jb (zWx out)))),(19,.w (W i)),(18,.w (W fs.length)),(17,.w (.c (.jb (zWw fs)))),(3,.w (Pt 0))] [bx 5 (zf m),gb 3] =
    some (.exit 0,[(20,.w (Bo false)),(7,.w (.c (.jb (zWx (zYx m r out))))),(19,.w (W fs.length)),(18,.w (W fs.length)),(17,.w (.c (.jb (zWw fs)))),(3,.w (Pt 0))],[bx 5 (zf m),gb 3]):=by
 intro r;induction r with
 |nil =>
  intro i out hd hi hb;obtain rfl:=zUb hd hi;rw[ZfM zW9.eq_1];simp[zYx]
 |cons f r ih =>
  intro i out hd hi hb;obtain⟨hil,hf,hd'⟩:=zL hd;have hw:=zB (i:=i) wA;have hon:=z1M h f.s;have hb1:out.length<=100000000000:=by have:=z0W h hs hb;omega
  have hb2:VS m (if onF m f.s=true then zYr f.lane f.lo f.hi out else out):=by
   split
   ·exact z0X hb
   ·exact hb
  rw[zYx,<-ih (i+1) _ hd' hil hb2,ZfM zW9.eq_1];obtain⟨ln,lo,hi',v1,v2⟩:=f;by_cases c:onF m (Fnd.s ⟨ln,lo,hi',v1,v2⟩)=true
  ·have Be:=z1H ln lo hi' (z0L h c).1 (z0L h c).2 out hb1;rw[if_pos c];rw[c]at hon;simp only[zf,zWX,Fnd.s]at hon;simp[hil,hf,hw,zWN,zf,hon,Be,zg,zH]
  ·have c':onF m (Fnd.s ⟨ln,lo,hi',v1,v2⟩)=false:=by simpa using c
   rw[if_neg c];rw[c']at hon;simp only[zf,zWX,Fnd.s]at hon;simp[hil,hf,hw,zWN,zf,hon,zg,zH]
def zYY(s:Spn)(v:Nat)(b:zk):zx (R L Cs) ⟨true⟩ (.c (.fn zWL [] [.ptr 0 0 0 0])) [.a (zWX s)] [bxv v 6 (ze b)]=some (.w (Bo (decide (s.lane=b.lane)&&(decide (s.lo<=b.lo)&&decide (b.hi<=s.hi)))),[bxv v 6 (ze b)],.no):=by
 have h:∀v,R L Cs zWL [.a (zWX s),Pt 0] [bxv v 6 (ze b)]=some (.w (Bo (decide (s.lane=b.lane)&&(decide (s.lo<=b.lo)&&decide (b.hi<=s.hi)))),[bxv v 6 (ze b)]):=fun v=>by
  rw[zUa zYF rfl];by_cases c1:s.lane=b.lane
  ·have c1':(s.lane==b.lane)=true:=by simp[c1]
   by_cases c2:s.lo<=b.lo<;>by_cases c3:b.hi<=s.hi<;>simp[zW5,zWX,ze,c1,c1',c2,c3,zg,zH]
  ·have c1':(s.lane==b.lane)=false:=by simp[c1]
   simp[zW5,zWX,ze,c1,c1',zg,zH]
 simp_all [zWX,ze]
def zZT(l:List Spn)(hl:l.length<=100000000000)(v:Nat)(b:zk):R L Cs zXA [.c (.jb (zWx l)),.c (.fn zWL [] [.ptr 0 0 0 0])] [bxv v 6 (ze b)]=some (.w (Bo (zXy l b)),[bxv v 6 (ze b)]):=by
 have h:=zxf (L:=L) (Cs:=Cs) (b:=zWz) (live:=some [7,1,0,8]) (n0:=1) l (fun i=>[(7,.w (W l.length)),(1,.w (.c (.fn zWL [] [.ptr 0 0 0 0]))),(0,.w (.c (.jb (zWx l)))),(8,.w (W i))]) [bxv v 6 (ze b)] (fun s=>decide (s.lane=b.lane)&&(decide (s.lo<=b.lo)&&decide (b.hi<=s.hi))) (fun i=>(.ret,[(4,.w (W i))],[bxv v 6 (ze b)])) (.exit 0,[(9,.w (Bo false)),(0,.w (.c (.jb (zWx l)))),(1,.w (.c (.fn zWL [] [.ptr 0 0 0 0]))),(7,.w (W l.length)),(8,.w (W l.length))],[bxv v 6 (ze b)]) ?_ ?_ ?_
 ·have key:∃k:Int,R L Cs zXK [.c (.jb (zWx l)),.c (.fn zWL [] [.ptr 0 0 0 0])] [bxv v 6 (ze b)]=some (.w (W k),[bxv v 6 (ze b)])/\decide (0<=k)=zXy l b:=by
   unfold zXy;generalize (fun s:Spn=>decide (s.lane=b.lane)&&(decide (s.lo<=b.lo)&&decide (b.hi<=s.hi)))=f at *;cases hq:l.findIdx? f with
   |none =>
    rw[hq]at h;refine⟨-1,?_,?_⟩
    ·simp only[jg]at h;rw[zUa zXd rfl];simp[zWJ,h]
    ·have:l.any f=false:=by simpa using hq
     rw[this];decide
   |some k =>
    rw[hq]at h;refine⟨k,?_,?_⟩
    ·simp only[jg]at h;rw[zUa zXd rfl];simp[zWJ,h]
    ·obtain⟨h1,h2,_⟩:=j6.1 hq;have:l.any f=true:=kN.2 ⟨_,jf h1,h2⟩;rw[this];simp
  obtain⟨k,h1,h2⟩:=key;rw[zUa zXC rfl];simp only[ze]at h1;simp[zWP,h1,h2,ze]
 ·intro i hi hp;have hw:=zB (i:=i) wA;have hcc:=zYY l[i] v b;rw[hp]at hcc;simp only[zWX,ze]at hcc;rw[ZfM zWz.eq_1];simp[hi,hw,hcc,zWX,ze,-zx]
 ·intro i hi hp;have hcc:=zYY l[i] v b;rw[hp]at hcc;simp only[zWX,ze]at hcc;rw[ZfM zWz.eq_1];simp[hi,hcc,zWX,ze,-zx]
 ·rw[ZfM zWz.eq_1];simp
end Go.TrRun
