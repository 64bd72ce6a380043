/- This text proves what functions of this seat's program answer, run by the evaluator; no condition. -/
import Derived.Test.YtjmaghejnagjeaaGreatRTx1
set_option maxHeartbeats 8000000
set_option linter.unusedVariables false
set_option linter.unusedSimpArgs false
set_option linter.unusedSectionVars false
set_option maxRecDepth 10000
namespace Go.TrRun
open Go Go.Eng
structure Prt where
 lane:Int
 lo:Int
 hi:Int
 A9:Int
structure Zon where
 parts:List Prt
 qc:Int
structure Phs where
 qK:Int
 green:List Int
structure Sgn where
 offset:Int
 ke:List Phs
def zeB(p:Prt):List Cl:=[I p.lane,I p.lo,I p.hi,I p.A9]
def zkl(l:List Prt):List (List Cl):=l.map zeB
def zdP(z:Zon):List Cl:=[.jb (zkl z.parts),I z.qc]
def zk8(l:List Zon):List (List Cl):=l.map zdP
def zr6(p:Phs):List Cl:=[I p.qK,.jb (zu p.green)]
def zje(l:List Phs):List (List Cl):=l.map zr6
def zeq(s:Sgn):List Cl:=[I s.offset,.jb (zje s.ke)]
def zjd(l:List Sgn):List (List Cl):=l.map zeq
@[simp] theorem zCq(l:List Prt):(zkl l).length=l.length:=by simp[zkl]
@[simp] theorem zzy{l:List Prt}{i:Nat}(h:i<(zkl l).length):(zkl l)[i]=zeB (l[i]'(by simpa using h)):=by simp[zkl]
@[simp] theorem zC7(l:List Zon):(zk8 l).length=l.length:=by simp[zk8]
@[simp] theorem zA9{l:List Zon}{i:Nat}(h:i<(zk8 l).length):(zk8 l)[i]=zdP (l[i]'(by simpa using h)):=by simp[zk8]
@[simp] theorem zCr(l:List Phs):(zje l).length=l.length:=by simp[zje]
@[simp] theorem zzz{l:List Phs}{i:Nat}(h:i<(zje l).length):(zje l)[i]=zr6 (l[i]'(by simpa using h)):=by simp[zje]
@[simp] theorem zCp(l:List Sgn):(zjd l).length=l.length:=by simp[zjd]
@[simp] theorem zzx{l:List Sgn}{i:Nat}(h:i<(zjd l).length):(zjd l)[i]=zeq (l[i]'(by simpa using h)):=by simp[zjd]
structure zvY(l:List Phs):Prop where
 ne:0<l.length
 few:l.length<=6
 qK:∀p∈l,1<=p.qK/\p.qK<=10000
 green:∀p∈l,p.green.length<=100
def zdg(l:List Phs):Int:=(l.map Phs.qK).foldl (· + ·) 0
def zpQ(lane:Int):Int->List Phs->Bool
 |_,[]=>false
 |at',p::r=>if p.qK<=at' then zpQ lane (at'-p.qK) r else decide (lane∈p.green)
def zfA(s:Sgn)(lane tick:Int):Bool:=zpQ lane ((s.offset.tmod (zdg s.ke)+tick.tmod (zdg s.ke)).tmod (zdg s.ke)) s.ke
theorem zyV(l:List Int)(a:Int):l.foldl (· + ·) a=a+l.foldl (· + ·) 0:=by
 induction l generalizing a with
 |nil=>simp
 |cons x l ih=>simp only[jN];rw[ih (a+x),ih (0+x)];omega
theorem zoy(p:Phs)(l:List Phs):zdg (p::l)=p.qK+zdg l:=by
 unfold zdg;simp only[kN,jN];rw[zyV];omega
theorem ztt:∀(l:List Phs),(∀p∈l,1<=p.qK/\p.qK<=10000)->(l.length:Int)<=zdg l/\zdg l<=10000*l.length
 |[],_=>by simp[zdg]
 |p::l,h=>by
  have:=ztt l fun q hq=>h q (jv _ hq)
  have hp:=h p (jr ..);rw[zoy,jk];omega
theorem zmy(a b:Int)(h:0<b):-b<a.tmod b/\a.tmod b<b:=by
 have h1:=Int.tmod_lt_of_pos a h;have h2:=Int.lt_tmod_of_pos a h;omega
theorem zvg(s:Sgn)(lane tick:Int)(hl:zvY s.ke):∀(r:List Phs) (i:Nat) (a:Int),s.ke.drop i=r->i<=s.ke.length->0<=a/\a<=10000*i ->
  Y L Cs zfu (some [7,16,15,1,3,2,14]) 1 [(7,.w (W a)),(16,.w (W i)),(15,.w (W s.ke.length)),(1,.w (W lane)),(3,.w (Pt 0)),(2,.w (W tick)),(14,.w (.c (.jb (zje s.ke))))] [bx 2 (zeq s)] =
    some (.exit 0,[(17,.w (Bo false)),(7,.w (W (a+zdg r))),(16,.w (W s.ke.length)),(15,.w (W s.ke.length)),(1,.w (W lane)),(3,.w (Pt 0)),(2,.w (W tick)),(14,.w (.c (.jb (zje s.ke))))],[bx 2 (zeq s)]):=by
 have hf:=hl.few;intro r;induction r with
 |nil =>
  intro i a hd hi ha;obtain rfl:=zUb hd hi;rw[zj zfu.eq_1];simp[zdg]
 |cons p r ih =>
  intro i a hd hi ha;obtain⟨hil,hp,hd'⟩:=zL hd;have ht:=hl.qK p (hp ▸ je hil);have hw:=zB (i:=i) (by omega);have hwa:=kg (a+p.qK);rw[zoy,show a+(p.qK+zdg r)=(a+p.qK)+zdg r by omega,<-ih (i+1) (a+p.qK) hd' hil (by omega),zj zfu.eq_1];clear ih;simp[hil,hp,hw,hwa,zr6,zeq,zg,zH]
theorem zvf(s:Sgn)(lane:Int)(hl:zvY s.ke):∀(r:List Phs) (i:Nat) (a:Int),s.ke.drop i=r->i<=s.ke.length->-1000000<=a/\a<=100000->∃ex E M,
  Y L Cs zek (some [10,38,37,36,1]) 1 [(10,.w (W a)),(38,.w (W i)),(37,.w (W s.ke.length)),(36,.w (.c (.jb (zje s.ke)))),(1,.w (W lane))] [bx 2 (zeq s)]=some (ex,E,M) /\
    ((ex=.ret/\E=[(6,.w (Bo (zpQ lane a r)))])\/(ex=.exit 2/\zpQ lane a r=false)):=by
 have hf:=hl.few;intro r;induction r with
 |nil =>
  intro i a hd hi ha;obtain rfl:=zUb hd hi;rw[zj zek.eq_1];simp[zpQ];exact⟨_,_,⟨rfl,rfl⟩,.inr rfl⟩
 |cons p r ih =>
  intro i a hd hi ha;obtain⟨hil,hp,hd'⟩:=zL hd;have ht:=hl.qK p (hp ▸ je hil);have hg:=hl.green p (hp ▸ je hil);have hw:=zB (i:=i) (by omega);have hC:=znC p.green lane (by omega);rw[zpQ];by_cases c:p.qK<=a
  ·have hwa:=kg (a-p.qK);obtain⟨ex,E,M,h1,h2⟩:=ih (i+1) (a-p.qK) hd' hil (by omega);refine⟨ex,E,M,?_,by rw[if_pos c];exact h2⟩;rw[<-h1,zj zek.eq_1];clear ih h1 h2;simp[hil,hp,hw,hwa,c,zr6,zeq,zg,zH]
  ·rw[if_neg c];clear ih;refine⟨.ret,[(6,.w (Bo (decide (lane∈p.green))))],[bx 2 (zeq s),bxv 1 2 (zr6 p)],?_,.inl ⟨rfl,rfl⟩⟩;rw[zj zek.eq_1];simp[hil,hp,hw,c,hC,zr6,zeq,zg,zH]
theorem zAP(s:Sgn)(lane tick:Int)(hl:zvY s.ke):R L Cs zsh [.a (zeq s),W lane,W tick] []=some (.w (Bo (zfA s lane tick)),[]):=by
 have hb:=ztt s.ke hl.qK;have hne:=hl.ne;have hf:=hl.few;have h1:=zvg s lane tick hl s.ke 0 0 rfl (jt _) (by omega);rw[uI]at h1;have m1:=zmy s.offset (zdg s.ke) (by omega);have m2:=zmy tick (zdg s.ke) (by omega);have m3:=zmy (s.offset.tmod (zdg s.ke)+tick.tmod (zdg s.ke)) (zdg s.ke) (by omega);obtain⟨ex,E,M,h2,h3⟩:=zvf s lane hl s.ke 0 ((s.offset.tmod (zdg s.ke)+tick.tmod (zdg s.ke)).tmod (zdg s.ke)) rfl (jt _) (by omega);have hw:=kg (s.offset.tmod (zdg s.ke)+tick.tmod (zdg s.ke));have hz:zdg s.ke≠0:=by omega
 unfold zfA;generalize zpQ lane ((s.offset.tmod (zdg s.ke)+tick.tmod (zdg s.ke)).tmod (zdg s.ke)) s.ke=q at *;rw[zUa zst rfl];simp only[jg,zeq]at h1 h2;rcases h3 with⟨rfl,rfl⟩ |⟨rfl,rfl⟩
 ·simp[zhf,h1,h2,hw,hz,zeq]
 ·simp[zhf,h1,h2,hw,hz,zeq]
theorem ztD(s:Sgn)(lane tick:Int)(hl:zvY s.ke):∀(r:List Phs) (i:Nat) (a:Int),s.ke.drop i=r->i<=s.ke.length->0<=a/\a<=10000*i ->
  Y L Cs zcw (some [7,8,1,2,3]) 1 [(7,.w (W a)),(8,.w (W i)),(1,.w (W lane)),(2,.w (W tick)),(3,.w (Pt 0))] [bx 2 (zeq s)] =
    some (.exit 0,[(15,.w (Bo false)),(7,.w (W (a+zdg r))),(8,.w (W s.ke.length)),(1,.w (W lane)),(2,.w (W tick)),(3,.w (Pt 0))],[bx 2 (zeq s)]):=by
 have hf:=hl.few;intro r;induction r with
 |nil =>
  intro i a hd hi ha;obtain rfl:=zUb hd hi;rw[zj zcw.eq_1];simp[zdg,zeq]
 |cons p r ih =>
  intro i a hd hi ha;obtain⟨hil,hp,hd'⟩:=zL hd;have ht:=hl.qK p (hp ▸ je hil);have hw:=zB (i:=i) (by omega);have hwa:=kg (a+p.qK);rw[zoy,show a+(p.qK+zdg r)=(a+p.qK)+zdg r by omega,<-ih (i+1) (a+p.qK) hd' hil (by omega),zj zcw.eq_1];clear ih;simp[hil,hp,hw,hwa,zr6,zeq,zg,zH]
theorem ztC(s:Sgn)(lane:Int)(hl:zvY s.ke):∀(r:List Phs) (i:Nat) (a:Int),s.ke.drop i=r->i<=s.ke.length->-1000000<=a/\a<=100000->∃ex E M,
  Y L Cs zbV (some [9,3,10,1]) 1 [(9,.w (W a)),(3,.w (Pt 0)),(10,.w (W i)),(1,.w (W lane))] [bx 2 (zeq s)]=some (ex,E,M) /\
    ((ex=.ret/\E=[(6,.w (Bo (zpQ lane a r)))])\/(ex=.exit 2/\zpQ lane a r=false)):=by
 have hf:=hl.few;intro r;induction r with
 |nil =>
  intro i a hd hi ha;obtain rfl:=zUb hd hi;rw[zj zbV.eq_1];simp[zpQ,zeq];exact⟨_,_,⟨rfl,rfl⟩,.inr rfl⟩
 |cons p r ih =>
  intro i a hd hi ha;obtain⟨hil,hp,hd'⟩:=zL hd;have ht:=hl.qK p (hp ▸ je hil);have hg:=hl.green p (hp ▸ je hil);have hw:=zB (i:=i) (by omega);have hC:=zAX p.green lane (by omega);rw[zpQ];by_cases c:p.qK<=a
  ·have hwa:=kg (a-p.qK);obtain⟨ex,E,M,h1,h2⟩:=ih (i+1) (a-p.qK) hd' hil (by omega);refine⟨ex,E,M,?_,by rw[if_pos c];exact h2⟩;have c':¬a<p.qK:=by omega
   rw[<-h1,zj zbV.eq_1];clear ih h1 h2;simp[hil,hp,hw,hwa,c,c',zr6,zeq,zg,zH]
  ·rw[if_neg c];clear ih;have c':a<p.qK:=by omega
   refine⟨.ret,[(6,.w (Bo (decide (lane∈p.green))))],[bx 2 (zeq s)],?_,.inl ⟨rfl,rfl⟩⟩;rw[zj zbV.eq_1];simp[hil,hp,hw,c,c',hC,zr6,zeq,zg,zH]
theorem zrO(s:Sgn)(lane tick:Int)(hl:zvY s.ke):R L Cs zkG [.a (zeq s),W lane,W tick] []=some (.w (Bo (zfA s lane tick)),[]):=by
 have hb:=ztt s.ke hl.qK;have hne:=hl.ne;have hf:=hl.few;have h1:=ztD s lane tick hl s.ke 0 0 rfl (jt _) (by omega);rw[uI]at h1;have m1:=zmy s.offset (zdg s.ke) (by omega);have m2:=zmy tick (zdg s.ke) (by omega);have m3:=zmy (s.offset.tmod (zdg s.ke)+tick.tmod (zdg s.ke)) (zdg s.ke) (by omega);obtain⟨ex,E,M,h2,h3⟩:=ztC s lane hl s.ke 0 ((s.offset.tmod (zdg s.ke)+tick.tmod (zdg s.ke)).tmod (zdg s.ke)) rfl (jt _) (by omega);have hw:=kg (s.offset.tmod (zdg s.ke)+tick.tmod (zdg s.ke));have hz:zdg s.ke≠0:=by omega
 unfold zfA;generalize zpQ lane ((s.offset.tmod (zdg s.ke)+tick.tmod (zdg s.ke)).tmod (zdg s.ke)) s.ke=q at *;rw[zUa zk5 rfl];simp only[jg,zeq]at h1 h2;rcases h3 with⟨rfl,rfl⟩ |⟨rfl,rfl⟩
 ·simp[zdq,h1,h2,hw,hz,zeq]
 ·simp[zdq,h1,h2,hw,hz,zeq]
structure Zd(m:zD)(zs:List Zon)(ss:List Sgn):Prop where
 z:m.qE=zk8 zs
 s:m.signals=zjd ss
 few:zs.length<=12
 Cc:ss.length<=4
 sig:∀z∈zs,0<=z.qc/\z.qc<=ss.length
 BA:∀z∈zs,z.parts.length<=6
 ph:∀s∈ss,zvY s.ke
abbrev ztn:Sgn:=⟨0,[]⟩
def zcK(ss:List Sgn)(lane tick:Int)(z:Zon)(p:Prt):Bool:=decide (p.lane=lane) && !zfA (ss.getD (z.qc-1).toNat ztn) lane tick
def zqJ(ss:List Sgn)(lane tick:Int)(z:Zon):List Int:=if z.qc=0 then [] else(z.parts.filter (zcK ss lane tick z)).map Prt.lo
def zpN(zs:List Zon)(ss:List Sgn)(lane tick:Int):List Int:=zs.flatMap (zqJ ss lane tick)
theorem zzH(ss:List Sgn)(lane tick:Int)(z:Zon):(zqJ ss lane tick z).length<=z.parts.length:=by
 unfold zqJ;split
 ·simp
 ·rw[qr];exact List.length_filter_le _ _
theorem zym(ss:List Sgn)(lane tick:Int)(ps:List Prt){q:Nat}(hq:q<ss.length)(p:Prt):zcK ss lane tick ⟨ps,(q:Int)+1⟩ p=(decide (p.lane=lane) && !zfA ss[q] lane tick):=by
 have e:((q:Int)+1-1).toNat=q:=by omega
 simp only[zcK,e];simp[hq]
theorem zye{m:zD}{zs:List Zon}{ss:List Sgn}(hz:Zd m zs ss)(lane tick:Int)(ps:List Prt)(q:Nat)(hq:q<ss.length)(hpf:ps.length<=6)(k:Nat):∀(r:List Prt) (i:Nat) (out:List Int),ps.drop i=r->i<=ps.length->out.length+r.length<=1000 ->
  Y L Cs zej (some [7,25,24,13,14,15,23,3,9,1,2]) 4 [(7,.w (.c (sl 2 1 (zu out)))),(25,.w (W i)),(24,.w (W ps.length)),(13,.w (.c (.jb (zk8 zs)))),(14,.w (W zs.length)),(15,.w (W k)),(23,.w (.c (.jb (zkl ps)))),(3,.w (Pt 0)),(9,.w (Pt 3)),(1,.w (W lane)),(2,.w (W tick))] [bx 5 (zf m),gb 1,some (own 1 (zu out)),bxv 1 2 (zdP ⟨ps,(q:Int)+1⟩)] =
    some (.exit 2,[(26,.w (Bo false)),(7,.w (.c (sl 2 1 (zu (out++(r.filter (zcK ss lane tick ⟨ps,(q:Int)+1⟩)).map Prt.lo))))),(25,.w (W ps.length)),(24,.w (W ps.length)),(13,.w (.c (.jb (zk8 zs)))),(14,.w (W zs.length)),(15,.w (W k)),(23,.w (.c (.jb (zkl ps)))),(3,.w (Pt 0)),(9,.w (Pt 3)),(1,.w (W lane)),(2,.w (W tick))],[bx 5 (zf m),gb 1,some (own 1 (zu (out++(r.filter (zcK ss lane tick ⟨ps,(q:Int)+1⟩)).map Prt.lo))),bxv 1 2 (zdP ⟨ps,(q:Int)+1⟩)]):=by
 have hgr:=zAP ss[q] lane tick (hz.ph _ (je hq));have hwS:IntKind.i64.wrap (q:Int)=(q:Int):=zTd _ (by omega) (by have:=hz.Cc;omega);have hpr:=zym ss lane tick ps hq;intro r;induction r with
 |nil =>
  intro i out hd hi ho;obtain rfl:=zUb hd hi;rw[zj zej.eq_1];simp
 |cons p r ih =>
  intro i out hd hi ho;obtain⟨hil,hp,hd'⟩:=zL hd;have hw:=zB (i:=i) (by omega);simp only[jk]at ho;by_cases c:p.lane=lane
  ·by_cases g:zfA ss[q] lane tick=true
   ·have hn:zcK ss lane tick ⟨ps,(q:Int)+1⟩ p=false:=by rw[hpr,g];simp
    rw[u6 (by simp[hn]),<-ih (i+1) out hd' hil (by omega),zj zej.eq_1];clear ih;rw[g]at hgr;simp only[zeq]at hgr;simp[hil,hp,hw,c,hgr,hwS,hq,zeB,zdP,zeq,zf,hz.s,zg,zH]
   ·have g:zfA ss[q] lane tick=false:=by simpa using g
    have hn:zcK ss lane tick ⟨ps,(q:Int)+1⟩ p=true:=by rw[hpr,g];simp[c]
    have jX:(out.length+1)*8<=140737488355328:=by omega
    rw[List.filter_cons_of_pos hn,kN,show out++p.lo::(r.filter (zcK ss lane tick ⟨ps,(q:Int)+1⟩)).map Prt.lo=(out++[p.lo])++(r.filter (zcK ss lane tick ⟨ps,(q:Int)+1⟩)).map Prt.lo by simp,<-ih (i+1) (out++[p.lo]) hd' hil (by simp;omega),zj zej.eq_1];clear ih;rw[g]at hgr;simp only[zeq]at hgr;simp[hil,hp,hw,c,hgr,hwS,hq,jX,zeB,zdP,zeq,zf,hz.s,zg,zH]
  ·have hn:zcK ss lane tick ⟨ps,(q:Int)+1⟩ p=false:=by rw[hpr];simp[c]
   have c':(p.lane==lane)=false:=by simp[c]
   rw[u6 (by simp[hn]),<-ih (i+1) out hd' hil (by omega),zj zej.eq_1];clear ih;simp[hil,hp,hw,c,c',zeB,zdP,zf,zg,zH]
theorem zyd{m:zD}{zs:List Zon}{ss:List Sgn}(hz:Zd m zs ss)(lane tick:Int):∀(r:List Zon) (i:Nat) (out:List Int),zs.drop i=r->i<=zs.length->out.length<=6*i ->
  Y L Cs zgK (some [15,14,13,2,1,3,7]) 3 [(15,.w (W i)),(14,.w (W zs.length)),(13,.w (.c (.jb (zk8 zs)))),(2,.w (W tick)),(1,.w (W lane)),(3,.w (Pt 0)),(7,.w (.c (sl 2 1 (zu out))))] [bx 5 (zf m),gb 1,some (own 1 (zu out))] =
    some (.exit 0,[(16,.w (Bo false)),(15,.w (W zs.length)),(14,.w (W zs.length)),(13,.w (.c (.jb (zk8 zs)))),(2,.w (W tick)),(1,.w (W lane)),(3,.w (Pt 0)),(7,.w (.c (sl 2 1 (zu (out++zpN r ss lane tick)))))],[bx 5 (zf m),gb 1,some (own 1 (zu (out++zpN r ss lane tick)))]):=by
 have hf:=hz.few;intro r;induction r with
 |nil =>
  intro i out hd hi ho;obtain rfl:=zUb hd hi;rw[zj zgK.eq_1];simp[zpN]
 |cons z r ih =>
  intro i out hd hi ho;obtain⟨hil,hz',hd'⟩:=zL hd;have hw:=zB (i:=i) (by omega);have hzm:z∈zs:=hz' ▸ je hil;have hpf:=hz.BA z hzm;have hsg:=hz.sig z hzm;have hrl:=zzH ss lane tick z;have e:zpN (z::r) ss lane tick=zqJ ss lane tick z++zpN r ss lane tick:=by simp[zpN]
  rw[e,<-jA,<-ih (i+1) (out++zqJ ss lane tick z) hd' hil (by simp;omega),zj zgK.eq_1];clear ih;obtain⟨ps,sg⟩:=z;by_cases c:sg=0
  ·subst c;simp[hil,hz',hw,zdP,zqJ,zf,zg,zH]
  ·obtain⟨q,rfl⟩:∃q:Nat,sg=(q:Int)+1:=⟨(sg-1).toNat,by dsimp at hsg;omega⟩;have hq:q<ss.length:=by dsimp at hsg;omega
   have h1:=zye hz lane tick ps q hq hpf i ps 0 out rfl (jt _) (by dsimp at hpf;omega);have c':(((q:Int)+1)==0)=false:=by simp;omega
   have er:zqJ ss lane tick ⟨ps,(q:Int)+1⟩=(ps.filter (zcK ss lane tick ⟨ps,(q:Int)+1⟩)).map Prt.lo:=by
    unfold zqJ;rw[if_neg c]
   rw[er];simp only[zdP,zf,jg,sl,own,zfq]at h1;simp[hil,hz',hw,c',h1,zdP,zf,zg,zH]
theorem zza(n:Nat)(h:n<=12):∃b,R L Cs zpS [.c (.int .u64 n)] []=some (.w (W b),[]):=by
 match n,h with
 |0,_=>exact⟨0,zah.2 ⟨400,by kernel_rfl⟩⟩
 |1,_=>exact⟨1,zah.2 ⟨400,by kernel_rfl⟩⟩
 |2,_=>exact⟨2,zah.2 ⟨400,by kernel_rfl⟩⟩
 |3,_=>exact⟨2,zah.2 ⟨400,by kernel_rfl⟩⟩
 |4,_=>exact⟨3,zah.2 ⟨400,by kernel_rfl⟩⟩
 |5,_=>exact⟨3,zah.2 ⟨400,by kernel_rfl⟩⟩
 |6,_=>exact⟨3,zah.2 ⟨400,by kernel_rfl⟩⟩
 |7,_=>exact⟨3,zah.2 ⟨400,by kernel_rfl⟩⟩
 |8,_=>exact⟨4,zah.2 ⟨400,by kernel_rfl⟩⟩
 |9,_=>exact⟨4,zah.2 ⟨400,by kernel_rfl⟩⟩
 |10,_=>exact⟨4,zah.2 ⟨400,by kernel_rfl⟩⟩
 |11,_=>exact⟨4,zah.2 ⟨400,by kernel_rfl⟩⟩
 |12,_=>exact⟨4,zah.2 ⟨400,by kernel_rfl⟩⟩
theorem zA4(a b:Int):R L Cs zoW [W a,W b] []=some (.w (Bo (decide (a<b))),[]):=by
 have h1:=zjw a;rw[zUa zo8 rfl];simp[zg8,h1]
abbrev Asc(l:List Int):Prop:=l.Pairwise (· < ·)
theorem zxK{l:List Int}(h:Asc l){i:Nat}(hi:i+1<l.length):l[i]<l[i+1]:=qu.1 h i (i+1) (by omega) hi (by omega)
abbrev ob(l:List Int):Option Blk:=some { box:=false,esz:=1,rows:=zu l,gen:=l.length,fz:=false,ver:=l.length }
abbrev os1(l:List Int):WV:=.c (.slice 0 l.length 1 0 l.length none)
theorem zwS(l:List Int)(h:Asc l)(hl:l.length<=1000):∀(m i:Nat),i+m=l.length->1<=i ->
  Y L Cs zaf (some [2,1,6,0]) 1 [(2,.w (W l.length)),(1,.w (W 0)),(6,.w (W i)),(0,.w (os1 l))] [ob l] =
    some (.exit 0,[(12,.w (Bo false)),(1,.w (W 0)),(2,.w (W l.length)),(6,.w (W l.length)),(0,.w (os1 l))],[ob l]):=by
 intro m;induction m with
 |zero =>
  intro i hi h1;have:i=l.length:=by omega
  subst this;rw[zj zaf.eq_1];simp
 |succ m ih =>
  intro i hi h1;obtain⟨j,rfl⟩:∃j,i=j+1:=⟨i-1,by omega⟩;have hg:=zxK h (i:=j) (by omega);have h2:j+1<l.length:=by omega
  have h3:j<l.length:=by omega
  have hw:=zB (i:=j+1) (by omega);have hc:=zA4 l[j+1] l[j];have hd:decide (l[j+1]<l[j])=false:=by simp;omega
  rw[hd]at hc;have hw1:IntKind.i64.wrap (((j+1:Nat):Int)-1)=(j:Int):=by rw[zTd _ (by omega) (by omega)];omega
  have hin:Y L Cs zbE (some [7,1,2,6,0]) 1 [(7,.w (W ((j+1:Nat):Int))),(1,.w (W 0)),(2,.w (W l.length)),(6,.w (W ((j+1:Nat):Int))),(0,.w (os1 l))] [ob l] =
   some (.exit 2,[(30,.w (Bo false)),(7,.w (W ((j+1:Nat):Int))),(1,.w (W 0)),(2,.w (W l.length)),(6,.w (W ((j+1:Nat):Int))),(0,.w (os1 l))],[ob l]):=by
   rw[zj zbE.eq_1];have e1:((j+1:Nat):Int).toNat=j+1:=by omega
   have e2:(0:Int)<((j+1:Nat):Int):=by omega
   simp[h2,h3,hw1,hc,e1,e2,-Int.natCast_add]
  rw[<-ih (j+1+1) (by omega) (by omega),zj zaf.eq_1];clear ih;simp[h2,hin,hw,-Int.natCast_add]
theorem zAZ(l:List Int)(h:Asc l)(hl:l.length<=12):R L Cs zmO [os1 l] [ob l]=some (.t [],[ob l]):=by
 have hI:R L Cs zfL [os1 l,W 0,W l.length] [ob l]=some (.t [],[ob l]):=by
  rw[zUa zfR rfl];by_cases c:l.length=0
  ·have hY:Y L Cs zaf (some [2,1,6,0]) 1 [(2,.w (W l.length)),(1,.w (W 0)),(6,.w (W 1)),(0,.w (os1 l))] [ob l]=some (.exit 0,[(12,.w (Bo false)),(1,.w (W 0)),(2,.w (W l.length)),(6,.w (W 1)),(0,.w (os1 l))],[ob l]):=by
    rw[zj zaf.eq_1];simp[c]
   have w1:IntKind.i64.wrap 1=1:=rfl;simp[zbh,hY,w1]
  ·have h1:=zwS l h (by omega) (l.length-1) 1 (by omega) (by omega);have w1:IntKind.i64.wrap 1=1:=rfl;simp only[kd]at h1;simp[zbh,h1,w1]
 obtain⟨b,hb⟩:=zza l.length hl;have hu:IntKind.u64.wrap (l.length:Int)=(l.length:Int):=by simp[IntKind.wrap,IntKind.signed,IntKind.bits];omega
 have hP:R L Cs zhm [os1 l,W 0,W l.length,W b] [ob l]=some (.t [],[ob l]):=by
  rw[zUa zhw rfl];have hY:Y L Cs zcm (some [3,8,9,0,1,2]) 1 [(3,.w (W b)),(8,.w (Bo true)),(9,.w (Bo true)),(0,.w (os1 l)),(1,.w (W 0)),(2,.w (W l.length))] [ob l]=some (.ret,[],[ob l]):=by
   rw[zj zcm.eq_1];have w0:IntKind.i64.wrap (l.length:Int)=(l.length:Int):=zTd _ (by omega) (by omega);have c1:(l.length:Int)<=12:=by omega
   simp[w0,c1,hl,hI]
  simp[zcS,hY]
 rw[zUa zmY rfl];simp[zfD,hu,hb,hP]
theorem zrq(l:List Int)(h:Asc l)(hl:l.length<=1000):∀(m i:Nat),i+m=l.length->1<=i ->
  Y L Cs zcu (some [3,0]) 2 [(3,.w (W i)),(0,.w (os1 l))] [ob l,gb 1] =
    some (.exit 0,[(13,.w (Bo false)),(3,.w (W l.length)),(0,.w (os1 l))],[ob l,gb 1]):=by
 intro m;induction m with
 |zero =>
  intro i hi h1;have:i=l.length:=by omega
  subst this;rw[zj zcu.eq_1];simp
 |succ m ih =>
  intro i hi h1;obtain⟨j,rfl⟩:∃j,i=j+1:=⟨i-1,by omega⟩;have hg:=zxK h (i:=j) (by omega);have h2:j+1<l.length:=by omega
  have h3:j<l.length:=by omega
  have hw:=zB (i:=j+1) (by omega);have hw1:IntKind.i64.wrap (((j+1:Nat):Int)-1)=(j:Int):=by rw[zTd _ (by omega) (by omega)];omega
  have hd:(l[j+1]==l[j])=false:=by simp;omega
  have e1:((j+1:Nat):Int).toNat=j+1:=by omega
  rw[<-ih (j+1+1) (by omega) (by omega),zj zcu.eq_1];clear ih;simp[h2,h3,hw,hw1,hd,e1,-Int.natCast_add]
theorem zvW(l:List Int)(h:Asc l)(hl:l.length<=12):R L Cs zkD [os1 l] [ob l]=some (.w (os1 l),[ob l]):=by
 rw[zUa zk1 rfl];by_cases c:l.length<2
 ·have c':(l.length:Int)<2:=by omega
  simp[zdl,c,c',zg]
 ·have c':¬(l.length:Int)<2:=by omega
  have h1:=zrq l h (by omega) (l.length-1) 1 (by omega) (by omega);simp only[kd]at h1;simp[zdl,c,c',h1,zg]
theorem zCQ{m:zD}{zs:List Zon}{ss:List Sgn}(hz:Zd m zs ss)(lane tick:Int)(ha:Asc (zpN zs ss lane tick))(hl:(zpN zs ss lane tick).length<=12):R L Cs zpy [.a (zf m),W lane,W tick] []=some (.w (.c (.jb (zu (zpN zs ss lane tick)))),[]):=by
 have h1:=zyd hz lane tick zs 0 [] rfl (jt _) (jt _);have h2:=zAZ _ ha hl;have h3:=zvW _ ha hl;generalize zpN zs ss lane tick=l at *;have hzz:=hz.z;simp only[jf,jg,zay,sl,own,jp,zfq,zf]at h1;rw[zUa zv0 rfl];simp only[hzz]at h1;simp[zme,zf,h1,h2,h3,hzz,zg]
abbrev zto:Prt:=⟨0,0,0,0⟩
def zjF(z:Zon)(lane:Int):Option Prt:=z.parts.find? fun p=>decide (p.lane=lane)
theorem zyl(z:Zon)(lane:Int)(hp:z.parts.length<=1000):∀(r:List Prt) (i:Nat),z.parts.drop i=r->i<=z.parts.length->∃ex E M,
  Y L Cs zcc (some [1,2,6,4]) 2 [(1,.w (W lane)),(2,.w (Pt 0)),(6,.w (W i)),(4,.w (Pt 1))] [bx 2 (zdP z),bx 4 (zeB zto)]=some (ex,E,M) /\
    ((∃p,r.find? (fun p=>decide (p.lane=lane))=some p/\ex=.ret/\E=[(4,.w (Pt 1)),(5,.w (Bo true))]/\M=[bx 2 (zdP z),bxv 1 4 (zeB p)]) \/
     (r.find? (fun p=>decide (p.lane=lane))=none/\ex=.exit 0/\E=[(11,.w (Bo false)),(1,.w (W lane)),(2,.w (Pt 0)),(6,.w (W z.parts.length)),(4,.w (Pt 1))]/\M=[bx 2 (zdP z),bx 4 (zeB zto)])):=by
 intro r;induction r with
 |nil =>
  intro i hd hi;obtain rfl:=zUb hd hi;refine⟨_,_,_,?_,.inr ⟨rfl,rfl,rfl,rfl⟩⟩;rw[zj zcc.eq_1];simp[zdP]
 |cons p r ih =>
  intro i hd hi;obtain⟨hil,hq,hd'⟩:=zL hd;have hw:=zB (i:=i) (by omega);by_cases c:p.lane=lane
  ·refine⟨_,_,_,?_,.inl ⟨p,by simp[c],rfl,rfl,rfl⟩⟩;rw[zj zcc.eq_1];simp[hil,hq,c,zdP,zeB]
  ·have c':(p.lane==lane)=false:=by simp[c]
   obtain⟨ex,E,M,h1,h2⟩:=ih (i+1) hd' hil;refine⟨ex,E,M,?_,by rw[vm (by simp[c])];exact h2⟩;rw[<-h1,zj zcc.eq_1];clear ih h1 h2;simp[hil,hq,hw,c,c',zdP,zeB]
theorem zxM(z:Zon)(lane:Int)(hp:z.parts.length<=1000):R L Cs zlp [.a (zdP z),W lane] []=some (.t [.a (zeB ((zjF z lane).getD zto)),Bo (zjF z lane).isSome],[]):=by
 obtain⟨ex,E,M,h1,h2⟩:=zyl z lane hp z.parts 0 rfl (jt _);unfold zjF;rw[zUa zlF rfl];simp only[jg,zdP]at h1;rcases h2 with⟨p,e,rfl,rfl,rfl⟩ |⟨e,rfl,rfl,rfl⟩
 ·rw[e];simp only[zeB]at h1;simp[zdJ,h1,zdP,zeB]
 ·rw[e];simp only[zeB]at h1;simp[zdJ,h1,zdP,zeB]
theorem zti(out:List Int)(p:Prt)(h:∀x∈out,x<p.lo)(hl:out.length<=1000)(lane tick:Int)(i zb pb id:Nat)(M:Mem)(hM:M[id]?=some (ob out))(hP:M[pb]?=some (bxv 1 4 (zeB p))):∀(c a:Nat),a+c=out.length ->
  Y L Cs zcx (some [12,7,2,1,3,8,10]) M.length [(12,.w (W a)),(7,.w (.c (.slice id out.length 1 0 out.length none))),(2,.w (W tick)),(1,.w (W lane)),(3,.w (Pt 0)),(8,.w (W i)),(10,.w (Pt pb))] M =
    some (.exit 2,[(62,.w (Bo false)),(12,.w (W out.length)),(7,.w (.c (.slice id out.length 1 0 out.length none))),(2,.w (W tick)),(1,.w (W lane)),(3,.w (Pt 0)),(8,.w (W i)),(10,.w (Pt pb))],M):=by
 intro c;induction c with
 |zero =>
  intro a ha;have:a=out.length:=by omega
  subst this;rw[zj zcx.eq_1];simp
 |succ c ih =>
  intro a ha;have h1:a<out.length:=by omega
  have hw:=zB (i:=a) (by omega);have hx:=h out[a] (je h1);have hd:∀E:Env,j6 M.length E M=M:=fun E=>by simp[j6]
  rw[<-ih (a+1) (by omega),zj zcx.eq_1];clear ih;simp only[zeB]at hP;simp[h1,hw,hx,hM,hP,hd,-j6]
theorem zw1{M:Mem}{E:Env}{id g es off len:Nat}{c:Option Nat}(hE:(7,AV.w (.c (.slice id g es off len c)))∈E)(h:M.length<=3\/3<=id):j6 3 E M=M:=by
 unfold j6;split
 ·rfl
 ·rename_i hl;have hid:3<=id:=h.resolve_left hl;rw[if_neg];simp only[jl,jz,not_and];intro uW;have:=uW _ hE;simp[AV.below,WV.below,WV.cells,Eng.below,yN]at this;omega
def zff(ss:List Sgn)(lane tick:Int)(z:Zon):List Int:=if z.qc=0 then [] else match zjF z lane with
 |none=>[]
 |some p=>if zfA (ss.getD (z.qc-1).toNat ztn) lane tick=true then [] else [p.lo]
inductive zvZ (m:zD):List Int->Mem->Nat->Prop
 |a:zvZ m [] [bx 5 (zf m),gb 1,ob []] 2
 |b {out:List Int} {T:Mem} {k:Nat} (ho:∀N:Mem,(T++N)[k]?=some (ob out)) (hl:2<=T.length) (hi:2<=k):zvZ m out (bx 5 (zf m)::T) (k+1)
theorem zxF{M:Mem}{id g len:Nat}(hi:3<=id)(v v2 v3 v4:AV):j6 3 [(8,v),(3,v2),(1,v3),(2,v4),(7,.w (.c (.slice id g 1 0 len none)))] M=M:=zw1 (id:=id) (g:=g) (es:=1) (off:=0) (len:=len) (c:=none) (by simp) (.inr hi)
theorem zwI{m:zD}{zs:List Zon}{ss:List Sgn}(hz:Zd m zs ss)(lane tick:Int)(z:Zon)(i:Nat)(hil:i<zs.length)(hz':zs[i]=z)(hw:IntKind.i64.wrap ((i:Int)+1)=((i+1:Nat):Int))(hn:zff ss lane tick z=[]){out:List Int}{M:Mem}{id:Nat}(hM:zvZ m out M id) :
  ∃M',zvZ m out M' id/\Y L Cs zUc (some [8,3,1,2,7]) 3 [(8,.w (W i)),(3,.w (Pt 0)),(1,.w (W lane)),(2,.w (W tick)),(7,.w (.c (.slice id out.length 1 0 out.length none)))] M =
   Y L Cs zUc (some [8,3,1,2,7]) 3 [(8,.w (W ((i+1:Nat):Int))),(3,.w (Pt 0)),(1,.w (W lane)),(2,.w (W tick)),(7,.w (.c (.slice id out.length 1 0 out.length none)))] M':=by
 have hzm:z∈zs:=hz' ▸ je hil;have hpf:=hz.BA z hzm;have hsg:=hz.sig z hzm;have hpt:=zxM z lane (by omega);have hsf:=hz.Cc;obtain⟨ps,sg⟩:=z;have BJ:zjF ⟨ps,sg⟩ lane=none\/∃p,zjF ⟨ps,sg⟩ lane=some p/\(sg=0\/∃(q:Nat) (hq:q<ss.length),sg=(q:Int)+1/\zfA ss[q] lane tick=true):=by
  cases hp:zjF ⟨ps,sg⟩ lane with
  |none=>exact .inl rfl
  |some p =>
   refine .inr ⟨p,rfl,?_⟩;by_cases c:sg=0
   ·exact .inl c
   ·right;obtain⟨q,rfl⟩:∃q:Nat,sg=(q:Int)+1:=⟨(sg-1).toNat,by dsimp at hsg;omega⟩;have hq:q<ss.length:=by dsimp at hsg;omega
    refine⟨q,hq,rfl,?_⟩;unfold zff at hn;rw[if_neg c,hp]at hn;dsimp only at hn;have e:((q:Int)+1-1).toNat=q:=by omega
    rw[e]at hn;simp only[jm,jq hq,uc]at hn;cases hg:zfA ss[q] lane tick with
    |true=>rfl
    |false=>rw[hg]at hn;simp at hn
 cases hM with
 |a =>
  refine⟨_,.a,?_⟩;rw[zj zUc.eq_1];rcases BJ with hp |⟨p,hp,c |⟨q,hq,rfl,hg⟩⟩
  ·rw[hp]at hpt;simp only[zdP]at hpt;simp[hil,hz',hw,hpt,zdP,zeB,zf,hz.z,zg,zH]
  ·subst c;rw[hp]at hpt;simp only[zdP,zeB]at hpt;simp[hil,hz',hw,hpt,zdP,zeB,zf,hz.z,zg,zH]
  ·rw[hp]at hpt;have hgr:=zrO ss[q] lane tick (hz.ph _ (je hq));rw[hg]at hgr;simp only[zeq]at hgr;simp only[zdP,zeB]at hpt;have hwS:IntKind.i64.wrap (q:Int)=(q:Int):=zTd _ (by omega) (by omega);have c':(((q:Int)+1)==0)=false:=by simp;omega
   simp[hil,hz',hw,hpt,hgr,hwS,hq,c',zdP,zeB,zeq,zf,hz.z,hz.s,zg,zH]
 |b hMo hl hi3 =>
  rename_i T k;have hdr:∀(v v2 v3 v4:AV) (x:Option Blk) (N:Mem),j6 3 [(8,v),(3,v2),(1,v3),(2,v4),(7,.w (.c (.slice (k+1) out.length 1 0 out.length none)))] (x::(T++N))=x::(T++N):=fun v v2 v3 v4 x N=>zxF (by omega) v v2 v3 v4
  refine⟨bx 5 (zf m)::(T++[bxv 1 2 (zdP ⟨ps,sg⟩),bxv 1 4 (zeB ((zjF ⟨ps,sg⟩ lane).getD zto))]),.b (fun N=>by rw[jA];exact hMo _) (by simp) hi3,?_⟩;rw[zj zUc.eq_1];rcases BJ with hp |⟨p,hp,c |⟨q,hq,rfl,hg⟩⟩
  ·rw[hp]at hpt ⊢;simp only[zdP]at hpt;simp[hil,hz',hw,hpt,zf,zdP,zeB,hz.z,zg,hdr,-j6]
  ·subst c;rw[hp]at hpt ⊢;simp only[zdP,zeB]at hpt;simp[hil,hz',hw,hpt,zf,zdP,zeB,hz.z,zg,hdr,-j6]
  ·rw[hp]at hpt ⊢;have hgr:=zrO ss[q] lane tick (hz.ph _ (je hq));rw[hg]at hgr;simp only[zeq]at hgr;simp only[zdP,zeB]at hpt;have hwS:IntKind.i64.wrap (q:Int)=(q:Int):=zTd _ (by omega) (by omega);have c':(((q:Int)+1)==0)=false:=by simp;omega
   simp[hil,hz',hw,hpt,hgr,hwS,hq,c',zf,zdP,zeB,zeq,hz.z,hz.s,zg,hdr,-j6]
theorem zyE{m:zD}{zs:List Zon}{ss:List Sgn}(hz:Zd m zs ss)(lane tick:Int)(ps:List Prt)(q:Nat)(hq:q<ss.length)(p:Prt)(i:Nat)(hil:i<zs.length)(hz':zs[i]=⟨ps,(q:Int)+1⟩)(hw:IntKind.i64.wrap ((i:Int)+1)=((i+1:Nat):Int))(hp:zjF ⟨ps,(q:Int)+1⟩ lane=some p)(hg:zfA ss[q] lane tick=false){out:List Int}{M:Mem}{id:Nat}(ho:out.length<=100)(hasc:∀x∈out,x<p.lo)(hM:zvZ m out M id) :
  ∃M' id',zvZ m (out++[p.lo]) M' id'/\Y L Cs zUc (some [8,3,1,2,7]) 3 [(8,.w (W i)),(3,.w (Pt 0)),(1,.w (W lane)),(2,.w (W tick)),(7,.w (.c (.slice id out.length 1 0 out.length none)))] M =
   Y L Cs zUc (some [8,3,1,2,7]) 3 [(8,.w (W ((i+1:Nat):Int))),(3,.w (Pt 0)),(1,.w (W lane)),(2,.w (W tick)),(7,.w (.c (.slice id' (out++[p.lo]).length 1 0 (out++[p.lo]).length none)))] M':=by
 have hzm:(⟨ps,(q:Int)+1⟩:Zon)∈zs:=hz' ▸ je hil;have hpf:=hz.BA _ hzm;have hpt:=zxM ⟨ps,(q:Int)+1⟩ lane (by omega);have hsf:=hz.Cc;have hgr:=zrO ss[q] lane tick (hz.ph _ (je hq));rw[hg]at hgr;rw[hp]at hpt;simp only[zeq]at hgr;simp only[zdP,zeB]at hpt;have hwS:IntKind.i64.wrap (q:Int)=(q:Int):=zTd _ (by omega) (by omega);have c':(((q:Int)+1)==0)=false:=by simp;omega
 have hrm:(out.length+1)*8<=140737488355328:=by omega
 have hrm2:out.length*8<=140737488355328:=by omega
 cases hM with
 |a =>
  have hat:=zti [] p (by simp) (by simp) lane tick i 3 4 2 [bx 5 (zf m),gb 1,ob [],bxv 1 2 (zdP ⟨ps,(q:Int)+1⟩),bxv 1 4 (zeB p)] rfl rfl 0 0 rfl;simp only[zdP,zeB,zf,hz.z,hz.s,jk,jp,jg,jB,Nat.reduceAdd]at hat;refine⟨bx 5 (zf m)::[gb 1,ob [],bxv 1 2 (zdP ⟨ps,(q:Int)+1⟩),bxv 1 4 (zeB p),ob [p.lo],ob [p.lo]],4+1,.b (fun N=>rfl) (by simp) (by omega),?_⟩;rw[zj zUc.eq_1];simp[hil,hz',hw,hpt,hgr,hwS,hq,c',hat,zdP,zeB,zeq,zf,hz.z,hz.s,zg,zH];rfl
 |b hMo hl hi3 =>
  rename_i T k;have hdr:∀(v v2 v3 v4:AV) (x:Option Blk) (g len k:Nat) (N:Mem),2<=k->j6 3 [(8,v),(3,v2),(1,v3),(2,v4),(7,.w (.c (.slice (k+1) g 1 0 len none)))] (x::(T++N))=x::(T++N):=fun v v2 v3 v4 x g len k N h=>zxF (by omega) v v2 v3 v4
  have hMo':=hMo [];rw[kT]at hMo';have hat:=zti out p hasc (by omega) lane tick i (T.length+1) (T.length+1+1) (k+1) (bx 5 (zf m)::(T++[bxv 1 2 (zdP ⟨ps,(q:Int)+1⟩),bxv 1 4 (zeB p)])) (by simpa using hMo _) (by simp) out.length 0 (by omega);simp only[zdP,zeB,zf,hz.z,hz.s,jk,ju,jp,jg,jB,Nat.reduceAdd,kJ]at hat;refine⟨bx 5 (zf m)::(T++[bxv 1 2 (zdP ⟨ps,(q:Int)+1⟩),bxv 1 4 (zeB p),ob (out++[p.lo]),ob [p.lo]]),(T.length+2)+1,.b (fun N=>by simp) (by simp) (by omega),?_⟩;have h2:2<=T.length+2:=by omega
  have hdl:∀(E:Env) (A:Mem) (n:Nat),A.length<=n->j6 n E A=A:=fun E A n h=>by unfold j6;rw[if_pos h]
  rw[zj zUc.eq_1];cases out with
  |nil =>
   rw[show T.length+3=T.length+2+1 from rfl]at hat;simp only[jp,jg]at hat;simp[hil,hz',hw,hpt,hgr,hwS,hq,c',hat,hMo,hMo',zdP,zeB,zeq,zf,hz.z,hz.s,zg,hdr,hdl,-j6];rfl
  |cons y t =>
   have htk:List.take (t.length+1) (zu t++[[I p.lo]])=zu t++[[I p.lo]]:=jG (by simp);rw[show T.length+3=T.length+2+1 from rfl]at hat;simp only[jk]at hrm hrm2 hat;have h0:(0:Int)<=(t.length:Int)+1:=by omega
   simp[hil,hz',hw,hpt,hgr,hwS,hq,c',hat,hMo,hMo',hrm,hrm2,htk,h0,zdP,zeB,zeq,zf,hz.z,hz.s,zg,hdr,hdl,-j6];have e1:zu (y::(t++[p.lo]))=[I y]::(zu t++[[I p.lo]]):=by simp[zu]
   have e2:(y::(t++[p.lo])).length=t.length+1+1:=by simp
   simp only[ob,e1,e2];rfl
theorem zwJ{m:zD}{zs:List Zon}{ss:List Sgn}(hz:Zd m zs ss)(lane tick:Int):∀(r:List Zon) (i:Nat) (out:List Int) (M:Mem) (id:Nat),zs.drop i=r->i<=zs.length->out.length<=i->Asc (out++r.flatMap (zff ss lane tick))->zvZ m out M id ->
  ∃M' id',zvZ m (out++r.flatMap (zff ss lane tick)) M' id'/\Y L Cs zUc (some [8,3,1,2,7]) 3 [(8,.w (W i)),(3,.w (Pt 0)),(1,.w (W lane)),(2,.w (W tick)),(7,.w (.c (.slice id out.length 1 0 out.length none)))] M =
   some (.exit 0,[(17,.w (Bo false)),(8,.w (W zs.length)),(3,.w (Pt 0)),(1,.w (W lane)),(2,.w (W tick)),(7,.w (.c (.slice id' (out++r.flatMap (zff ss lane tick)).length 1 0 (out++r.flatMap (zff ss lane tick)).length none)))],M'):=by
 have hf:=hz.few;intro r;induction r with
 |nil =>
  intro i out M id hd hi ho ha hM;obtain rfl:=zUb hd hi;refine⟨M,id,by simpa using hM,?_⟩;rw[zj zUc.eq_1];cases hM with
  |a=>simp[zf,hz.z]
  |b h1 h2 h3=>simp[zf,hz.z]
 |cons z r ih =>
  intro i out M id hd hi ho ha hM;obtain⟨hil,hz',hd'⟩:=zL hd;have hw:=zB (i:=i) (by omega);have hsg:=hz.sig z (hz' ▸ je hil);rw[jO,<-jA]at ha ⊢;by_cases hn:zff ss lane tick z=[]
  ·obtain⟨M1,hM1,e1⟩:=zwI hz lane tick z i hil hz' hw hn hM;rw[hn,kT]at ha ⊢;obtain⟨M',id',h1,h2⟩:=ih (i+1) out M1 id hd' hil (by omega) ha hM1;exact⟨M',id',h1,by rw[e1];exact h2⟩
  ·obtain⟨ps,sg⟩:=z;have hz0:sg≠0:=fun c=>hn (by rw[zff,if_pos c])
   obtain⟨q,rfl⟩:∃q:Nat,sg=(q:Int)+1:=⟨(sg-1).toNat,by dsimp at hsg;omega⟩;have hq:q<ss.length:=by dsimp at hsg;omega
   have e:((q:Int)+1-1).toNat=q:=by omega
   have hd0:zff ss lane tick ⟨ps,(q:Int)+1⟩=match zjF ⟨ps,(q:Int)+1⟩ lane with
    |none=>[]
    |some p=>if zfA ss[q] lane tick=true then [] else [p.lo]:=by
    rw[zff,if_neg hz0];simp only[e,jm,jq hq,uc]
   cases hp:zjF ⟨ps,(q:Int)+1⟩ lane with
   |none=>rw[hd0,hp]at hn;exact absurd rfl hn
   |some p =>
    rw[hp]at hd0;dsimp only at hd0;cases hg:zfA ss[q] lane tick with
    |true=>rw[hd0,hg]at hn;exact absurd rfl hn
    |false =>
     rw[hg]at hd0;simp only[jF,if_false]at hd0;rw[hd0]at ha ⊢;have hasc:∀x∈out,x<p.lo:=fun x hx=>(jY.1 (jY.1 ha).1).2.2 x hx p.lo (by simp)
     obtain⟨M1,id1,hM1,e1⟩:=zyE hz lane tick ps q hq p i hil hz' hw hp hg (by omega) hasc hM;obtain⟨M',id',h1,h2⟩:=ih (i+1) (out++[p.lo]) M1 id1 hd' hil (by simp;omega) ha hM1;exact⟨M',id',h1,by rw[e1];exact h2⟩
theorem zAT{m:zD}{zs:List Zon}{ss:List Sgn}(hz:Zd m zs ss)(lane tick:Int)(ha:Asc (zs.flatMap (zff ss lane tick))):R L Cs zgC [.a (zf m),W lane,W tick] []=some (.w (.c (.jb (zu (zs.flatMap (zff ss lane tick))))),[]):=by
 obtain⟨M',id',h1,h2⟩:=zwJ hz lane tick zs 0 [] _ _ rfl (jt _) (jt _) ha .a;rw[jf]at h1 h2;generalize zs.flatMap (zff ss lane tick)=l at *;simp only[jg,jp,zf,ob,zay]at h2;rw[zUa zk6 rfl];cases h1 with
 |a =>
  simp only[jp,zf,ob,zay]at h2;simp[zdr,zf,h2,zg]
 |b g1 g2 g3 =>
  have g1':=g1 [];rw[kT]at g1';have htk:List.take l.length (zu l)=zu l:=jG (by simp);simp only[zf]at h2;simp[zdr,zf,h2,g1,g1',htk,zg]
theorem zyf(ss:List Sgn)(lane tick:Int)(z:Zon)(hn:(z.parts.map Prt.lane).Nodup):zqJ ss lane tick z=zff ss lane tick z:=by
 unfold zqJ zff zjF;split
 ·rfl
 ·have key:∀(l:List Prt),(l.map Prt.lane).Nodup->(l.filter (zcK ss lane tick z)).map Prt.lo=match l.find? (fun p=>decide (p.lane=lane))with
   |none=>[]
   |some p=>if zfA (ss.getD (z.qc-1).toNat ztn) lane tick=true then [] else [p.lo]:=by
   intro l;induction l with
   |nil=>intro _;rfl
   |cons p l ih =>
    intro hn;rw[kN,qp]at hn;by_cases c:p.lane=lane
    ·have hno:∀y∈l,zcK ss lane tick z y=false:=by
      intro y hy;have:y.lane≠lane:=fun e=>hn.1 (by rw[c,<-e];exact List.mem_map_of_mem hy)
      simp[zcK,this]
     have hf:l.filter (zcK ss lane tick z)=[]:=List.filter_eq_nil_iff.2 fun y hy=>by simp[hno y hy]
     rw[List.find?_cons_of_pos (by simp[c]),uH,hf];cases hg:zfA (ss.getD (z.qc-1).toNat ztn) lane tick with
     |true=>have:zcK ss lane tick z p=false:=by simp only[zcK,hg];simp
            rw[this];simp
     |false=>have:zcK ss lane tick z p=true:=by simp only[zcK,hg];simp[c]
             rw[this];simp
    ·have:zcK ss lane tick z p=false:=by simp[zcK,c]
     rw[vm (by simp[c]),u6 (by simp[this]),ih hn.2]
  exact key z.parts hn
theorem ztS{a b A B:Int}(h1:-A<=a)(h2:a<=A)(h3:-B<=b)(h4:b<=B):-(A*B)<=a*b/\a*b<=A*B:=by
 have e1:0<=(A-a)*(B+b):=vu (by omega) (by omega);have e2:0<=(A+a)*(B-b):=vu (by omega) (by omega);have e3:0<=(A-a)*(B-b):=vu (by omega) (by omega);have e4:0<=(A+a)*(B+b):=vu (by omega) (by omega);simp only[Int.sub_mul,Int.add_mul,Int.mul_sub,Int.mul_add]at e1 e2 e3 e4;omega
structure Vw(vx vy wx wy:Int):Prop where
 a1:-1000000<=vx/\vx<=1000000
 a2:-1000000<=vy/\vy<=1000000
 a3:-20000000<=wx/\wx<=20000000
 a4:-20000000<=wy/\wy<=20000000
theorem Vw.m{vx vy wx wy:Int}(h:Vw vx vy wx wy):(-20000000000000<=vx*wx/\vx*wx<=20000000000000)/\(-20000000000000<=vy*wy/\vy*wy<=20000000000000)/\(-20000000000000<=vx*wy/\vx*wy<=20000000000000)/\(-20000000000000<=vy*wx/\vy*wx<=20000000000000):=by
 obtain⟨⟨a1,a2⟩,⟨b1,b2⟩,⟨c1,c2⟩,⟨d1,d2⟩⟩:=h;have h1:=ztS (by omega:-1000000<=vx) a2 (by omega:-20000000<=wx) c2;have h2:=ztS (by omega:-1000000<=vy) b2 (by omega:-20000000<=wy) d2;have h3:=ztS (by omega:-1000000<=vx) a2 (by omega:-20000000<=wy) d2;have h4:=ztS (by omega:-1000000<=vy) b2 (by omega:-20000000<=wx) c2;omega
abbrev crv(x0 y0 x1 y1:Int):Cl:=.jb [[I x0,I y0],[I x1,I y1]]
structure Pc(x0 y0 x1 y1 len:Int):Prop where
 b:(-400000<=x0/\x0<=400000)/\(-400000<=y0/\y0<=400000)/\(-400000<=x1/\x1<=400000)/\(-400000<=y1/\y1<=400000)
 l:1000<=len/\len<=1000000
 chk:R L Cs zsk [.a [crv x0 y0 x1 y1]] []=some (.w (W 0),[])
 AP:R L Cs zkH [.a [crv x0 y0 x1 y1]] []=some (.w (W 0),[])
 root:R L Cs zud [W ((x1-x0)*(x1-x0)+(y1-y0)*(y1-y0))] []=some (.t [W len,Bo true],[])
 rroot:R L Cs zlq [W ((x1-x0)*(x1-x0)+(y1-y0)*(y1-y0))] []=some (.w (W len),[])
theorem pc0:Pc 0 0 60000 0 60000:=⟨by decide,by decide,zah.2 ⟨400,by kernel_rfl⟩,zah.2 ⟨400,by kernel_rfl⟩,zah.2 ⟨400,by kernel_rfl⟩,zah.2 ⟨400,by kernel_rfl⟩⟩
theorem pc1:Pc 0 0 50000 0 50000:=⟨by decide,by decide,zah.2 ⟨400,by kernel_rfl⟩,zah.2 ⟨400,by kernel_rfl⟩,zah.2 ⟨400,by kernel_rfl⟩,zah.2 ⟨400,by kernel_rfl⟩⟩
theorem pc2:Pc 30000 (-20000) 30000 20000 40000:=⟨by decide,by decide,zah.2 ⟨400,by kernel_rfl⟩,zah.2 ⟨400,by kernel_rfl⟩,zah.2 ⟨400,by kernel_rfl⟩,zah.2 ⟨400,by kernel_rfl⟩⟩
theorem pc3:Pc 0 0 30000 0 30000:=⟨by decide,by decide,zah.2 ⟨400,by kernel_rfl⟩,zah.2 ⟨400,by kernel_rfl⟩,zah.2 ⟨400,by kernel_rfl⟩,zah.2 ⟨400,by kernel_rfl⟩⟩
theorem pc4:Pc 30000 0 60000 0 30000:=⟨by decide,by decide,zah.2 ⟨400,by kernel_rfl⟩,zah.2 ⟨400,by kernel_rfl⟩,zah.2 ⟨400,by kernel_rfl⟩,zah.2 ⟨400,by kernel_rfl⟩⟩
theorem pc5:Pc 30000 0 54000 10000 26000:=⟨by decide,by decide,zah.2 ⟨400,by kernel_rfl⟩,zah.2 ⟨400,by kernel_rfl⟩,zah.2 ⟨400,by kernel_rfl⟩,zah.2 ⟨400,by kernel_rfl⟩⟩
theorem pc6:Pc 6000 (-10000) 30000 0 26000:=⟨by decide,by decide,zah.2 ⟨400,by kernel_rfl⟩,zah.2 ⟨400,by kernel_rfl⟩,zah.2 ⟨400,by kernel_rfl⟩,zah.2 ⟨400,by kernel_rfl⟩⟩
theorem pc7:Pc 0 0 20000 0 20000:=⟨by decide,by decide,zah.2 ⟨400,by kernel_rfl⟩,zah.2 ⟨400,by kernel_rfl⟩,zah.2 ⟨400,by kernel_rfl⟩,zah.2 ⟨400,by kernel_rfl⟩⟩
theorem pc8:Pc 20000 0 50000 0 30000:=⟨by decide,by decide,zah.2 ⟨400,by kernel_rfl⟩,zah.2 ⟨400,by kernel_rfl⟩,zah.2 ⟨400,by kernel_rfl⟩,zah.2 ⟨400,by kernel_rfl⟩⟩
theorem pc9:Pc 35000 (-8000) 35000 8000 16000:=⟨by decide,by decide,zah.2 ⟨400,by kernel_rfl⟩,zah.2 ⟨400,by kernel_rfl⟩,zah.2 ⟨400,by kernel_rfl⟩,zah.2 ⟨400,by kernel_rfl⟩⟩
theorem pc10:Pc 20000 0 44000 10000 26000:=⟨by decide,by decide,zah.2 ⟨400,by kernel_rfl⟩,zah.2 ⟨400,by kernel_rfl⟩,zah.2 ⟨400,by kernel_rfl⟩,zah.2 ⟨400,by kernel_rfl⟩⟩
theorem pc11:Pc 36000 (-12000) 36000 18000 30000:=⟨by decide,by decide,zah.2 ⟨400,by kernel_rfl⟩,zah.2 ⟨400,by kernel_rfl⟩,zah.2 ⟨400,by kernel_rfl⟩,zah.2 ⟨400,by kernel_rfl⟩⟩
structure zmp(m:zD):Prop where
 one:∀l∈m.jc,∃x0 y0 x1 y1,l.pts=[(x0,y0),(x1,y1)]/\Pc x0 y0 x1 y1 l.len
 few:m.jc.length<=4/\0<m.jc.length
theorem zAd(lim r o1 o2 o3 v:Int)(ws:List zCP):zmp (zq 0 lim r o1 o2 o3 v ws):=by
 refine⟨fun l hl=>?_,by constructor<;>simp[zq,zy]⟩;simp only[zq,zy,jy,kW,or_false]at hl;subst hl
 ·exact⟨_,_,_,_,rfl,pc0⟩
theorem zAc(lim r o1 o2 o3 v:Int)(ws:List zCP):zmp (zq 1 lim r o1 o2 o3 v ws):=by
 refine⟨fun l hl=>?_,by constructor<;>simp[zq,zy]⟩;simp only[zq,zy,jy,kW,or_false]at hl;rcases hl with rfl|rfl
 ·exact⟨_,_,_,_,rfl,pc1⟩
 ·exact⟨_,_,_,_,rfl,pc2⟩
theorem zAb(lim r o1 o2 o3 v:Int)(ws:List zCP):zmp (zq 2 lim r o1 o2 o3 v ws):=by
 refine⟨fun l hl=>?_,by constructor<;>simp[zq,zy]⟩;simp only[zq,zy,jy,kW,or_false]at hl;rcases hl with rfl|rfl
 ·exact⟨_,_,_,_,rfl,pc1⟩
 ·exact⟨_,_,_,_,rfl,pc2⟩
theorem zAa(lim r o1 o2 o3 v:Int)(ws:List zCP):zmp (zq 3 lim r o1 o2 o3 v ws):=by
 refine⟨fun l hl=>?_,by constructor<;>simp[zq,zy]⟩;simp only[zq,zy,jy,kW,or_false]at hl;rcases hl with rfl|rfl|rfl
 ·exact⟨_,_,_,_,rfl,pc3⟩
 ·exact⟨_,_,_,_,rfl,pc4⟩
 ·exact⟨_,_,_,_,rfl,pc5⟩
theorem zz9(lim r o1 o2 o3 v:Int)(ws:List zCP):zmp (zq 4 lim r o1 o2 o3 v ws):=by
 refine⟨fun l hl=>?_,by constructor<;>simp[zq,zy]⟩;simp only[zq,zy,jy,kW,or_false]at hl;rcases hl with rfl|rfl|rfl
 ·exact⟨_,_,_,_,rfl,pc3⟩
 ·exact⟨_,_,_,_,rfl,pc6⟩
 ·exact⟨_,_,_,_,rfl,pc4⟩
theorem zz8(lim r o1 o2 o3 v:Int)(ws:List zCP):zmp (zq 5 lim r o1 o2 o3 v ws):=by
 refine⟨fun l hl=>?_,by constructor<;>simp[zq,zy]⟩;simp only[zq,zy,jy,kW,or_false]at hl;rcases hl with rfl|rfl|rfl
 ·exact⟨_,_,_,_,rfl,pc7⟩
 ·exact⟨_,_,_,_,rfl,pc8⟩
 ·exact⟨_,_,_,_,rfl,pc9⟩
theorem zz7(lim r o1 o2 o3 v:Int)(ws:List zCP):zmp (zq 6 lim r o1 o2 o3 v ws):=by
 refine⟨fun l hl=>?_,by constructor<;>simp[zq,zy]⟩;simp only[zq,zy,jy,kW,or_false]at hl;rcases hl with rfl|rfl|rfl|rfl
 ·exact⟨_,_,_,_,rfl,pc7⟩
 ·exact⟨_,_,_,_,rfl,pc8⟩
 ·exact⟨_,_,_,_,rfl,pc10⟩
 ·exact⟨_,_,_,_,rfl,pc11⟩
theorem zEn(n k:Int)(hk:0<k):n % k=if n.tmod k<0 then n.tmod k+k else n.tmod k:=by
 have h1:=uU n (show k≠0 by omega);have h2:=uj n hk;have h:=@Int.tmod_eq_emod n k;have h3:(k.natAbs:Int)=k:=by omega
 split at h
 ·simp at h;rw[h];split<;>omega
 ·rw[h3]at h;rw[h];split<;>omega
theorem zEW(n k:Int)(hk:0<k)(hk2:k<=4000000000000000000):R L Cs zny [W n,W k] []=some (.w (W (n % k)),[]):=by
 rw[zUa znH rfl];have he:=zEn n k hk;have hb:=uj n hk;have hb0:=uU n (show k≠0 by omega);have hz:(k==0)=false:=beq_false_of_ne (by omega);have hz':k≠0:=by omega
 by_cases h:n.tmod k<0
 ·rw[if_pos h]at he;have e:IntKind.i64.wrap (n.tmod k+k)=n % k:=by rw[<-he];exact zTd _ (by omega) (by omega)
  simp[zeK,h,e,hz,hz']
 ·rw[if_neg h]at he;rw[he]at *;simp[zeK,h,hz,hz']
theorem zD0(n k:Int)(hk:0<k)(hk2:k<=4000000000000000000):R L Cs zEd [W n,W k] []=some (.w (W (n % k)),[]):=by
 rw[zUa zEh rfl];have he:=zEn n k hk;have hb:=uj n hk;have hb0:=uU n (show k≠0 by omega);have hz:(k==0)=false:=beq_false_of_ne (by omega);have hz':k≠0:=by omega
 by_cases h:n.tmod k<0
 ·rw[if_pos h]at he;have e:IntKind.i64.wrap (n.tmod k+k)=n % k:=by rw[<-he];exact zTd _ (by omega) (by omega)
  simp[zDP,h,e,hz,hz']
 ·rw[if_neg h]at he;rw[he]at *;simp[zDP,h,hz,hz']
structure Bit where
 lane:Int
 lo:Int
 span:Int
 v:Int
 more:Int
 hold:Int
def zEx(b:Bit):List Cl:=[I b.lane,I b.lo,I b.span,I b.v,I b.more,I b.hold]
def zDN(m:zD)(x:Bit):zk :=
 let ln:=x.lane % m.jc.length;let n:=z8 m ln;let v:=zeR (zaK m ln);let lo:=x.lo % (n+1);let hi:=lo+x.span % (n-lo+1);let vlo:=x.v % (v+1)
 ⟨ln,lo,hi,vlo,vlo+x.more % (v-vlo+1),if x.hold % 4=0 then hi+(x.hold.tdiv 4) % (n-hi+1) else 0⟩
structure zFG(m:zD)(b:zk):Prop where
 lane:0<=b.lane/\b.lane<m.jc.length
 lo:0<=b.lo
 le:b.lo<=b.hi
 hi:b.hi<=z8 m b.lane
 vlo:0<=b.vlo
 vle:b.vlo<=b.vhi
 vhi:b.vhi<=zeR (zaK m b.lane)
 hold:b.hold=0\/b.hi<=b.hold/\b.hold<=z8 m b.lane
theorem zEX(k:Int):0<=zeR k/\zeR k<=10000:=by
 unfold zeR;split<;>(try split)<;>omega
theorem zDJ(a b:Int)(h:0<b):0<=a % b/\a % b<b:=⟨uU _ (by omega),uj _ h⟩
theorem zEA{m:zD}(h:zcp m)(hne:0<m.jc.length)(x:Bit):zFG m (zDN m x):=by
 have h1:=zDJ x.lane m.jc.length (by omega);have h2:=zcX h h1;have h3:=zEX (zaK m (x.lane % m.jc.length));simp only[zDN];generalize hln:x.lane % m.jc.length=ln at *;generalize hn:z8 m ln=n at *;generalize hv:zeR (zaK m ln)=v at *;have h4:=zDJ x.lo (n+1) (by omega);generalize hlo:x.lo % (n+1)=lo at *;have h5:=zDJ x.span (n-lo+1) (by omega);generalize hsp:x.span % (n-lo+1)=sp at *;have h6:=zDJ x.v (v+1) (by omega);generalize hvl:x.v % (v+1)=vlo at *;have h7:=zDJ x.more (v-vlo+1) (by omega);have h8:=zDJ (x.hold.tdiv 4) (n-(lo+sp)+1) (by omega);refine⟨h1,h4.1,?_,?_,h6.1,?_,?_,?_⟩<;>dsimp only
 ·omega
 ·omega
 ·omega
 ·omega
 ·split
  ·right;omega
  ·left;rfl
theorem tdiv4{n:Int}(h:zk0 n):IntKind.i64.wrap (n.tdiv 4)=n.tdiv 4:=by
 obtain⟨h1,h2⟩:=h;have e:=@Int.tdiv_eq_ediv n 4;have:-4000000000000000000<=n.tdiv 4/\n.tdiv 4<=4000000000000000000:=by
  rw[e];split
  ·omega
  ·have:Int.sign 4=1:=rfl;omega
 exact zTd _ (by omega) (by omega)
theorem zEV{m:zD}(h:zcp m){x:Int}(hx:0<=x/\x<m.jc.length):R L Cs zDZ [.a (zf m),W x] []=some (.w (W (z8 m x)),[]):=by
 obtain⟨n,rfl⟩:=js hx.1;have hn:n<m.jc.length:=by omega
 have e:z8 m n=m.jc[n].len:=by simp[z8,hn]
 rw[e];exact zEQ h hn
theorem zEq{m:zD}(h:zcp m)(hne:0<m.jc.length)(x:Bit)(hx:zk0 x.hold):R L Cs zEj [.a (zf m),.a (zEx x)] []=some (.w (.a (ze (zDN m x))),[]):=by
 have hsm:=h.small.jc;have g1:=zEW x.lane m.jc.length (by omega) (by omega);have h1:=zDJ x.lane m.jc.length (by omega);have h2:=zcX h h1;have g2:=zEV h h1;simp only[zDN,ze];generalize x.lane % (m.jc.length:Int)=ln at *;obtain⟨j,rfl⟩:=js h1.1;have hj:j<m.jc.length:=by omega
 have eK:zaK m (j:Int)=m.jc[j].kind:=by simp[zaK,hj]
 have g3:=zhv (h.kind _ (je hj));have h3:=zEX m.jc[j].kind;rw[eK];generalize z8 m (j:Int)=n at *;generalize hv:zeR m.jc[j].kind=v at *;have w1:=kg (n+1);have g4:=zD0 x.lo (n+1) (by omega) (by omega);have h4:=zDJ x.lo (n+1) (by omega);generalize x.lo % (n+1)=lo at *;have w2:=kg (n-lo);have w3:=kg (n-lo+1);have g5:=zD0 x.span (n-lo+1) (by omega) (by omega);have h5:=zDJ x.span (n-lo+1) (by omega);generalize x.span % (n-lo+1)=sp at *;have w4:=kg (lo+sp);have w5:=kg (v+1);have g6:=zD0 x.v (v+1) (by omega) (by omega);have h6:=zDJ x.v (v+1) (by omega);generalize x.v % (v+1)=vlo at *;have w6:=kg (v-vlo);have w7:=kg (v-vlo+1);have g7:=zD0 x.more (v-vlo+1) (by omega) (by omega);have h7:=zDJ x.more (v-vlo+1) (by omega);generalize x.more % (v-vlo+1)=mo at *;have w8:=kg (vlo+mo);have g8:=zD0 x.hold 4 (by omega) (by omega);have w9:=kg (n-(lo+sp));have w10:=kg (n-(lo+sp)+1);have wq:=tdiv4 hx;have g9:=zD0 (x.hold.tdiv 4) (n-(lo+sp)+1) (by omega) (by omega);have h9:=zDJ (x.hold.tdiv 4) (n-(lo+sp)+1) (by omega);generalize x.hold.tdiv 4 % (n-(lo+sp)+1)=ho at *;have w11:=kg (lo+sp+ho);simp only[zf]at g2;rw[zUa zEk rfl];by_cases c:x.hold % 4=0
 ·simp[zDQ,zEx,zf,zo,g1,g2,g3,g4,g5,g6,g7,g8,g9,w1,w2,w3,w4,w5,w6,w7,w8,w9,w10,w11,wq,hj,hv,c,zg]
 ·have cb:(x.hold % 4==0)=false:=by simp[c]
  simp[zDQ,zEx,zf,zo,g1,g2,g3,g4,g5,g6,g7,g8,w1,w2,w3,w4,w5,w6,w7,w8,hj,hv,c,cb,zg]
theorem ztL{m:zD}(h:zcp m):∀(r:List zfn) (i:Nat) (out:List Int),m.jc.drop i=r->i<=m.jc.length->out.length<=i ->
  Y L Cs zbx (some [3,4,1]) 3 [(3,.w (.c (sl 2 1 (zu out)))),(4,.w (W i)),(1,.w (Pt 0))] [bx 5 (zf m),gb 1,some (own 1 (zu out))] =
    some (.exit 0,[(9,.w (Bo false)),(3,.w (.c (sl 2 1 (zu (out++zbK m i r))))),(4,.w (W m.jc.length)),(1,.w (Pt 0))],[bx 5 (zf m),gb 1,some (own 1 (zu (out++zbK m i r)))]):=by
 intro r;induction r with
 |nil =>
  intro i out hd hi ho;obtain rfl:=zUb hd hi;rw[zj zbx.eq_1];simp[zbK,zf]
 |cons l r ih =>
  intro i out hd hi ho;obtain⟨hil,hl,hd'⟩:=zL hd;have hn:=h.small.jc;have hw:=zB (i:=i) (by omega);have hb:=zpG m i (by omega) (fun l hl=>by have:=h.small.next l hl;omega);simp only[zf]at hb;have jX:(out.length+1)*8<=140737488355328:=by omega
  rw[zbK];by_cases he:zes i 0 m.jc=[]
  ·rw[if_pos he,show out++(i:Int)::zbK m (i+1) r=(out++[(i:Int)])++zbK m (i+1) r by simp,<-ih (i+1) (out++[(i:Int)]) hd' hil (by simp;omega),zj zbx.eq_1];rw[he]at hb;simp at hb;simp[hil,zf,hb,hw,jX,zg,zH]
  ·rw[if_neg he,<-ih (i+1) out hd' hil (by omega),zj zbx.eq_1];have hz:(((zes i 0 m.jc).length:Int)==0)=false:=by
    have:0<(zes i 0 m.jc).length:=kC.2 he;exact beq_false_of_ne (by omega)
   simp[hil,zf,hb,hw,he,hz,zg,zH]
theorem zzc{m:zD}(h:zcp m):R L Cs zjm [.a (zf m)] []=some (.w (.c (.jb (zu (zbK m 0 m.jc)))),[]):=by
 have hl:=ztL h m.jc 0 [] rfl (jt _) (jt _);simp only[zf,jg,jf,zay,sl,own,jp,zfq]at hl;rw[zUa zjy rfl];simp[zd0,zf,hl,zg]
theorem zv4{q:Nat}(h:q<2000000):IntKind.i64.wrap (q:Int)=(q:Int):=zTd _ (by omega) (by omega)
def zS(m:zD)(a:Int):List Int:=((m.jc[a.toNat]?).map zfn.next).getD []
def goR(m:zD):Nat->Int->Nat->List Int
 |0,_,_=>[]
 |f+1,a,n=>if(zS m a).length=0 then [] else(zS m a).getD (n % (zS m a).length) 0::goR m f ((zS m a).getD (n % (zS m a).length) 0) (n / (zS m a).length)
theorem zEZ(m:zD):∀(f:Nat) (a:Int) (n:Nat),(goR m f a n).length<=f
 |0,_,_=>by simp[goR]
 |f+1,a,n=>by
  unfold goR;split
  ·simp
  ·have:=zEZ m f ((zS m a).getD (n % (zS m a).length) 0) (n / (zS m a).length);rw[jk];omega
theorem zEL{m:zD}(h:zcp m):∀(f:Nat) (a:Int) (n:Nat) (out:List Int),out.length+f=8->0<=a->a<m.jc.length->n<2000000 ->
  ∃b t,Y L Cs zDH (some [6,1,7,2]) 3 [(6,.w (W a)),(1,.w (W n)),(7,.w (.c (sl 2 1 (zu out)))),(2,.w (Pt 0))] [bx 5 (zf m),gb 1,some (own 1 (zu out))] =
   some (.exit 0,[(41,.w (Bo false)),(6,.w (W b)),(1,.w (W t)),(7,.w (.c (sl 2 1 (zu (out++goR m f a n))))),(2,.w (Pt 0))],[bx 5 (zf m),gb 1,some (own 1 (zu (out++goR m f a n)))]):=by
 intro f;induction f with
 |zero =>
  intro a n out hf ha1 ha2 hn;obtain⟨j,rfl⟩:=js ha1;have hj:j<m.jc.length:=by omega
  refine⟨(j:Int),(n:Int),?_⟩;rw[zj zDH.eq_1];have h8:¬((out.length:Int)<8):=by omega
  by_cases c:0<m.jc[j].next.length
  ·simp[goR,zf,zo,hj,c,h8]
  ·simp[goR,zf,zo,hj,c]
 |succ f ih =>
  intro a n out hf ha1 ha2 hn;obtain⟨j,rfl⟩:=js ha1;have hj:j<m.jc.length:=by omega
  have h8:(out.length:Int)<8:=by omega
  have en:zS m (j:Int)=m.jc[j].next:=by simp[zS,hj]
  by_cases c:0<m.jc[j].next.length
  ·have hk:=h.small.next _ (je hj);have hm:n % m.jc[j].next.length<m.jc[j].next.length:=ug _ c;have hq:n / m.jc[j].next.length<=n:=Nat.div_le_self _ _;have hval:=h.small.valid _ (je hj) _ (je hm);rw[goR,en,if_neg (by omega)];have eg:m.jc[j].next.getD (n % m.jc[j].next.length) 0=m.jc[j].next[n % m.jc[j].next.length]:=by simp[jm,hm]
   rw[eg];obtain⟨b,t,hy⟩:=ih (m.jc[j].next[n % m.jc[j].next.length]) (n / m.jc[j].next.length) (out++[m.jc[j].next[n % m.jc[j].next.length]]) (by simp;omega) hval.1 hval.2 (by omega);refine⟨b,t,?_⟩;rw[show out++(m.jc[j].next[n % m.jc[j].next.length]::goR m f m.jc[j].next[n % m.jc[j].next.length] (n / m.jc[j].next.length))=(out++[m.jc[j].next[n % m.jc[j].next.length]])++goR m f m.jc[j].next[n % m.jc[j].next.length] (n / m.jc[j].next.length) by simp,<-hy,zj zDH.eq_1];clear ih hy;have e1:(n:Int).tmod (m.jc[j].next.length:Int)=((n % m.jc[j].next.length:Nat):Int):=by
    rw[kS (by omega)];rfl
   have e2:(n:Int).tdiv (m.jc[j].next.length:Int)=((n / m.jc[j].next.length:Nat):Int):=by
    rw[kr (by omega)];rfl
   have e3:IntKind.i64.wrap ((n / m.jc[j].next.length:Nat):Int)=((n / m.jc[j].next.length:Nat):Int):=zv4 (by omega);have hz:((m.jc[j].next.length:Int)==0)=false:=beq_false_of_ne (by omega);have hz':(m.jc[j].next.length:Int)≠0:=by omega
   have hz'':m.jc[j].next≠[]:=kC.1 c;have jX:(out.length+1)*8<=140737488355328:=by omega
   generalize hq2:n / m.jc[j].next.length=q at *;generalize hm2:n % m.jc[j].next.length=p at *;generalize hln:m.jc[j]=ln at *;simp[zf,zo,hj,hln,c,h8,e1,e2,e3,hz,hz',hz'',hm,jX,zg,zH]
  ·refine⟨(j:Int),(n:Int),?_⟩;rw[goR,en,if_pos (by omega),zj zDH.eq_1];simp[zf,zo,hj,c]
def zsP(k:Nat)(r:Int):List Zon:=match k with
 |0=>[]
 |1=>[⟨[⟨0,28000,32000,r⟩,⟨1,18000,22000,2-2*r⟩],0⟩]
 |2=>[⟨[⟨0,28000,32000,r⟩,⟨1,18000,22000,2-2*r⟩],1⟩]
 |3=>[]
 |4=>[⟨[⟨0,25000,30000,1⟩,⟨1,20000,26000,0⟩,⟨2,0,5000,0⟩],0⟩]
 |5=>[⟨[⟨1,14000,16000,0⟩,⟨2,6000,10000,3⟩],0⟩]
 |_=>[⟨[⟨1,14000,18000,1⟩,⟨3,10000,14000,0⟩],if r=1 then 1 else 0⟩,⟨[⟨2,14000,21000,1⟩,⟨3,14500,23000,0⟩],if r=1 then 2 else 0⟩]
def sgP(o a b:Int):Sgn:=⟨o,[⟨12,[a]⟩,⟨5,[]⟩,⟨9,[b]⟩,⟨4,[]⟩]⟩
def ssP(k:Nat)(r o1 o2 o3:Int):List Sgn:=match k with
 |2=>[sgP o1 0 1]
 |6=>if r=1 then [sgP o2 1 3,sgP o3 2 3] else []
 |_=>[]
theorem zxQ(k:Nat)(hk:k<7)(r:Int):zO k r=zk8 (zsP k r):=by
 match k,hk with
 |0,_ |1,_ |2,_ |3,_ |4,_ |5,_ |6,_=>simp[zO,zsP,zk8,zdP,zfa,zkl,zeB,zdK]
theorem zzt(o a b:Int):zaY o a b=zeq (sgP o a b):=by simp[zaY,zeq,sgP,zje,zr6]
theorem zuN(k:Nat)(hk:k<7)(r o1 o2 o3:Int):zt k r o1 o2 o3=zjd (ssP k r o1 o2 o3):=by
 match k,hk with
 |0,_ |1,_ |3,_ |4,_ |5,_=>simp[zt,ssP,zjd]
 |2,_=>simp[zt,ssP,zjd,zzt]
 |6,_ =>
  simp only[zt,ssP];split<;>simp[zjd,zzt]
theorem zwk(o a b:Int):zvY (sgP o a b).ke:=⟨by simp[sgP],by simp[sgP],by simp[sgP],by simp[sgP]⟩
theorem zDs(k:Nat)(hk:k<7){lim r o1 o2 o3 v:Int}{ws:List zCP}(h:zp2 k lim r o1 o2 o3 v ws):Zd (zq k lim r o1 o2 o3 v ws) (zsP k r) (ssP k r o1 o2 o3) where
 z:=zxQ k hk r
 s:=zuN k hk r o1 o2 o3
 few:=by
  match k,hk with
  |0,_ |1,_ |2,_ |3,_ |4,_ |5,_ |6,_=>simp[zsP]
 Cc:=by
  match k,hk with
  |0,_ |1,_ |2,_ |3,_ |4,_ |5,_=>simp[ssP]
  |6,_=>simp only[ssP];split<;>simp
 sig:=by
  match k,hk with
  |0,_ |1,_ |2,_ |3,_ |4,_ |5,_=>simp[ssP,zsP]
  |6,_ =>
   rcases h.r with c|c<;>(subst c;simp[ssP,zsP])
 BA:=by
  match k,hk with
  |0,_ |1,_ |2,_ |3,_ |4,_ |5,_ |6,_=>simp[zsP]
 ph:=by
  match k,hk with
  |0,_ |1,_ |3,_ |4,_ |5,_=>simp[ssP]
  |2,_=>simp[ssP];exact zwk _ _ _
  |6,_ =>
   simp only[ssP];split
   ·simp;exact⟨zwk _ _ _,zwk _ _ _⟩
   ·simp
theorem zDu(k:Nat)(hk:k<7)(r:Int):∀z∈zsP k r,(z.parts.map Prt.lane).Nodup:=by
 match k,hk with
 |0,_ |1,_ |2,_ |3,_ |4,_ |5,_ |6,_=>simp[zsP]
theorem zlX(ss:List Sgn)(lane tick:Int)(z:Zon):zff ss lane tick z=[]\/∃p,zjF z lane=some p/\zff ss lane tick z=[p.lo]:=by
 unfold zff;split
 ·exact .inl rfl
 ·split
  ·exact .inl rfl
  ·rename_i p hp;split
   ·exact .inl rfl
   ·exact .inr ⟨p,hp,rfl⟩
theorem zDl(k:Nat)(hk:k<7)(r o1 o2 o3 lane tick:Int):Asc ((zsP k r).flatMap (zff (ssP k r o1 o2 o3) lane tick)):=by
 have one:∀z,Asc ([z].flatMap (zff (ssP k r o1 o2 o3) lane tick)):=fun z=>by
  rcases zlX (ssP k r o1 o2 o3) lane tick z with h |⟨p,_,h⟩<;>simp[h]
 match k,hk with
 |0,_ |3,_=>simp[zsP]
 |1,_ |2,_ |4,_ |5,_=>exact one _
 |6,_ =>
  simp only[zsP,jO,List.flatMap_nil,kT];rcases zlX (ssP 6 r o1 o2 o3) lane tick ⟨[⟨1,14000,18000,1⟩,⟨3,10000,14000,0⟩],if r=1 then 1 else 0⟩with h |⟨p,hp,h⟩<;>rcases zlX (ssP 6 r o1 o2 o3) lane tick ⟨[⟨2,14000,21000,1⟩,⟨3,14500,23000,0⟩],if r=1 then 2 else 0⟩with h' |⟨p',hp',h'⟩
  ·simp[h,h']
  ·simp[h,h']
  ·simp[h,h']
  ·rw[h,h'];have e1:p.lane=lane/\(p.lo=14000/\p.lane=1\/p.lo=10000/\p.lane=3):=by
    have:=uo hp;have hm:=kY hp;simp at this hm;rcases hm with rfl|rfl<;>simp_all
   have e2:p'.lane=lane/\(p'.lo=14000/\p'.lane=2\/p'.lo=14500/\p'.lane=3):=by
    have:=uo hp';have hm:=kY hp';simp at this hm;rcases hm with rfl|rfl<;>simp_all
   simp;omega
structure zmX(m:zD):Prop where
 few:m.jc.length<=4
 nx:∀a,(zS m a).length<=2
 leaf:∀a,∀x∈zS m a,zS m x=[]
 up:∀a,∀x∈zS m a,a<x
 kn:∀a,∀x∈zS m a,zaK m x=zaK m a
theorem zyt{m:zD}{a:Int}(h:m.jc.length<=a.toNat):zS m a=[]:=by
 simp[zS,jV h]
theorem zCl(k:Nat)(hk:k<7)(lim r o1 o2 o3 v:Int)(ws:List zCP):zmX (zq k lim r o1 o2 o3 v ws):=by
 have key:∀a:Int,a.toNat=0\/a.toNat=1\/a.toNat=2\/a.toNat=3\/4<=a.toNat:=fun a=>by omega
 have few:(zq k lim r o1 o2 o3 v ws).jc.length<=4:=by
  match k,hk with
  |0,_ |1,_ |2,_ |3,_ |4,_ |5,_ |6,_=>simp[zq,zy]
 have out:∀a:Int,4<=a.toNat->zS (zq k lim r o1 o2 o3 v ws) a=[]:=fun a h=>zyt (by omega)
 refine⟨few,fun a=>?_,fun a=>?_,fun a=>?_,fun a=>?_⟩
 all_goals
  rcases key a with h|h|h|h|h
  case inr.inr.inr.inr=>simp[out a h]
 all_goals
  clear out few
  match k,hk with
  |0,_ |1,_ |2,_ |3,_ |4,_ |5,_ |6,_ =>
   first
    |(simp[zS,zq,zy,h,zQ];done)
    |(simp[zS,zq,zy,h,zQ];omega)
    |(simp[zS,zaK,zq,zy,h,zQ];done)
structure zmq(m:zD)(zs:List Zon)(ss:List Sgn):Prop where
 qF:zcp m
 one:zmp m
 ye:zmX m
 zd:Zd m zs ss
 asc:∀lane tick,Asc (zs.flatMap (zff ss lane tick))
 nd:∀z∈zs,(z.parts.map Prt.lane).Nodup
 pv:∀z∈zs,∀p∈z.parts,(0<=p.lane/\p.lane<m.jc.length)/\0<=p.lo/\p.lo<p.hi/\p.hi<=z8 m p.lane/\0<=p.A9/\p.A9<=100
theorem zDt(k:Nat)(hk:k<7){lim r o1 o2 o3 v:Int}{ws:List zCP}(h:zp2 k lim r o1 o2 o3 v ws):∀z∈zsP k r,∀p∈z.parts,(0<=p.lane/\p.lane<(zq k lim r o1 o2 o3 v ws).jc.length)/\0<=p.lo/\p.lo<p.hi/\p.hi<=z8 (zq k lim r o1 o2 o3 v ws) p.lane/\0<=p.A9/\p.A9<=100:=by
 have hr:=h.r
 match k,hk with
 |0,_ |3,_=>simp[zsP]
 |1,_ |2,_ |4,_ |5,_ |6,_=>simp[zsP,zq,zy,z8,zQ];try omega
theorem zCE(k:Nat)(hk:k<7){lim r o1 o2 o3 v:Int}{ws:List zCP}(h:zp2 k lim r o1 o2 o3 v ws):zmq (zq k lim r o1 o2 o3 v ws) (zsP k r) (ssP k r o1 o2 o3):=by
 refine⟨?_,?_,zCl k hk _ _ _ _ _ _ _,zDs k hk h,zDl k hk r o1 o2 o3,zDu k hk r,zDt k hk h⟩
 ·exact zTy k hk h
 ·match k,hk with
  |0,_=>exact zAd _ _ _ _ _ _ _
  |1,_=>exact zAc _ _ _ _ _ _ _
  |2,_=>exact zAb _ _ _ _ _ _ _
  |3,_=>exact zAa _ _ _ _ _ _ _
  |4,_=>exact zz9 _ _ _ _ _ _ _
  |5,_=>exact zz8 _ _ _ _ _ _ _
  |6,_=>exact zz7 _ _ _ _ _ _ _
theorem zA5(n:Int):∃k lim r o1 o2 o3 v ws,k<7/\zp2 k lim r o1 o2 o3 v ws/\R L Cs zY [W n] []=some (.w (.a (zf (zq k lim r o1 o2 o3 v ws))),[]):=by
 have hN:0<=n % 16777216/\n % 16777216<16777216:=by omega
 have h7:0<=(n % 16777216).tmod 7/\(n % 16777216).tmod 7<7:=by
  rw[kS hN.1];omega
 have hr:=zE _ 28 2 hN (by decide) (by decide);have nu:=zBA n;exact⟨((n % 16777216).tmod 7).toNat,_,_,_,_,_,_,_,by omega,nu _ (by omega),zTw _ n (by omega) (by omega)⟩
def zet(v b:Int):Int:=if v<1 then 0 else(v-1) / b*v-b*(((v-1) / b)*((v-1) / b+1) / 2)
theorem zzj(n:Int):(n+1)*(n+1+1) / 2=n*(n+1) / 2+(n+1):=by
 have e:(n+1)*(n+1+1)=n*(n+1)+(n+1)*2:=by simp only[Int.add_mul,Int.mul_add];omega
 rw[e,Int.add_mul_ediv_right _ _ (by decide)]
theorem zsG{v b:Int}(hb:1<=b)(h:b<v):zet v b=(v-b)+zet (v-b) b:=by
 have e:(v-b-1) / b=(v-1) / b-1:=by
  rw[show v-b-1=(v-1)+(-1)*b by omega,Int.add_mul_ediv_right _ _ (by omega)];omega
 unfold zet;rw[if_neg (by omega),if_neg (by omega),e];generalize (v-1) / b=n;have t:=zzj (n-1);rw[show n-1+1=n by omega]at t ⊢;rw[t];generalize (n-1)*n / 2=q;simp only[Int.mul_add,Int.mul_sub,Int.sub_mul,Int.one_mul];rw[Int.mul_comm b n];omega
theorem zki{v b:Int}(hb:1<=b)(h:v<=b):zet v b=0:=by
 unfold zet;split
 ·rfl
 ·have:(v-1) / b=0:=Int.ediv_eq_zero_of_lt (by omega) (by omega);rw[this];simp
theorem ztT{a b A B:Int}(ha:0<=a/\a<=A)(hb:0<=b/\b<=B):0<=a*b/\a*b<=A*B :=
 ⟨vu ha.1 hb.1,Int.mul_le_mul ha.2 hb.2 hb.1 (by omega)⟩
theorem zBV(v b:Int)(hv:v<=10000)(hb:1<=b/\b<=1000):R L Cs zua [W v,W b] []=some (.w (W (zet v b)),[]):=by
 rw[zUa zuy rfl];by_cases c:v<1
 ·simp[zh2,c,zet]
 ·have n1:0<=(v-1) / b:=yX (by omega) (by omega);have n2:(v-1) / b<=10000:=Int.le_trans (Int.ediv_le_self _ (by omega)) (by omega);have et:(v-1).tdiv b=(v-1) / b:=kr (by omega);have hz:b≠0:=by omega
  have m1:min v 1000000=v:=by omega
  have m2:min b 1000000=b:=by omega
  have c2:¬b<1:=by omega
  have w1:=kg (v-1);unfold zet;rw[if_neg c];generalize (v-1) / b=n at *;have w2:=kg n;have p1:=ztT ⟨n1,n2⟩ (show 0<=v/\v<=10000 by omega);have p2:=ztT ⟨n1,n2⟩ (show 0<=n+1/\n+1<=10001 by omega);have p3:0<=n*(n+1) / 2/\n*(n+1) / 2<=100010000:=by omega
  have e2:(n*(n+1)).tdiv 2=n*(n+1) / 2:=kr (by omega);have w3:=kg (n*v);have w4:=kg (n+1);have w5:=kg (n*(n+1));have w6:=kg (n*(n+1) / 2);have p4:=ztT (show 0<=b/\b<=1000 by omega) p3;generalize hx:n*v=x at *;generalize n*(n+1) / 2=y at *;have w7:=kg (b*y);have w8:=kg (x-b*y);simp[zh2,c,c2,m1,m2,w1,et,hz,w2,hx,w3,w4,w5,e2,w6,w7,w8]
theorem zwo(b:Int)(hb:1<=b/\b<=1000):∀(f:Nat) (v s:Int),v<=f->-1000000000<=v->f<=10000->0<=s/\s+10000*f<=200000000->∃v',
  Y L Cs zcb (some [0,5,1]) 0 [(0,.w (W v)),(5,.w (W s)),(1,.w (W b))] []=some (.exit 0,[(18,.w (Bo false)),(0,.w (W v')),(5,.w (W (s+zet v b))),(1,.w (W b))],[]):=by
 intro f;induction f with
 |zero =>
  intro v s h1 h2 h3 h4;refine⟨v,?_⟩;have c:¬b<v:=by omega
  rw[zki hb.1 (by omega),Int.add_zero,zj zcb.eq_1];simp[c]
 |succ f ih =>
  intro v s h1 h2 h3 h4;by_cases c:b<v
  ·obtain⟨v',h⟩:=ih (v-b) (s+(v-b)) (by omega) (by omega) (by omega) (by omega);refine⟨v',?_⟩;have w1:=kg (v-b);have w2:=kg (s+(v-b));rw[zsG hb.1 c,<-Int.add_assoc,<-h,zj zcb.eq_1];clear ih h;simp[c,w1,w2]
  ·refine⟨v,?_⟩;rw[zki hb.1 (by omega),Int.add_zero,zj zcb.eq_1];simp[c]
theorem zBX(v b:Int)(hv:-1000000000<=v/\v<=10000)(hb:1<=b/\b<=1000):R L Cs zlo [W v,W b] []=some (.w (W (zet v b)),[]):=by
 rw[zUa zlE rfl];have m1:min v 1000000=v:=by omega
 have m2:min b 1000000=b:=by omega
 have c2:¬b<1:=by omega
 by_cases c:v<1
 ·have:zet v b=0:=by rw[zet,if_pos c]
  simp[zdI,c,m1,m2,this]
 ·obtain⟨v',h⟩:=zwo b hb 10000 v 0 (by omega) (by omega) (by omega) (by omega);rw[uI]at h;simp[zdI,c,c2,m1,m2,h]
def zgH(m:zD)(l:List Int)(act:Int):Int:=max (-zd4 (zaK m (l.getD 0 0))) (min act (zif (zaK m (l.getD 0 0))))
def zcD(m:zD)(l:List Int)(act v:Int):Int:=max 0 (min (v+zgH m l act) (zeR (zaK m (l.getD 0 0))))
def zaN(m:zD)(l:List Int)(e:Ego)(act:Int):Ego:=⟨e.slo+zcD m l act e.vlo,e.shi+zcD m l act e.vhi,zcD m l act e.vlo,zcD m l act e.vhi⟩
theorem ztm(v act top:Int)(p q:Nat)(hv:-100000<=v/\v<=100000)(ha:-100000<=act/\act<=100000):R L Cs zjL [W v,Pt 0,Pt 1] [bxv p 1 [I act],bxv q 1 [I top]]=some (.w (W (max 0 (min (v+act) top))),[bxv p 1 [I act],bxv q 1 [I top]]):=by
 have w1:=kg (v+act);rw[zUa zj6 rfl];simp[zel,w1]
theorem tops{k:Int}(h:k=1\/k=2\/k=3):1<=zd4 k/\zd4 k<=300/\1<=zif k/\zif k<=100/\300<=zeR k/\zeR k<=2000:=by
 rcases h with rfl|rfl|rfl<;>simp[zd4,zif,zeR]
theorem zu9{m:zD}(h:zcp m){x:Int}(hx:0<=x/\x<m.jc.length):zaK m x=1\/zaK m x=2\/zaK m x=3:=by
 obtain⟨n,rfl⟩:=js hx.1;have hn:n<m.jc.length:=by omega
 have:=h.kind _ (je hn);simpa [zaK,hn]using this
structure znd(e:Ego):Prop where
 s:0<=e.slo/\e.slo<=e.shi/\e.shi<=1099511627776
 v:0<=e.vlo/\e.vlo<=e.vhi/\e.vhi<=2000
theorem zge{m:zD}(h:zcp m){x:Int}(r:List Int)(hx:0<=x/\x<m.jc.length)(act v:Int):0<=zcD m (x::r) act v/\zcD m (x::r) act v<=2000:=by
 have:=tops (zu9 h hx);unfold zcD;simp only[kZ];omega
theorem zvQ{m:zD}(h:zcp m)(x:Int)(r:List Int)(len:Int)(hx:0<=x/\x<m.jc.length)(e:Ego)(he:znd e)(act:Int)(ha:zk0 act):R L Cs zgW [.a (zh m (x::r) len),.a (zch e),W act] []=some (.w (.a (zch (zaN m (x::r) e act))),[]):=by
 obtain⟨n,rfl⟩:=js hx.1;have hn:n<m.jc.length:=by omega
 have hk:=h.kind _ (je hn);have hB:=zmo hk;have ek:zaK m n=m.jc[n].kind:=by simp[zaK,hn]
 have ht:=tops hk;have hs1:=zge h r hx act e.vlo;have hs2:=zge h r hx act e.vhi;have es:=he.s;have ev:=he.v;have hc:zgH m ((n:Int)::r) act=max (-zd4 m.jc[n].kind) (min act (zif m.jc[n].kind)):=by simp only[zgH,kZ,ek]
 have hcb:-300<=zgH m ((n:Int)::r) act/\zgH m ((n:Int)::r) act<=100:=by rw[hc];omega
 have hD1:=fun p q=>ztm e.vlo (zgH m ((n:Int)::r) act) (zeR m.jc[n].kind) p q (by omega) (by omega)
 have hD2:=fun p q=>ztm e.vhi (zgH m ((n:Int)::r) act) (zeR m.jc[n].kind) p q (by omega) (by omega)
 have e1:max 0 (min (e.vlo+zgH m ((n:Int)::r) act) (zeR m.jc[n].kind))=zcD m ((n:Int)::r) act e.vlo:=by simp only[zcD,kZ,ek]
 have e2:max 0 (min (e.vhi+zgH m ((n:Int)::r) act) (zeR m.jc[n].kind))=zcD m ((n:Int)::r) act e.vhi:=by simp only[zcD,kZ,ek]
 rw[e1]at hD1;rw[e2]at hD2;have wB:=kg (-zd4 m.jc[n].kind);have w1:=kg (e.slo+zcD m ((n:Int)::r) act e.vlo);have w2:=kg (e.shi+zcD m ((n:Int)::r) act e.vhi);unfold zaN;generalize hS1:zcD m ((n:Int)::r) act e.vlo=s1 at *;generalize hS2:zcD m ((n:Int)::r) act e.vhi=s2 at *;rw[hc]at hD1 hD2;rw[zUa zly rfl];simp[zeZ,zh,zi,zo,hn,hB,wB,hD1,hD2,w1,w2,zch]
theorem zvP{m:zD}(h:zcp m)(x:Int)(r:List Int)(hx:0<=x/\x<m.jc.length)(e:Ego)(he:znd e)(act:Int)(ha:zk0 act):R L Cs zgB [.a (zf m),.c (.jb (zu (x::r))),.a (zch e),W act] []=some (.w (.a (zch (zaN m (x::r) e act))),[]):=by
 obtain⟨n,rfl⟩:=js hx.1;have hn:n<m.jc.length:=by omega
 have hk:=h.kind _ (je hn);have hB:=zhv hk;have ek:zaK m n=m.jc[n].kind:=by simp[zaK,hn]
 have ht:=tops hk;have hs1:=zge h r hx act e.vlo;have hs2:=zge h r hx act e.vhi;have es:=he.s;have ev:=he.v;have hc:zgH m ((n:Int)::r) act=max (-zd4 m.jc[n].kind) (min act (zif m.jc[n].kind)):=by simp only[zgH,kZ,ek]
 have hcb:-300<=zgH m ((n:Int)::r) act/\zgH m ((n:Int)::r) act<=100:=by rw[hc];omega
 have e1:max 0 (min (e.vlo+zgH m ((n:Int)::r) act) (zeR m.jc[n].kind))=zcD m ((n:Int)::r) act e.vlo:=by simp only[zcD,kZ,ek]
 have e2:max 0 (min (e.vhi+zgH m ((n:Int)::r) act) (zeR m.jc[n].kind))=zcD m ((n:Int)::r) act e.vhi:=by simp only[zcD,kZ,ek]
 have wB:=kg (-zd4 m.jc[n].kind);have w1:=kg (e.slo+zcD m ((n:Int)::r) act e.vlo);have w2:=kg (e.shi+zcD m ((n:Int)::r) act e.vhi);have w3:=kg (e.vlo+zgH m ((n:Int)::r) act);have w4:=kg (e.vhi+zgH m ((n:Int)::r) act);unfold zaN;generalize hS1:zcD m ((n:Int)::r) act e.vlo=s1 at *;generalize hS2:zcD m ((n:Int)::r) act e.vhi=s2 at *;rw[hc]at w3 w4 e1 e2;rw[zUa zk3 rfl];simp[zeI,zf,zo,hn,hB,wB,w1,w2,w3,w4,e1,e2,zch]
structure VB(m:zD)(b:zk):Prop where
 lane:0<=b.lane/\b.lane<m.jc.length
 lo:0<=b.lo
 le:b.lo<=b.hi
 hi:b.hi<=z8 m b.lane
 vlo:0<=b.vlo
 vle:b.vlo<=b.vhi
 vhi:b.vhi<=zeR (zaK m b.lane)
 hold:0<=b.hold/\b.hold<=z8 m b.lane
def zcY(m:zD)(b:zk)(line:Int):Bool:=decide (b.hi<line)&&(decide (b.hi+zet b.vhi (zd4 (zaK m b.lane))<line)||(decide (b.hold≠0)&&decide (b.hold<=line)))
def zcW(m:zD)(b:zk):Int:=max 0 (b.vlo-zd4 (zaK m b.lane))
def zde(m:zD)(b:zk):Int:=min (zeR (zaK m b.lane)) (b.vhi+zif (zaK m b.lane))
def zdC(m:zD)(red:List Int)(b:zk)(signals src:Bool):zk :=
 { lane:=b.lane,lo:=if src=true/\b.lo=0 then 0 else b.lo+zcW m b,
   hi:=match (if signals then red.find? (zcY m b) else none)with |some l=>min (b.hi+zde m b) (l-1) |none=>b.hi+zde m b,
   vlo:=zcW m b,vhi:=zde m b,hold:=((if signals then red.find? (zcY m b) else none)).getD 0 }
theorem zqp:∀(s:List Int) (l:List Bool) (i:Nat),i<l.length->(∀x∈s,0<=x)->(zkj l s).getD i false=(l.getD i false||decide ((i:Int)∈s))
 |[],l,i,_,_=>by simp[zkj]
 |x::s,l,i,hi,hs=>by
  have h0:=hs x (jr ..);show(zkj (l.set x.toNat true) s).getD i false=_;rw[zqp s _ i (by simpa using hi) fun y hy=>hs y (jv _ hy)];by_cases c:x.toNat=i
  ·have e:x=(i:Int):=by omega
   subst c;simp[jm,hi,<-e]
  ·have e:¬(i:Int)=x:=by omega
   simp[jm,jE c,e]
theorem zzq{v b:Int}(hv:v<=10000)(hb:1<=b/\b<=1000):∀(f:Nat),v<=f->f<=10000->0<=zet v b/\zet v b<=10000*f:=by
 intro f;induction f generalizing v with
 |zero=>intro h _;rw[zki hb.1 (by omega)];omega
 |succ f ih =>
  intro h1 h2;by_cases c:b<v
  ·have:=ih (v:=v-b) (by omega) (by omega) (by omega);rw[zsG hb.1 c];omega
  ·rw[zki hb.1 (by omega)];omega
structure zDx(m:zD)(b:zk):Prop where
 k:zaK m b.lane=1\/zaK m b.lane=2\/zaK m b.lane=3
 t:1<=zd4 (zaK m b.lane)/\zd4 (zaK m b.lane)<=300/\1<=zif (zaK m b.lane)/\zif (zaK m b.lane)<=100/\300<=zeR (zaK m b.lane)/\zeR (zaK m b.lane)<=2000
 s:0<=zcW m b/\zcW m b<=2000
 f:0<=zde m b/\zde m b<=2000
 sf:zcW m b<=zde m b
 pos:b.lo<=1000000/\b.hi<=1000000
 st:0<=zet b.vhi (zd4 (zaK m b.lane))/\zet b.vhi (zd4 (zaK m b.lane))<=100000000
theorem zqQ{m:zD}(h:zcp m){b:zk}(hb:VB m b):zDx m b:=by
 have hk:=zu9 h hb.lane;have ht:=tops hk;have hl:=zcX h hb.lane;have a1:=hb.lo;have a2:=hb.le;have a3:=hb.hi;have a4:=hb.vlo;have a5:=hb.vle;have a6:=hb.vhi;have hs:=zzq (v:=b.vhi) (b:=zd4 (zaK m b.lane)) (by omega) (by omega) 10000 (by omega) (by omega);exact⟨hk,ht,by unfold zcW;omega,by unfold zde;omega,by unfold zcW zde;omega,by omega,hs.1,by omega⟩
theorem zyu{m:zD}(h:zcp m){b:zk}(hb:VB m b)(src:Bool)(red:List Int):(zdC m red b false src).lo<=(zdC m red b false src).hi:=by
 have ho:=zqQ h hb;have a1:=hb.lo;have a2:=hb.le;have a3:=ho.sf;have a4:=ho.f;simp only[zdC,jF,if_false];split<;>omega
def zpT(m:zD)(b x:zk)(rr:List Int):zk:=match rr.find? (zcY m b)with |some l=>{ x with hi:=min x.hi (l-1),hold:=l } |none=>x
theorem zwF{m:zD}(r:List Int)(len:Int)(b x z:zk)(v:Nat)(hb:OKB b)(red:List Int)(BF:∀l∈red,-1000000000<=l/\l<=1000000000)(hlen:red.length<=1000):∀(rr:List Int) (i:Nat),red.drop i=rr->i<=red.length->∃E v',
  Y L Cs zb7 (some [85,84,14,5,86,13,8]) 4 [(85,.w (W red.length)),(84,.w (.c (.jb (zu red)))),(14,.w (W (b.hi+zet b.vhi (zd4 (zaK m b.lane))))),(5,.w (Pt 1)),(86,.w (W i)),(13,.w (Pt 3)),(8,.w (Pt 2))] [bx 11 (zh m r len),bx 6 (ze b),bx 6 (ze z),bxv v 6 (ze x)] =
    some (.exit 0,E,[bx 11 (zh m r len),bx 6 (ze b),bx 6 (ze z),bxv v' 6 (ze (zpT m b x rr))])/\E.get 13=some (.w (Pt 3))/\E.get 8=some (.w (Pt 2)):=by
 intro rr;induction rr with
 |nil =>
  intro i hd hi;obtain rfl:=zUb hd hi;rw[show zpT m b x []=x from rfl];refine⟨[(87,.w (Bo false)),(5,.w (Pt 1)),(14,.w (W (b.hi+zet b.vhi (zd4 (zaK m b.lane))))),(84,.w (.c (.jb (zu red)))),(85,.w (W red.length)),(86,.w (W red.length)),(13,.w (Pt 3)),(8,.w (Pt 2))],v,?_,by simp⟩;rw[zj zb7.eq_1];simp
 |cons l rr ih =>
  intro i hd hi;obtain⟨hil,hl,hd'⟩:=zL hd;have hw:=zB (i:=i) (by omega);have hlb:=BF l (hl ▸ je hil);by_cases c:zcY m b l=true
  ·rw[show zpT m b x (l::rr)={ x with hi:=min x.hi (l-1),hold:=l } by rw[zpT,List.find?_cons_of_pos c]];refine⟨[(13,.w (Pt 3)),(8,.w (Pt 2))],v+1+1,?_,by simp⟩;have w1:=kg (l-1);rw[zj zb7.eq_1];clear ih;unfold zcY at c;simp only[jl,v7,decide_eq_true_eq]at c;obtain⟨c1,c2⟩:=c;by_cases c3:b.hi+zet b.vhi (zd4 (zaK m b.lane))<l
   ·simp[hil,hl,hw,w1,c1,c3,ze]
   ·have c2:=c2.resolve_left c3;have c4:(b.hold !=0)=true:=by simp[c2.1]
    simp[hil,hl,hw,w1,c1,c3,c2.1,c2.2,c4,ze]
  ·rw[show zpT m b x (l::rr)=zpT m b x rr by rw[zpT,vm c];rfl];obtain⟨E,v',h1,h2⟩:=ih (i+1) hd' hil;refine⟨E,v',?_,h2⟩;rw[<-h1,zj zb7.eq_1];clear ih h1 h2;have c:zcY m b l=false:=by simpa using c
   unfold zcY at c;by_cases c1:b.hi<l
   ·by_cases c2:b.hi+zet b.vhi (zd4 (zaK m b.lane))<l
    ·simp[c1,c2]at c
    ·by_cases c3:b.hold=0
     ·simp[hil,hl,hw,c1,c2,c3,ze]
     ·have c4:¬b.hold<=l:=by simp[c1,c2,c3]at c;omega
      have c3':(b.hold !=0)=true:=by simp[c3]
      simp[hil,hl,hw,c1,c2,c3,c3',c4,ze]
   ·simp[hil,hl,hw,c1,ze]
def zeA(zs:List Zon)(ss:List Sgn)(lane tick:Int):List Int:=zs.flatMap (zff ss lane tick)
theorem zBp{m:zD}{zs:List Zon}{ss:List Sgn}(h:zmq m zs ss)(lane tick:Int):zpN zs ss lane tick=zeA zs ss lane tick:=by
 unfold zpN zeA;have key:∀l:List Zon,(∀z∈l,(z.parts.map Prt.lane).Nodup)->l.flatMap (zqJ ss lane tick)=l.flatMap (zff ss lane tick):=by
  intro l;induction l with
  |nil=>intro _;rfl
  |cons z l ih=>intro hn;rw[jO,jO,zyf ss lane tick z (hn z (jr ..)),ih fun y hy=>hn y (jv _ hy)]
 exact key zs h.nd
theorem zqK(zs:List Zon)(ss:List Sgn)(lane tick:Int):(zeA zs ss lane tick).length<=zs.length:=by
 unfold zeA;induction zs with
 |nil=>simp
 |cons z l ih =>
  rw[jO,ju,jk];rcases zlX ss lane tick z with e |⟨p,_,e⟩<;>(rw[e];simp only[jp,jk];omega)
theorem zuT{m:zD}{zs:List Zon}{ss:List Sgn}(h:zmq m zs ss){lane tick l:Int}(hl:l∈zeA zs ss lane tick):0<=l/\l<z8 m lane:=by
 unfold zeA at hl;rw[qf]at hl;obtain⟨z,hz,hl⟩:=hl;rcases zlX ss lane tick z with e |⟨p,hp,e⟩
 ·rw[e]at hl;cases hl
 ·rw[e]at hl;simp at hl;subst hl;have h1:=uo hp;have h2:=kY hp;have h3:=h.pv z hz p h2;simp at h1;rw[h1]at h3;omega
theorem zBW{m:zD}{zs:List Zon}{ss:List Sgn}(h:zmq m zs ss)(lane tick:Int):R L Cs zpy [.a (zf m),W lane,W tick] []=some (.w (.c (.jb (zu (zeA zs ss lane tick)))),[]):=by
 have e:=zBp h lane tick;have ha:=h.asc lane tick;have hl:=zqK zs ss lane tick;have hf:=h.zd.few;have:=zCQ h.zd lane tick (by rw[e];exact ha) (by rw[e];omega);rw[e]at this;exact this
theorem zy9{m:zD}{zs:List Zon}{ss:List Sgn}(h:zmq m zs ss)(lane tick:Int):R L Cs zgC [.a (zf m),W lane,W tick] []=some (.w (.c (.jb (zu (zeA zs ss lane tick)))),[]):=zAT h.zd lane tick (h.asc lane tick)
theorem zqo(m:zD):∀(r:List zfn) (i:Nat),∀x∈zbK m i r,0<=x/\x<i+r.length
 |[],i,x,h=>by simp[zbK]at h
 |y::r,i,x,h=>by
  unfold zbK at h;rw[jk];split at h
  ·rcases jy.1 h with h|h
   ·subst h;omega
   ·have:=zqo m r (i+1) x h;omega
  ·have:=zqo m r (i+1) x h;omega
theorem zAU{m:zD}{zs:List Zon}{ss:List Sgn}(hf:zmq m zs ss)(r:List Int)(len:Int)(b:zk)(hb:VB m b)(tick:Int)(signals:Bool):R L Cs zgV [.a (zh m r len),.a (ze b),W tick,Bo signals] [] =
  some (.t [.a (ze (zdC m (zeA zs ss b.lane tick) b signals (decide (b.lane∈zbK m 0 m.jc)))),Bo (decide ((zdC m (zeA zs ss b.lane tick) b signals (decide (b.lane∈zbK m 0 m.jc))).lo<=(zdC m (zeA zs ss b.lane tick) b signals (decide (b.lane∈zbK m 0 m.jc))).hi))],[]):=by
 have h:=hf.qF;have ho:=zqQ h hb;have hle:=zyu h hb (decide (b.lane∈zbK m 0 m.jc)) (zeA zs ss b.lane tick);obtain⟨n,hn0⟩:=js hb.lane.1;have hn:n<m.jc.length:=by have:=hb.lane.2;omega
 have hk:=h.kind _ (je hn);have hB:=zmo hk;have ek:zaK m b.lane=m.jc[n].kind:=by rw[hn0];simp[zaK,hn]
 have a1:=hb.lo;have a2:=hb.le;have a4:=hb.vlo;have a5:=hb.vle;have a6:=hb.vhi;have ht:=ho.t;have hp:=ho.pos;have hs:=ho.s;have hff:=ho.f;have hst:=ho.st;have w1:IntKind.i64.wrap (b.vlo-zd4 m.jc[n].kind)=b.vlo-zd4 m.jc[n].kind:=by rw[ek]at ht a6;exact zTd _ (by omega) (by omega)
 have w2:IntKind.i64.wrap (b.vhi+zif m.jc[n].kind)=b.vhi+zif m.jc[n].kind:=by rw[ek]at ht a6;exact zTd _ (by omega) (by omega)
 have e1:max 0 (b.vlo-zd4 m.jc[n].kind)=zcW m b:=by rw[zcW,ek]
 have e2:min (zeR m.jc[n].kind) (b.vhi+zif m.jc[n].kind)=zde m b:=by rw[zde,ek]
 have w3:=kg (b.lo+zcW m b);have w4:=kg (b.hi+zde m b);have hsrc:(zkj (List.replicate m.jc.length false) (zbK m 0 m.jc))[n]?=some (decide (b.lane∈zbK m 0 m.jc)):=by
  have hl:n<(zkj (List.replicate m.jc.length false) (zbK m 0 m.jc)).length:=by rw[znN];simpa using hn
  have:=zqp (zbK m 0 m.jc) (List.replicate m.jc.length false) n (by simpa using hn) (fun x hx=>(zqo m m.jc 0 x hx).1);rw[jq hl];simp only[jm,jq hl,uc]at this;rw[this,hn0];simp[hn]
 have hsl:n<(zkj (List.replicate m.jc.length false) (zbK m 0 m.jc)).length:=(jW.1 hsrc).1;have hsg:(zkj (List.replicate m.jc.length false) (zbK m 0 m.jc))[n]=decide (b.lane∈zbK m 0 m.jc):=(jW.1 hsrc).2;have BF:=fun l hl=>zuT hf (lane:=b.lane) (tick:=tick) (l:=l) hl
 have hrl:=zqK zs ss b.lane tick;have hzf:=hf.zd.few;have hln:=zcX h hb.lane;have hR:=zBW hf b.lane tick;have hS:=zBV b.vhi (zd4 m.jc[n].kind) (by omega) (by rw[ek]at ht;omega);have w5:IntKind.i64.wrap (b.hi+zet b.vhi (zd4 m.jc[n].kind))=b.hi+zet b.vhi (zd4 m.jc[n].kind):=by rw[ek]at hst;exact zTd _ (by omega) (by omega)
 generalize hsrcE:decide (b.lane∈zbK m 0 m.jc)=src at *;rw[zUa zlx rfl];cases signals with
 |false =>
  have hb1:decide ((zdC m (zeA zs ss b.lane tick) b false src).lo<=(zdC m (zeA zs ss b.lane tick) b false src).hi)=true:=by simpa using hle
  rw[hb1];by_cases c:b.lo=0
  ·cases src with
   |true=>simp[za9,zh,zi,zo,ze,hn0,hn,hB,w1,w2,e1,e2,w3,w4,hsg,hsl,c,zdC]
   |false =>
    rw[c,uI]at w3;simp[za9,zh,zi,zo,ze,hn0,hn,hB,w1,w2,e1,e2,w3,w4,hsg,hsl,c,zdC]
  ·have c':(b.lo==0)=false:=by simp[c]
   simp[za9,zh,zi,zo,ze,hn0,hn,hB,w1,w2,e1,e2,w3,w4,hsg,hsl,c,c',zdC]
 |true =>
  rw[ek]at hst;have hmv:zdC m (zeA zs ss b.lane tick) b true src=zpT m b ⟨b.lane,if src=true/\b.lo=0 then 0 else b.lo+zcW m b,b.hi+zde m b,zcW m b,zde m b,0⟩ (zeA zs ss b.lane tick):=by
   simp only[zdC,zpT,if_true];cases (zeA zs ss b.lane tick).find? (zcY m b)<;>rfl
  have Ax:=fun x v=>zwF (m:=m) r len b x z9 v ⟨by omega,by omega,by omega,by omega⟩ (zeA zs ss b.lane tick) (fun l hl=>by have:=BF l hl;omega) (by omega) (zeA zs ss b.lane tick) 0 rfl (jt _)
  rw[hmv];generalize zeA zs ss b.lane tick=red at *;rw[hn0]at hR;simp only[zf]at hR;by_cases c:b.lo=0
  ·cases src with
   |true =>
    obtain⟨E,v',h1,h2,h3⟩:=Ax ⟨b.lane,0,b.hi+zde m b,zcW m b,zde m b,0⟩ 7;have hx:(if true=true/\b.lo=0 then 0 else b.lo+zcW m b)=0:=if_pos ⟨rfl,c⟩;rw[hx];generalize zpT m b ⟨b.lane,0,b.hi+zde m b,zcW m b,zde m b,0⟩ red=y at *;rw[ek]at h1;simp only[jg,zh,zi,ze,hn0,c]at h1;simp[za9,zh,zi,zo,ze,zf,hn0,hn,hB,w1,w2,e1,e2,w3,w4,w5,hsg,hsl,c,hR,hS,h1,h2,h3]
   |false =>
    obtain⟨E,v',h1,h2,h3⟩:=Ax ⟨b.lane,b.lo+zcW m b,b.hi+zde m b,zcW m b,zde m b,0⟩ 6;have hx:(if false=true/\b.lo=0 then 0 else b.lo+zcW m b)=b.lo+zcW m b:=if_neg (fun h=>by cases h.1);rw[hx];generalize zpT m b ⟨b.lane,b.lo+zcW m b,b.hi+zde m b,zcW m b,zde m b,0⟩ red=y at *;rw[ek]at h1;simp only[jg,zh,zi,ze,hn0,c,uI]at h1;rw[c,uI]at w3;simp[za9,zh,zi,zo,ze,zf,hn0,hn,hB,w1,w2,e1,e2,w3,w4,w5,hsg,hsl,c,hR,hS,h1,h2,h3]
  ·have c':(b.lo==0)=false:=by simp[c]
   obtain⟨E,v',h1,h2,h3⟩:=Ax ⟨b.lane,b.lo+zcW m b,b.hi+zde m b,zcW m b,zde m b,0⟩ 6;have hx:(if src=true/\b.lo=0 then 0 else b.lo+zcW m b)=b.lo+zcW m b:=if_neg (fun h=>c h.2);rw[hx];generalize zpT m b ⟨b.lane,b.lo+zcW m b,b.hi+zde m b,zcW m b,zde m b,0⟩ red=y at *;rw[ek]at h1;simp only[jg,zh,zi,ze,hn0]at h1;simp[za9,zh,zi,zo,ze,zf,hn0,hn,hB,w1,w2,e1,e2,w3,w4,w5,hsg,hsl,c,c',hR,hS,h1,h2,h3]
theorem zuQ{m:zD}(h:zcp m)(b:zk)(hb:VB m b)(z:zk)(src:Bool)(red:List Int)(BF:∀l∈red,-1000000000<=l/\l<=1000000000)(hlen:red.length<=1000):∀(j:Nat) (L0:Int),j<=red.length->∃i',
  Y L Cs zaW (some [15,17,3,10,4,13,12,14,6,16]) 3 [(15,.w (W L0)),(17,.w (W ((j:Int)-1))),(3,.w (Bo true)),(10,.w (Pt 2)),(4,.w (Bo src)),(13,.w (W (zif (zaK m b.lane)))),(12,.w (W (zeR (zaK m b.lane)))),(14,.w (W (zd4 (zaK m b.lane)))),(6,.w (Pt 1)),(16,.w (.c (.jb (zu red))))] [bx 5 (zf m),bx 6 (ze b),bx 6 (ze z)] =
    some (.exit 0,[(43,.w (Bo false)),(15,.w (W (((red.take j).find? (zcY m b)).getD L0))),(17,.w (W i')),(3,.w (Bo true)),(10,.w (Pt 2)),(4,.w (Bo src)),(13,.w (W (zif (zaK m b.lane)))),(12,.w (W (zeR (zaK m b.lane)))),(14,.w (W (zd4 (zaK m b.lane)))),(6,.w (Pt 1)),(16,.w (.c (.jb (zu red))))],[bx 5 (zf m),bx 6 (ze b),bx 6 (ze z)]):=by
 have ho:=zqQ h hb;have hp:=ho.pos;have ht:=ho.t;have hst:=ho.st;have a4:=hb.vlo;have a5:=hb.vle;have a6:=hb.vhi;have a2:=hb.le;have a1:=hb.lo;have hS:=zBX b.vhi (zd4 (zaK m b.lane)) (by omega) (by omega);have wS:=kg (b.hi+zet b.vhi (zd4 (zaK m b.lane)));intro j;induction j with
 |zero =>
  intro L0 hj;refine⟨-1,?_⟩;rw[zj zaW.eq_1];simp
 |succ j ih =>
  intro L0 hj;have hjl:j<red.length:=by omega
  have hlb:=BF red[j] (je hjl);have ht1:red.take (j+1)=red.take j++[red[j]]:=by rw[vj hjl]
  obtain⟨i',hi'⟩:=ih (if zcY m b red[j]=true then red[j] else L0) (by omega);refine⟨i',?_⟩;have er:((red.take (j+1)).find? (zcY m b)).getD L0=((red.take j).find? (zcY m b)).getD (if zcY m b red[j]=true then red[j] else L0):=by
   rw[ht1,List.find?_append];cases (red.take j).find? (zcY m b)with
   |some l=>rfl
   |none =>
    simp only[Option.none_or,List.find?_cons,List.find?_nil];cases zcY m b red[j]<;>simp
  rw[er,<-hi',zj zaW.eq_1];clear ih hi' er;have e0:((j+1:Nat):Int)-1=(j:Int):=by omega
  have w0:=kg ((j:Int)-1);rw[e0];by_cases c1:b.hi<red[j]
  ·by_cases c2:b.hi+zet b.vhi (zd4 (zaK m b.lane))<red[j]
   ·have c:zcY m b red[j]=true:=by simp[zcY,c1,c2]
    rw[c];simp[hjl,w0,c1,c2,hS,wS,ze]
   ·by_cases c3:b.hold=0
    ·have c:zcY m b red[j]=false:=by simp[zcY,c1,c2,c3]
     rw[c];simp[hjl,w0,c1,c2,c3,hS,wS,ze]
    ·have c3':(b.hold !=0)=true:=by simp[c3]
     by_cases c4:b.hold<=red[j]
     ·have c:zcY m b red[j]=true:=by simp[zcY,c1,c2,c3,c4]
      rw[c];simp[hjl,w0,c1,c2,c3,c3',c4,hS,wS,ze]
     ·have c:zcY m b red[j]=false:=by simp[zcY,c1,c2,c3,c4]
      rw[c];simp[hjl,w0,c1,c2,c3,c3',c4,hS,wS,ze]
  ·have c:zcY m b red[j]=false:=by simp[zcY,c1]
   rw[c];simp[hjl,w0,c1,ze]
theorem zws{m:zD}(b z:zk)(src:Bool)(red:List Int)(hlen:red.length<=1000)(i u v w:Int) :
  Y L Cs zaW (some [15,17,3,10,4,13,12,14,6,16]) 3 [(15,.w (W 0)),(17,.w (W i)),(3,.w (Bo false)),(10,.w (Pt 2)),(4,.w (Bo src)),(13,.w (W u)),(12,.w (W v)),(14,.w (W w)),(6,.w (Pt 1)),(16,.w (.c (.jb (zu red))))] [bx 5 (zf m),bx 6 (ze b),bx 6 (ze z)] =
    some (.exit 0,[(43,.w (Bo false)),(15,.w (W 0)),(17,.w (W i)),(3,.w (Bo false)),(10,.w (Pt 2)),(4,.w (Bo src)),(13,.w (W u)),(12,.w (W v)),(14,.w (W w)),(6,.w (Pt 1)),(16,.w (.c (.jb (zu red))))],[bx 5 (zf m),bx 6 (ze b),bx 6 (ze z)]):=by
 rw[zj zaW.eq_1];by_cases c:0<=i<;>simp[c]
theorem zAS{m:zD}{zs:List Zon}{ss:List Sgn}(hf:zmq m zs ss)(b:zk)(hb:VB m b)(tick:Int)(signals src:Bool):R L Cs zgA [.a (zf m),.a (ze b),W tick,Bo signals,Bo src] [] =
  some (.t [.a (ze (zdC m (zeA zs ss b.lane tick) b signals src)),Bo (decide ((zdC m (zeA zs ss b.lane tick) b signals src).lo<=(zdC m (zeA zs ss b.lane tick) b signals src).hi))],[]):=by
 have h:=hf.qF;have ho:=zqQ h hb;obtain⟨n,hn0⟩:=js hb.lane.1;have hn:n<m.jc.length:=by have:=hb.lane.2;omega
 have hk:=h.kind _ (je hn);have hB:=zhv hk;have ek:zaK m b.lane=m.jc[n].kind:=by rw[hn0];simp[zaK,hn]
 have a1:=hb.lo;have a2:=hb.le;have a4:=hb.vlo;have a5:=hb.vle;have a6:=hb.vhi;have ht:=ho.t;have hp:=ho.pos;have hs:=ho.s;have hff:=ho.f;have w1:IntKind.i64.wrap (b.vlo-zd4 m.jc[n].kind)=b.vlo-zd4 m.jc[n].kind:=by rw[ek]at ht a6;exact zTd _ (by omega) (by omega)
 have w2:IntKind.i64.wrap (b.vhi+zif m.jc[n].kind)=b.vhi+zif m.jc[n].kind:=by rw[ek]at ht a6;exact zTd _ (by omega) (by omega)
 have e1:max 0 (b.vlo-zd4 m.jc[n].kind)=zcW m b:=by rw[zcW,ek]
 have e2:min (zeR m.jc[n].kind) (b.vhi+zif m.jc[n].kind)=zde m b:=by rw[zde,ek]
 have w3:=kg (b.lo+zcW m b);have w4:=kg (b.hi+zde m b);have BF:=fun l hl=>zuT hf (lane:=b.lane) (tick:=tick) (l:=l) hl
 have hrl:=zqK zs ss b.lane tick;have hzf:=hf.zd.few;have hln:=zcX h hb.lane;have hR:=zy9 hf b.lane tick;have hmv:∀l:Int,(l=0/\(if signals then(zeA zs ss b.lane tick).find? (zcY m b) else none)=none)\/(0<l/\l<=1000000/\(if signals then(zeA zs ss b.lane tick).find? (zcY m b) else none)=some l)->zdC m (zeA zs ss b.lane tick) b signals src=⟨b.lane,if src=true/\b.lo=0 then 0 else b.lo+zcW m b,if 0<l then min (b.hi+zde m b) (l-1) else b.hi+zde m b,zcW m b,zde m b,l⟩:=by
  rintro l (⟨rfl,e⟩ |⟨hl,_,e⟩)
  ·simp[zdC,e]
  ·simp[zdC,e,hl]
 have hline:∃(l i':Int) (E0:Int),Y L Cs zaW (some [15,17,3,10,4,13,12,14,6,16]) 3 [(15,.w (W 0)),(17,.w (W (((zeA zs ss b.lane tick).length:Int)-1))),(3,.w (Bo signals)),(10,.w (Pt 2)),(4,.w (Bo src)),(13,.w (W (zif (zaK m b.lane)))),(12,.w (W (zeR (zaK m b.lane)))),(14,.w (W (zd4 (zaK m b.lane)))),(6,.w (Pt 1)),(16,.w (.c (.jb (zu (zeA zs ss b.lane tick)))))] [bx 5 (zf m),bx 6 (ze b),bx 6 (ze z9)] =
   some (.exit 0,[(43,.w (Bo false)),(15,.w (W l)),(17,.w (W i')),(3,.w (Bo signals)),(10,.w (Pt 2)),(4,.w (Bo src)),(13,.w (W (zif (zaK m b.lane)))),(12,.w (W (zeR (zaK m b.lane)))),(14,.w (W (zd4 (zaK m b.lane)))),(6,.w (Pt 1)),(16,.w (.c (.jb (zu (zeA zs ss b.lane tick)))))],[bx 5 (zf m),bx 6 (ze b),bx 6 (ze z9)])/\((l=0/\(if signals then(zeA zs ss b.lane tick).find? (zcY m b) else none)=none)\/(0<l/\l<=1000000/\(if signals then(zeA zs ss b.lane tick).find? (zcY m b) else none)=some l)):=by
  cases signals with
  |false=>exact⟨0,_,0,zws b z9 src _ (by omega) _ _ _ _,.inl ⟨rfl,rfl⟩⟩
  |true =>
   obtain⟨i',hi'⟩:=zuQ h b hb z9 src (zeA zs ss b.lane tick) (fun l hl=>by have:=BF l hl;omega) (by omega) (zeA zs ss b.lane tick).length 0 (jo _);rw[vM]at hi';refine⟨_,i',0,hi',?_⟩;cases hq:(zeA zs ss b.lane tick).find? (zcY m b)with
   |none=>exact .inl ⟨rfl,rfl⟩
   |some l =>
    have h1:=uo hq;have h2:=BF l (kY hq);unfold zcY at h1;simp at h1;exact .inr ⟨by simp;omega,by simp;omega,rfl⟩
 obtain⟨l,i',_,hY,hl⟩:=hline;have hm:=hmv l hl;have hlb:0<=l/\l<=1000000:=by rcases hl with⟨h,_⟩ |⟨h,h',_⟩<;>omega
 rw[hm];clear hm hmv hl;have wl:=kg (l-1);have wr:=kg (((zeA zs ss b.lane tick).length:Int)-1);rw[ek]at hY;generalize zeA zs ss b.lane tick=red at *;rw[hn0]at hR;simp only[zf,ze,hn0]at hR hY;rw[zUa zk2 rfl];by_cases c:b.lo=0
 ·have cb:(b.lo==0)=true:=by simp[c]
  rw[c,uI]at w3;rw[c]at hY;cases src with
  |true=>by_cases d:0<l<;>simp[zbQ,zo,ze,zf,hn0,hn,hB,w1,w2,e1,e2,w3,w4,c,hR,hY,d,wl,wr]
  |false=>by_cases d:0<l<;>simp[zbQ,zo,ze,zf,hn0,hn,hB,w1,w2,e1,e2,w3,w4,c,hR,hY,d,wl,wr]
 ·have c':(b.lo==0)=false:=by simp[c]
  cases src with
  |true=>by_cases d:0<l<;>simp[zbQ,zo,ze,zf,hn0,hn,hB,w1,w2,e1,e2,w3,w4,c,c',hR,hY,d,wl,wr]
  |false=>by_cases d:0<l<;>simp[zbQ,zo,ze,zf,hn0,hn,hB,w1,w2,e1,e2,w3,w4,c,c',hR,hY,d,wl,wr]
def zgo(l:List Int)(x:Int):Option Nat:=l.findIdx? fun y=>decide (y=x)
theorem zfT{l:List Int}{x:Int}{i:Nat}(h:zgo l x=some i):∃hi:i<l.length,l[i]=x:=by
 obtain⟨h1,h2,_⟩:=jQ.1 h;exact⟨h1,by simpa using h2⟩
theorem zoq(l:List Int)(x:Int)(hl:l.length<=100000):R L Cs zf1 [.c (.jb (zu l)),W x] []=some (.w (W (zbe (zgo l x))),[]):=by
 obtain⟨h1,h2⟩:=zpv l x hl l 0 rfl (jt _);simp only[jg]at h1 h2;by_cases h:x∈l
 ·obtain⟨k,hk,hk1,hk2⟩:=h2 h;obtain⟨hkl,hkx⟩:=jW.1 hk1;have e:zgo l x=some k:=by
   refine jQ.2 ⟨hkl,by simp[hkx],fun j hj=>?_⟩;have:=hk2 j (jt _) hj;rw[jq (by omega)]at this;simpa using this
  rw[e,zUa zeL rfl];simp[zcI,hk,zbe]
 ·obtain⟨E',hE⟩:=h1 h;have e:zgo l x=none:=kh.2 fun y hy=>by
   have:y≠x:=fun e=>h (e ▸ hy)
   simp[this]
  rw[e,zUa zeL rfl];simp[zcI,hE,zbe]
def ki(m:zD)(r:List Int)(i:Nat):Int:=(zW m 0 r).getD i 0
def zcV(r:List Int)(lane:Int)(cap:Bool):Bool:=cap&&(zgo r lane).isSome
def zcj(m:zD)(r:List Int)(bar lane hi:Int)(cap:Bool):Int:=match zgo r lane with
 |some i=>if cap then min hi (min (z8 m lane) (bar-ki m r i)) else min hi (z8 m lane)
 |none=>min hi (z8 m lane)
abbrev LB:=zk×Bool
def lbC(x:LB):List Cl:=[I x.1.lane,I x.1.lo,I x.1.hi,I x.1.vlo,I x.1.vhi,I x.1.hold,.bool x.2]
def zdz(l:List LB):List (List Cl):=l.map lbC
@[simp] theorem zx8(l:List LB):(zdz l).length=l.length:=by simp[zdz]
@[simp] theorem zgf:zdz []=[]:=rfl
@[simp] theorem zfd(x:LB)(l:List LB):zdz (x::l)=lbC x::zdz l:=rfl
@[simp] theorem zx9(l k:List LB):zdz (l++k)=zdz l++zdz k:=by simp[zdz]
@[simp] theorem zBc{l:List LB}{i:Nat}(h:i<(zdz l).length):(zdz l)[i]=lbC (l[i]'(by simpa using h)):=by simp[zdz]
@[simp] theorem zCs(l:List LB):(zdz l).take l.length=zdz l:=jG (by simp)
def zhO(m:zD)(r:List Int)(bar:Int)(b:zk)(lo hi:Int)(cap:Bool):zk:=⟨b.lane,max 0 lo,zcj m r bar b.lane hi cap,b.vlo,b.vhi,b.hold⟩
def stays(m:zD)(r:List Int)(bar:Int)(b:zk)(lo hi:Int)(cap:Bool):Bool:=decide (lo<=z8 m b.lane)&&decide (max 0 lo<=zcj m r bar b.lane hi cap)
def zbA(m:zD)(r:List Int)(bar:Int)(b:zk)(lo hi:Int)(cap:Bool):List LB :=
 if stays m r bar b lo hi cap=true then [(zhO m r bar b lo hi cap,zcV r b.lane cap)] else []
def zm(m:zD)(r:List Int)(len bar:Int)(e:Ego):List Cl:=zh m r len++[I bar,I e.slo,I e.shi,I e.vlo,I e.vhi]
abbrev zbt(j:Nat):Option Blk:=some { box:=true,esz:=1,rows:=[[.fn zcg [] [.ptr 0 0 0 0,.ptr 1 0 0 0,.ptr j 0 0 0]]],gen:=0,fz:=false,ver:=1 }
structure ziO(m:zD)(r:List Int)(bar:Int):Prop where
 qF:zcp m
 len:r.length<=8
 on:zj2 m r
 bar:-4000000000000<=bar/\bar<=4000000000000
theorem zqm{m:zD}(h:zcp m):∀(r:List Int),zj2 m r->∀(a:Int) (i:Nat),0<=a->i<r.length->a<=(zW m a r).getD i 0/\(zW m a r).getD i 0<=a+1000000*i
 |[],_,a,i,_,hi=>by simp at hi
 |x::r,hon,a,0,ha,_=>by simp[zW]
 |x::r,hon,a,i+1,ha,hi=>by
  have hx:=zcX h (hon x (jr ..));have:=zqm h r (fun y hy=>hon y (jv _ hy)) (a+z8 m x) i (by omega) (by simpa using hi);simp only[zW,List.getD_cons_succ];omega
theorem zmA{m:zD}{r:List Int}{bar:Int}(h:ziO m r bar){i:Nat}(hi:i<r.length):0<=ki m r i/\ki m r i<=8000000:=by
 have:=zqm h.qF r h.on 0 i (qs _) hi;have h8:=h.len;unfold ki;omega
theorem zz6{m:zD}{r:List Int}{bar:Int}(h:ziO m r bar)(len:Int)(e:Ego)(b:zk)(hb:0<=b.lane/\b.lane<m.jc.length)(hn:zS m b.lane=[])(lo hi:Int)(hlo:-100000000<=lo/\lo<=100000000)(hhi:-100000000<=hi/\hi<=100000000)(cap:Bool)(l:List LB)(hl:l.length<=1000)(v:Nat) :
  R L Cs zcg [.a (ze b),W lo,W hi,Bo cap,Pt 0,Pt 1,Pt 3] [bx 16 (zm m r len bar e),bxv v 1 [.slice 2 l.length 7 0 l.length none],some (own 7 (zdz l)),zbt 3] =
    some (.t [],[bx 16 (zm m r len bar e),bxv (if stays m r bar b lo hi cap=true then v+1 else v) 1 [.slice 2 (l++zbA m r bar b lo hi cap).length 7 0 (l++zbA m r bar b lo hi cap).length none],some (own 7 (zdz (l++zbA m r bar b lo hi cap))),zbt 3]):=by
 obtain⟨n,hn0⟩:=js hb.1;have hnl:n<m.jc.length:=by omega
 have hI:=zoq r b.lane (by have:=h.len;omega);have hlen:=zcX h.qF hb;have el:z8 m b.lane=m.jc[n].len:=by rw[hn0];simp[z8,hnl]
 have en:m.jc[n].next=[]:=by rw[<-hn,hn0];simp[zS,hnl]
 have hY:∀(n0:Nat) (a c d e1 f g q s u1:AV) (M:Mem),Y L Cs zU (some [89,88,87,7,12,4,6,1,2,11,3]) n0 [(89,.w (W 0)),(88,.w (W 0)),(87,a),(7,c),(12,d),(4,e1),(6,f),(1,g),(2,q),(11,s),(3,u1)] M=some (.exit 0,[(90,.w (Bo false)),(89,.w (W 0)),(88,.w (W 0)),(87,a),(7,c),(12,d),(4,e1),(6,f),(1,g),(2,q),(11,s),(3,u1)],M):=by
  intro n0 a c d e1 f g q s u1 M;rw[zj zU.eq_1];simp
 have hrm:(l.length+1)*56<=140737488355328:=by omega
 rw[el]at hlen;cases hix:zgo r b.lane with
 |none =>
  rw[hix]at hI;simp only[hn0,zbe]at hI;cases cap with
  |true =>
   have ec:zcV r b.lane true=false:=by simp[zcV,hix]
   have et:zcj m r bar b.lane hi true=min hi m.jc[n].len:=by simp[zcj,hix,el]
   unfold zbA stays zhO;rw[ec,et,el,zUa zam rfl];by_cases d1:lo<=m.jc[n].len
   ·by_cases d2:max 0 lo<=min hi m.jc[n].len
    ·by_cases d3:hi<m.jc[n].len
     ·simp[za,zm,zh,zi,ze,zo,hn0,hnl,hI,d1,d2,d3,hrm,en,hY,lbC,zg,zr]
     ·simp[za,zm,zh,zi,ze,zo,hn0,hnl,hI,d1,d2,d3,hrm,en,hY,lbC,zg,zr]
    ·by_cases d3:hi<m.jc[n].len
     ·simp[za,zm,zh,zi,ze,zo,hn0,hnl,hI,d1,d2,d3,hrm,en,hY,lbC,zg,zr]
     ·simp[za,zm,zh,zi,ze,zo,hn0,hnl,hI,d1,d2,d3,hrm,en,hY,lbC,zg,zr]
   ·by_cases d3:hi<m.jc[n].len
    ·simp[za,zm,zh,zi,ze,zo,hn0,hnl,hI,d1,d3,hrm,en,hY,lbC,zg,zr]
    ·simp[za,zm,zh,zi,ze,zo,hn0,hnl,hI,d1,d3,hrm,en,hY,lbC,zg,zr]
  |false =>
   have ec:zcV r b.lane false=false:=by simp[zcV,hix]
   have et:zcj m r bar b.lane hi false=min hi m.jc[n].len:=by simp[zcj,hix,el]
   unfold zbA stays zhO;rw[ec,et,el,zUa zam rfl];by_cases d1:lo<=m.jc[n].len
   ·by_cases d2:max 0 lo<=min hi m.jc[n].len
    ·by_cases d3:hi<m.jc[n].len
     ·simp[za,zm,zh,zi,ze,zo,hn0,hnl,hI,d1,d2,d3,hrm,en,hY,lbC,zg,zr]
     ·simp[za,zm,zh,zi,ze,zo,hn0,hnl,hI,d1,d2,d3,hrm,en,hY,lbC,zg,zr]
    ·by_cases d3:hi<m.jc[n].len
     ·simp[za,zm,zh,zi,ze,zo,hn0,hnl,hI,d1,d2,d3,hrm,en,hY,lbC,zg,zr]
     ·simp[za,zm,zh,zi,ze,zo,hn0,hnl,hI,d1,d2,d3,hrm,en,hY,lbC,zg,zr]
   ·by_cases d3:hi<m.jc[n].len
    ·simp[za,zm,zh,zi,ze,zo,hn0,hnl,hI,d1,d3,hrm,en,hY,lbC,zg,zr]
    ·simp[za,zm,zh,zi,ze,zo,hn0,hnl,hI,d1,d3,hrm,en,hY,lbC,zg,zr]
 |some i =>
  obtain⟨hil,_⟩:=zfT hix;have hsb:=zmA h hil;have BW:=h.bar;have wS:=kg (bar-ki m r i);have hsl:i<(zW m 0 r).length:=by rw[zcO];exact hil
  have hsi:(zW m 0 r)[i]=ki m r i:=by simp[ki,hsl]
  rw[hix]at hI;simp only[hn0,zbe]at hI;cases cap with
  |true =>
   have ec:zcV r b.lane true=true:=by simp[zcV,hix]
   have et:zcj m r bar b.lane hi true=min hi (min m.jc[n].len (bar-ki m r i)):=by simp[zcj,hix,el]
   unfold zbA stays zhO;rw[ec,et,el,zUa zam rfl];by_cases d1:lo<=m.jc[n].len
   ·by_cases d2:max 0 lo<=min hi (min m.jc[n].len (bar-ki m r i))
    ·by_cases d3:hi<m.jc[n].len
     ·simp[za,zm,zh,zi,ze,zo,hn0,hnl,hI,hil,hsl,hsi,wS,d1,d2,d3,hrm,en,hY,lbC,zg,zr]
     ·simp[za,zm,zh,zi,ze,zo,hn0,hnl,hI,hil,hsl,hsi,wS,d1,d2,d3,hrm,en,hY,lbC,zg,zr]
    ·by_cases d3:hi<m.jc[n].len
     ·simp[za,zm,zh,zi,ze,zo,hn0,hnl,hI,hil,hsl,hsi,wS,d1,d2,d3,hrm,en,hY,lbC,zg,zr]
     ·simp[za,zm,zh,zi,ze,zo,hn0,hnl,hI,hil,hsl,hsi,wS,d1,d2,d3,hrm,en,hY,lbC,zg,zr]
   ·by_cases d3:hi<m.jc[n].len
    ·simp[za,zm,zh,zi,ze,zo,hn0,hnl,hI,hil,hsl,hsi,wS,d1,d3,hrm,en,hY,lbC,zg,zr]
    ·simp[za,zm,zh,zi,ze,zo,hn0,hnl,hI,hil,hsl,hsi,wS,d1,d3,hrm,en,hY,lbC,zg,zr]
  |false =>
   have ec:zcV r b.lane false=false:=by simp[zcV,hix]
   have et:zcj m r bar b.lane hi false=min hi m.jc[n].len:=by simp[zcj,hix,el]
   unfold zbA stays zhO;rw[ec,et,el,zUa zam rfl];by_cases d1:lo<=m.jc[n].len
   ·by_cases d2:max 0 lo<=min hi m.jc[n].len
    ·by_cases d3:hi<m.jc[n].len
     ·simp[za,zm,zh,zi,ze,zo,hn0,hnl,hI,hil,hsl,hsi,wS,d1,d2,d3,hrm,en,hY,lbC,zg,zr]
     ·simp[za,zm,zh,zi,ze,zo,hn0,hnl,hI,hil,hsl,hsi,wS,d1,d2,d3,hrm,en,hY,lbC,zg,zr]
    ·by_cases d3:hi<m.jc[n].len
     ·simp[za,zm,zh,zi,ze,zo,hn0,hnl,hI,hil,hsl,hsi,wS,d1,d2,d3,hrm,en,hY,lbC,zg,zr]
     ·simp[za,zm,zh,zi,ze,zo,hn0,hnl,hI,hil,hsl,hsi,wS,d1,d2,d3,hrm,en,hY,lbC,zg,zr]
   ·by_cases d3:hi<m.jc[n].len
    ·simp[za,zm,zh,zi,ze,zo,hn0,hnl,hI,hil,hsl,hsi,wS,d1,d3,hrm,en,hY,lbC,zg,zr]
    ·simp[za,zm,zh,zi,ze,zo,hn0,hnl,hI,hil,hsl,hsi,wS,d1,d3,hrm,en,hY,lbC,zg,zr]
def zbi(r:List Int)(lane x:Int):Bool:=match zgo r lane,zgo r x with
 |some i,some j=>decide (j=i+1)
 |_,_=>false
def zb2(m:zD)(r:List Int)(slo lane x:Int):Bool:=match zgo r x with
 |some j=>!zbi r lane x&&decide (ki m r j<=slo)
 |none=>false
def zhq(m:zD)(r:List Int)(slo lane x:Int)(cap:Bool):Bool:=(zbi r lane x&&zcV r lane cap)||zb2 m r slo lane x
def za6(b:zk)(x:Int):zk:=⟨x,b.lo,b.hi,b.vlo,b.vhi,0⟩
abbrev lyE(m:zD)(r:List Int)(b:zk)(lo hi:Int)(cap:Bool)(i:Nat):Env:=[(89,.w (W i)),(88,.w (W (zS m b.lane).length)),(87,.w (.c (.jb (zu (zS m b.lane))))),(7,.w (Pt 3)),(12,.w (W (zbe (zgo r b.lane)))),(4,.w (Pt 0)),(6,.w (Pt 2)),(1,.w (W lo)),(2,.w (W hi)),(11,.w (W (z8 m b.lane))),(3,.w (Bo (zcV r b.lane cap)))]
theorem zxc(l:List Int)(x:Int)(hl:l.length<=100000)(M:Mem):zx (R L Cs) ⟨true⟩ (.c (.fn zf1 [] [])) [.c (.jb (zu l)),W x] M=some (.w (W (zbe (zgo l x))),M,.no):=by
 have h:=zoq l x hl;simp[h]
theorem zqW{m:zD}{r:List Int}{bar:Int}(h:ziO m r bar)(len:Int)(e:Ego)(b:zk)(hb:0<=b.lane/\b.lane<m.jc.length)(lo hi:Int)(hlo:-100000000<=lo/\lo<=100000000)(hhi:-100000000<=hi/\hi<=100000000)(cap:Bool)(n0:Nat)(i:Nat)(hi1:i<(zS m b.lane).length)(hi2:i<1000)(O:Option Blk)(T M2:Mem)(fp:FP)
  (k7:zx (R L Cs) ⟨true⟩ (.c (.fn zcg [] [.ptr 0 0 0 0,.ptr 1 0 0 0,.ptr 2 0 0 0])) [.a (ze (za6 b (zS m b.lane)[i])),W (lo-z8 m b.lane),W (hi-z8 m b.lane),Bo (zhq m r e.slo b.lane (zS m b.lane)[i] cap)] (bx 16 (zm m r len bar e)::O::zbt 2::bx 6 (ze b)::(T++[bxv 3 6 (ze (za6 b (zS m b.lane)[i]))]))=some (.t [],M2,fp)) :
  Y L Cs zU (some [89,88,87,7,12,4,6,1,2,11,3]) n0 (lyE m r b lo hi cap i) (bx 16 (zm m r len bar e)::O::zbt 2::bx 6 (ze b)::T) =
    Y L Cs zU (some [89,88,87,7,12,4,6,1,2,11,3]) n0 (lyE m r b lo hi cap (i+1)) (j6 n0 (lyE m r b lo hi cap (i+1)) M2):=by
 have hlen:=zcX h.qF hb;have hw:=zB (i:=i) (by omega);have hI:=zxc r (zS m b.lane)[i] (by have:=h.len;omega);have w1:=kg (lo-z8 m b.lane);have w2:=kg (hi-z8 m b.lane);rw[zj zU.eq_1];generalize hx:(zS m b.lane)[i]=x at *;simp only[zm,zh,zi,ze,za6,jh,jf]at k7 ⊢;cases hL:zgo r b.lane with
 |none =>
  have hcT:zcV r b.lane cap=false:=by simp[zcV,hL]
  cases hX:zgo r x with
  |none =>
   rw[hX]at hI;simp only[zbe]at hI;have hc:zhq m r e.slo b.lane x cap=false:=by simp[zhq,zb2,zbi,zcV,hL,hX]
   rw[hc]at k7;simp[lyE,hi1,hx,hw,w1,w2,hI,zbe,zg,k7,hL,hcT,-zx,-j6]
  |some j =>
   obtain⟨hjl,_⟩:=zfT hX;have hsl:j<(zW m 0 r).length:=by rw[zcO];exact hjl
   have hsi:(zW m 0 r)[j]=ki m r j:=by simp[ki,hsl]
   rw[hX]at hI;simp only[zbe]at hI;by_cases d:ki m r j<=e.slo
   ·have hc:zhq m r e.slo b.lane x cap=true:=by simp[zhq,zb2,zbi,zcV,hL,hX,d]
    rw[hc]at k7;simp[lyE,hi1,hx,hw,w1,w2,hI,zbe,zg,k7,hL,hcT,hjl,hsl,hsi,d,-zx,-j6]
   ·have hc:zhq m r e.slo b.lane x cap=false:=by simp[zhq,zb2,zbi,zcV,hL,hX,d]
    rw[hc]at k7;simp[lyE,hi1,hx,hw,w1,w2,hI,zbe,zg,k7,hL,hcT,hjl,hsl,hsi,d,-zx,-j6]
 |some q =>
  obtain⟨hql,_⟩:=zfT hL;have hq8:=h.len;have hwq:IntKind.i64.wrap ((q:Int)+1)=((q+1:Nat):Int):=zB (by omega);have hcT:zcV r b.lane cap=cap:=by simp[zcV,hL]
  cases hX:zgo r x with
  |none =>
   rw[hX]at hI;simp only[zbe]at hI;have hne:((-1:Int)==((q:Int)+1))=false:=by simp;omega
   have hc:zhq m r e.slo b.lane x cap=false:=by simp[zhq,zb2,zbi,zcV,hL,hX]
   rw[hc]at k7;simp[lyE,hi1,hx,hw,w1,w2,hI,zbe,zg,k7,hL,hcT,hwq,hne,-zx,-j6]
  |some j =>
   obtain⟨hjl,_⟩:=zfT hX;have hsl:j<(zW m 0 r).length:=by rw[zcO];exact hjl
   have hsi:(zW m 0 r)[j]=ki m r j:=by simp[ki,hsl]
   rw[hX]at hI;simp only[zbe]at hI;by_cases f:j=q+1
   ·subst f;have hq0:(0:Int)<=(q:Int)+1:=by omega
    cases cap with
    |true =>
     have hc:zhq m r e.slo b.lane x true=true:=by simp[zhq,zb2,zbi,zcV,hL,hX]
     rw[hc]at k7;simp[lyE,hi1,hx,hw,w1,w2,hI,zbe,zg,k7,hL,hcT,hwq,hq0,-zx,-j6]
    |false =>
     have hc:zhq m r e.slo b.lane x false=false:=by simp[zhq,zb2,zbi,zcV,hL,hX]
     rw[hc]at k7;simp[lyE,hi1,hx,hw,w1,w2,hI,zbe,zg,k7,hL,hcT,hwq,hq0,-zx,-j6]
   ·have hne:((j:Int)==((q:Int)+1))=false:=by simp;omega
    by_cases d:ki m r j<=e.slo
    ·have hc:zhq m r e.slo b.lane x cap=true:=by simp[zhq,zb2,zbi,zcV,hL,hX,f,d]
     rw[hc]at k7;simp[lyE,hi1,hx,hw,w1,w2,hI,zbe,zg,k7,hL,hcT,hwq,hne,f,hjl,hsl,hsi,d,-zx,-j6]
    ·have hc:zhq m r e.slo b.lane x cap=false:=by simp[zhq,zb2,zbi,zcV,hL,hX,f,d]
     rw[hc]at k7;simp[lyE,hi1,hx,hw,w1,w2,hI,zbe,zg,k7,hL,hcT,hwq,hne,f,hjl,hsl,hsi,d,-zx,-j6]
abbrev zbT(x:LB):Option Blk:=some { box:=false,esz:=7,rows:=[lbC x],gen:=1,fz:=false,ver:=1 }
theorem zyJ{m:zD}{r:List Int}{bar:Int}(h:ziO m r bar)(len:Int)(e:Ego)(b:zk)(hb:0<=b.lane/\b.lane<m.jc.length)(hn:zS m b.lane=[])(lo hi:Int)(hlo:-100000000<=lo/\lo<=100000000)(hhi:-100000000<=hi/\hi<=100000000)(cap:Bool)(v:Nat) :
  R L Cs zcg [.a (ze b),W lo,W hi,Bo cap,Pt 0,Pt 1,Pt 2] [bx 16 (zm m r len bar e),bxv v 1 [.jd],zbt 2] =
    some (.t [],if stays m r bar b lo hi cap=true then [bx 16 (zm m r len bar e),bxv (v+1) 1 [.slice 3 1 7 0 1 none],zbt 2,zbT (zhO m r bar b lo hi cap,zcV r b.lane cap)] else [bx 16 (zm m r len bar e),bxv v 1 [.jd],zbt 2]):=by
 obtain⟨n,hn0⟩:=js hb.1;have hnl:n<m.jc.length:=by omega
 have hI:=zoq r b.lane (by have:=h.len;omega);have hlen:=zcX h.qF hb;have el:z8 m b.lane=m.jc[n].len:=by rw[hn0];simp[z8,hnl]
 have en:m.jc[n].next=[]:=by rw[<-hn,hn0];simp[zS,hnl]
 have hY:∀(n0:Nat) (a c d e1 f g q s u1:AV) (M:Mem),Y L Cs zU (some [89,88,87,7,12,4,6,1,2,11,3]) n0 [(89,.w (W 0)),(88,.w (W 0)),(87,a),(7,c),(12,d),(4,e1),(6,f),(1,g),(2,q),(11,s),(3,u1)] M=some (.exit 0,[(90,.w (Bo false)),(89,.w (W 0)),(88,.w (W 0)),(87,a),(7,c),(12,d),(4,e1),(6,f),(1,g),(2,q),(11,s),(3,u1)],M):=by
  intro n0 a c d e1 f g q s u1 M;rw[zj zU.eq_1];simp
 rw[el]at hlen;cases hix:zgo r b.lane with
 |none =>
  rw[hix]at hI;simp only[hn0,zbe]at hI;cases cap with
  |true =>
   have ec:zcV r b.lane true=false:=by simp[zcV,hix]
   have et:zcj m r bar b.lane hi true=min hi m.jc[n].len:=by simp[zcj,hix,el]
   unfold stays zhO;rw[ec,et,el,zUa zam rfl];by_cases d1:lo<=m.jc[n].len
   ·by_cases d2:max 0 lo<=min hi m.jc[n].len
    ·by_cases d3:hi<m.jc[n].len
     ·simp[za,zm,zh,zi,ze,zo,hn0,hnl,hI,d1,d2,d3,en,hY,lbC,zg,zr,List.range,List.range.loop]
     ·simp[za,zm,zh,zi,ze,zo,hn0,hnl,hI,d1,d2,d3,en,hY,lbC,zg,zr,List.range,List.range.loop]
    ·by_cases d3:hi<m.jc[n].len
     ·simp[za,zm,zh,zi,ze,zo,hn0,hnl,hI,d1,d2,d3,en,hY,lbC,zg,zr,List.range,List.range.loop]
     ·simp[za,zm,zh,zi,ze,zo,hn0,hnl,hI,d1,d2,d3,en,hY,lbC,zg,zr,List.range,List.range.loop]
   ·by_cases d3:hi<m.jc[n].len
    ·simp[za,zm,zh,zi,ze,zo,hn0,hnl,hI,d1,d3,en,hY,lbC,zg,zr,List.range,List.range.loop]
    ·simp[za,zm,zh,zi,ze,zo,hn0,hnl,hI,d1,d3,en,hY,lbC,zg,zr,List.range,List.range.loop]
  |false =>
   have ec:zcV r b.lane false=false:=by simp[zcV,hix]
   have et:zcj m r bar b.lane hi false=min hi m.jc[n].len:=by simp[zcj,hix,el]
   unfold stays zhO;rw[ec,et,el,zUa zam rfl];by_cases d1:lo<=m.jc[n].len
   ·by_cases d2:max 0 lo<=min hi m.jc[n].len
    ·by_cases d3:hi<m.jc[n].len
     ·simp[za,zm,zh,zi,ze,zo,hn0,hnl,hI,d1,d2,d3,en,hY,lbC,zg,zr,List.range,List.range.loop]
     ·simp[za,zm,zh,zi,ze,zo,hn0,hnl,hI,d1,d2,d3,en,hY,lbC,zg,zr,List.range,List.range.loop]
    ·by_cases d3:hi<m.jc[n].len
     ·simp[za,zm,zh,zi,ze,zo,hn0,hnl,hI,d1,d2,d3,en,hY,lbC,zg,zr,List.range,List.range.loop]
     ·simp[za,zm,zh,zi,ze,zo,hn0,hnl,hI,d1,d2,d3,en,hY,lbC,zg,zr,List.range,List.range.loop]
   ·by_cases d3:hi<m.jc[n].len
    ·simp[za,zm,zh,zi,ze,zo,hn0,hnl,hI,d1,d3,en,hY,lbC,zg,zr,List.range,List.range.loop]
    ·simp[za,zm,zh,zi,ze,zo,hn0,hnl,hI,d1,d3,en,hY,lbC,zg,zr,List.range,List.range.loop]
 |some i =>
  obtain⟨hil,_⟩:=zfT hix;have hsb:=zmA h hil;have BW:=h.bar;have wS:=kg (bar-ki m r i);have hsl:i<(zW m 0 r).length:=by rw[zcO];exact hil
  have hsi:(zW m 0 r)[i]=ki m r i:=by simp[ki,hsl]
  rw[hix]at hI;simp only[hn0,zbe]at hI;cases cap with
  |true =>
   have ec:zcV r b.lane true=true:=by simp[zcV,hix]
   have et:zcj m r bar b.lane hi true=min hi (min m.jc[n].len (bar-ki m r i)):=by simp[zcj,hix,el]
   unfold stays zhO;rw[ec,et,el,zUa zam rfl];by_cases d1:lo<=m.jc[n].len
   ·by_cases d2:max 0 lo<=min hi (min m.jc[n].len (bar-ki m r i))
    ·by_cases d3:hi<m.jc[n].len
     ·simp[za,zm,zh,zi,ze,zo,hn0,hnl,hI,hil,hsl,hsi,wS,d1,d2,d3,en,hY,lbC,zg,zr,List.range,List.range.loop]
     ·simp[za,zm,zh,zi,ze,zo,hn0,hnl,hI,hil,hsl,hsi,wS,d1,d2,d3,en,hY,lbC,zg,zr,List.range,List.range.loop]
    ·by_cases d3:hi<m.jc[n].len
     ·simp[za,zm,zh,zi,ze,zo,hn0,hnl,hI,hil,hsl,hsi,wS,d1,d2,d3,en,hY,lbC,zg,zr,List.range,List.range.loop]
     ·simp[za,zm,zh,zi,ze,zo,hn0,hnl,hI,hil,hsl,hsi,wS,d1,d2,d3,en,hY,lbC,zg,zr,List.range,List.range.loop]
   ·by_cases d3:hi<m.jc[n].len
    ·simp[za,zm,zh,zi,ze,zo,hn0,hnl,hI,hil,hsl,hsi,wS,d1,d3,en,hY,lbC,zg,zr,List.range,List.range.loop]
    ·simp[za,zm,zh,zi,ze,zo,hn0,hnl,hI,hil,hsl,hsi,wS,d1,d3,en,hY,lbC,zg,zr,List.range,List.range.loop]
  |false =>
   have ec:zcV r b.lane false=false:=by simp[zcV,hix]
   have et:zcj m r bar b.lane hi false=min hi m.jc[n].len:=by simp[zcj,hix,el]
   unfold stays zhO;rw[ec,et,el,zUa zam rfl];by_cases d1:lo<=m.jc[n].len
   ·by_cases d2:max 0 lo<=min hi m.jc[n].len
    ·by_cases d3:hi<m.jc[n].len
     ·simp[za,zm,zh,zi,ze,zo,hn0,hnl,hI,hil,hsl,hsi,wS,d1,d2,d3,en,hY,lbC,zg,zr,List.range,List.range.loop]
     ·simp[za,zm,zh,zi,ze,zo,hn0,hnl,hI,hil,hsl,hsi,wS,d1,d2,d3,en,hY,lbC,zg,zr,List.range,List.range.loop]
    ·by_cases d3:hi<m.jc[n].len
     ·simp[za,zm,zh,zi,ze,zo,hn0,hnl,hI,hil,hsl,hsi,wS,d1,d2,d3,en,hY,lbC,zg,zr,List.range,List.range.loop]
     ·simp[za,zm,zh,zi,ze,zo,hn0,hnl,hI,hil,hsl,hsi,wS,d1,d2,d3,en,hY,lbC,zg,zr,List.range,List.range.loop]
   ·by_cases d3:hi<m.jc[n].len
    ·simp[za,zm,zh,zi,ze,zo,hn0,hnl,hI,hil,hsl,hsi,wS,d1,d3,en,hY,lbC,zg,zr,List.range,List.range.loop]
    ·simp[za,zm,zh,zi,ze,zo,hn0,hnl,hI,hil,hsl,hsi,wS,d1,d3,en,hY,lbC,zg,zr,List.range,List.range.loop]
abbrev zDh:WV:=.c (.fn zcg [] [.ptr 0 0 0 0,.ptr 1 0 0 0,.ptr 2 0 0 0])
abbrev zba(v id:Nat)(l:List LB):Option Blk:=bxv v 1 [.slice id l.length 7 0 l.length none]
abbrev rwB(l:List LB):Option Blk:=some { box:=false,esz:=7,rows:=zdz l,gen:=l.length,fz:=false,ver:=l.length }
theorem zu8{m:zD}{r:List Int}{bar:Int}(h:ziO m r bar)(len:Int)(e:Ego)(x:zk)(hx:0<=x.lane/\x.lane<m.jc.length)(hn:zS m x.lane=[])(lo hi:Int)(hlo:-100000000<=lo/\lo<=100000000)(hhi:-100000000<=hi/\hi<=100000000)(cap:Bool)(l:List LB)(hl:l.length<=1000)(v:Nat)(B:Option Blk)(T:Mem)(k:Nat)(hk:k<T.length)(hT:T[k]?=some (rwB l)) :
  ∃v' fp,v<=v'/\zx (R L Cs) ⟨true⟩ zDh [.a (ze x),W lo,W hi,Bo cap] (bx 16 (zm m r len bar e)::zba v (k+4) l::zbt 2::B::T)=some (.t [],bx 16 (zm m r len bar e)::zba v' (k+4) (l++zbA m r bar x lo hi cap)::zbt 2::B::T.set k (rwB (l++zbA m r bar x lo hi cap)),fp):=by
 have hf:=zz6 h len e x hx hn lo hi hlo hhi cap l hl v;have hl16:(zm m r len bar e).length=16:=by simp[zm,zh,zi]
 simp only[zm,zh,zi,ze,jh,jf,own,zx8]at hf ⊢;by_cases c:stays m r bar x lo hi cap=true
 ·have ep:zbA m r bar x lo hi cap=[(zhO m r bar x lo hi cap,zcV r x.lane cap)]:=by rw[zbA,if_pos c]
  rw[if_pos c,ep]at hf;rw[ep];refine⟨v+1,.wr [(1,0,whole),(k+4,0,whole)],by omega,?_⟩;simp only[ju,jk,jp,zx9,zfd,zgf]at hf ⊢;simp[hf,hT,zr,rwB]
 ·have ep:zbA m r bar x lo hi cap=[]:=by rw[zbA,if_neg c]
  rw[if_neg c,ep,kT]at hf;rw[ep,kT];have Ba:T.set k (rwB l)=T:=by
   apply vn;intro j;by_cases hj:k=j
   ·subst hj;rw[kG hk,hT]
   ·rw[jE hj]
  rw[Ba];refine⟨v,.no,jo _,?_⟩;simp[hf,hT,zr]
theorem zyK{m:zD}{r:List Int}{bar:Int}(h:ziO m r bar)(len:Int)(e:Ego)(x:zk)(hx:0<=x.lane/\x.lane<m.jc.length)(hn:zS m x.lane=[])(lo hi:Int)(hlo:-100000000<=lo/\lo<=100000000)(hhi:-100000000<=hi/\hi<=100000000)(cap:Bool)(v:Nat)(B P C:Option Blk) :
  ∃fp,zx (R L Cs) ⟨true⟩ zDh [.a (ze x),W lo,W hi,Bo cap] [bx 16 (zm m r len bar e),bxv v 1 [.jd],zbt 2,B,P,C]=some (.t [],if stays m r bar x lo hi cap=true then [bx 16 (zm m r len bar e),zba (v+1) 6 (zbA m r bar x lo hi cap),zbt 2,B,P,C,rwB (zbA m r bar x lo hi cap)] else [bx 16 (zm m r len bar e),bxv v 1 [.jd],zbt 2,B,P,C],fp):=by
 have hf:=zyJ h len e x hx hn lo hi hlo hhi cap v;simp only[zm,zh,zi,ze,jh,jf]at hf ⊢;by_cases c:stays m r bar x lo hi cap=true
 ·have ep:zbA m r bar x lo hi cap=[(zhO m r bar x lo hi cap,zcV r x.lane cap)]:=by rw[zbA,if_pos c]
  rw[if_pos c]at hf ⊢;rw[ep];refine⟨.wr [(1,0,whole)],?_⟩;simp[hf,zr,lbC]
 ·rw[if_neg c]at hf ⊢;refine⟨.no,?_⟩;simp[hf,zr]
theorem zqX(m:zD)(r:List Int)(b:zk)(lo hi:Int)(cap:Bool)(n0:Nat)(M:Mem):Y L Cs zU (some [89,88,87,7,12,4,6,1,2,11,3]) n0 (lyE m r b lo hi cap (zS m b.lane).length) M=some (.exit 0,(90,.w (Bo false))::lyE m r b lo hi cap (zS m b.lane).length,M):=by
 rw[zj zU.eq_1];simp
def zg3(m:zD)(r:List Int)(bar slo:Int)(b:zk)(lo hi:Int)(cap:Bool)(x:Int):List LB:=zbA m r bar (za6 b x) (lo-z8 m b.lane) (hi-z8 m b.lane) (zhq m r slo b.lane x cap)
theorem znZ(m:zD)(r:List Int)(bar slo:Int)(b:zk)(lo hi:Int)(cap:Bool)(x:Int):(zg3 m r bar slo b lo hi cap x).length<=1:=by
 unfold zg3 zbA;split<;>simp
theorem drop7(m:zD)(r:List Int)(b:zk)(lo hi:Int)(cap:Bool)(i:Nat)(len bar:Int)(e:Ego)(l:List LB)(v:Nat)(q:LB)(p y:zk)(w:Nat) :
  j6 7 (lyE m r b lo hi cap i) [bx 16 (zm m r len bar e),zba v 6 l,zbt 2,bx 6 (ze b),bxv w 6 (ze p),zbT q,rwB l,bxv 3 6 (ze y)]=[bx 16 (zm m r len bar e),zba v 6 l,zbt 2,bx 6 (ze b),bxv w 6 (ze p),zbT q,rwB l]:=by
 simp[lyE,zm,zh,zi,ze,zr]
theorem drop5(m:zD)(r:List Int)(b:zk)(lo hi:Int)(cap:Bool)(i:Nat)(len bar:Int)(e:Ego)(v:Nat)(p y:zk)(w:Nat) :
  j6 5 (lyE m r b lo hi cap i) [bx 16 (zm m r len bar e),bxv v 1 [.jd],zbt 2,bx 6 (ze b),bxv w 6 (ze p),bxv 3 6 (ze y)]=[bx 16 (zm m r len bar e),bxv v 1 [.jd],zbt 2,bx 6 (ze b),bxv w 6 (ze p)]:=by
 simp[lyE,zm,zh,zi,ze,zr]
theorem CR(m:zD)(r:List Int)(b:zk)(lo hi:Int)(cap:Bool)(i:Nat)(len bar:Int)(e:Ego)(l:List LB)(v:Nat)(p:zk)(w:Nat)(T:Mem) :
  j6 5 (lyE m r b lo hi cap i) (bx 16 (zm m r len bar e)::zba v 6 l::zbt 2::bx 6 (ze b)::bxv w 6 (ze p)::T)=bx 16 (zm m r len bar e)::zba v 6 l::zbt 2::bx 6 (ze b)::bxv w 6 (ze p)::T:=by
 simp[lyE,zm,zh,zi,ze,zr]
theorem zqa{m:zD}(h:zcp m){a:Int}(i:Nat)(hi:i<(zS m a).length):0<=(zS m a)[i]/\(zS m a)[i]<m.jc.length:=by
 have hm:(zS m a)[i]∈zS m a:=je hi;generalize (zS m a)[i]=x at hm ⊢;unfold zS at hm;cases hl:m.jc[a.toNat]? with
 |none=>simp[hl]at hm
 |some l =>
  simp[hl]at hm;exact h.small.valid l (kp hl) x hm
theorem zyI{m:zD}{r:List Int}{bar:Int}(h:ziO m r bar)(hs:zmX m)(len:Int)(e:Ego)(b:zk)(hb:0<=b.lane/\b.lane<m.jc.length)(lo hi:Int)(hlo:-90000000<=lo/\lo<=90000000)(hhi:-90000000<=hi/\hi<=90000000)(cap:Bool)(p:zk)(w:Nat)(q:LB) :
  ∀(t:List Int) (i:Nat) (l:List LB) (v:Nat),(zS m b.lane).drop i=t->i<=(zS m b.lane).length->l.length+t.length<=100 ->
   ∃v',v<=v'/\Y L Cs zU (some [89,88,87,7,12,4,6,1,2,11,3]) 7 (lyE m r b lo hi cap i) [bx 16 (zm m r len bar e),zba v 6 l,zbt 2,bx 6 (ze b),bxv w 6 (ze p),zbT q,rwB l] =
    some (.exit 0,(90,.w (Bo false))::lyE m r b lo hi cap (zS m b.lane).length,[bx 16 (zm m r len bar e),zba v' 6 (l++t.flatMap (zg3 m r bar e.slo b lo hi cap)),zbt 2,bx 6 (ze b),bxv w 6 (ze p),zbT q,rwB (l++t.flatMap (zg3 m r bar e.slo b lo hi cap))]):=by
 intro t;induction t with
 |nil =>
  intro i l v hd hi1 hl;obtain rfl:=zUb hd hi1;refine⟨v,jo _,?_⟩;rw[zqX];simp
 |cons x t ih =>
  intro i l v hd hi1 hl;obtain⟨hil,hx,hd'⟩:=zL hd;have hn2:=hs.nx b.lane;have hlen:=zcX h.qF hb;have hok:=zqa h.qF i hil;have hlf:=hs.leaf b.lane _ (je hil);simp only[jk]at hl;obtain⟨v1,fp,hv1,hc⟩:=zu8 h len e (za6 b (zS m b.lane)[i]) hok hlf (lo-z8 m b.lane) (hi-z8 m b.lane) (by omega) (by omega) (zhq m r e.slo b.lane (zS m b.lane)[i] cap) l (by omega) v (bx 6 (ze b)) [bxv w 6 (ze p),zbT q,rwB l,bxv 3 6 (ze (za6 b (zS m b.lane)[i]))] 2 (by simp) (by simp);have e1:zbA m r bar (za6 b (zS m b.lane)[i]) (lo-z8 m b.lane) (hi-z8 m b.lane) (zhq m r e.slo b.lane (zS m b.lane)[i] cap)=zg3 m r bar e.slo b lo hi cap x:=by rw[<-hx];rfl
  have hst:=zqW h len e b hb lo hi (by omega) (by omega) cap 7 i hil (by omega) (zba v 6 l) [bxv w 6 (ze p),zbT q,rwB l] _ fp hc;rw[hst,e1];have:=znZ m r bar e.slo b lo hi cap x;obtain⟨v2,hv2,hY⟩:=ih (i+1) (l++zg3 m r bar e.slo b lo hi cap x) v1 hd' (by omega) (by simp;omega);refine⟨v2,by omega,?_⟩;simp only[List.set,Nat.reduceAdd,drop7];rw[hY];simp
theorem zyG{m:zD}{r:List Int}{bar:Int}(h:ziO m r bar)(hs:zmX m)(len:Int)(e:Ego)(b:zk)(hb:0<=b.lane/\b.lane<m.jc.length)(lo hi:Int)(hlo:-90000000<=lo/\lo<=90000000)(hhi:-90000000<=hi/\hi<=90000000)(cap:Bool)(p:zk)(w:Nat)(y:zk) :
  ∀(t:List Int) (i:Nat) (l:List LB) (v:Nat) (S:Mem),(zS m b.lane).drop i=t->i<=(zS m b.lane).length->l.length+t.length<=100 ->
   ∃v' S',v<=v'/\Y L Cs zU (some [89,88,87,7,12,4,6,1,2,11,3]) 5 (lyE m r b lo hi cap i) (bx 16 (zm m r len bar e)::zba v 6 l::zbt 2::bx 6 (ze b)::bxv w 6 (ze p)::bxv 3 6 (ze y)::rwB l::S) =
    some (.exit 0,(90,.w (Bo false))::lyE m r b lo hi cap (zS m b.lane).length,bx 16 (zm m r len bar e)::zba v' 6 (l++t.flatMap (zg3 m r bar e.slo b lo hi cap))::zbt 2::bx 6 (ze b)::bxv w 6 (ze p)::bxv 3 6 (ze y)::rwB (l++t.flatMap (zg3 m r bar e.slo b lo hi cap))::S')/\S'.length=S.length+t.length:=by
 intro t;induction t with
 |nil =>
  intro i l v S hd hi1 hl;obtain rfl:=zUb hd hi1;refine⟨v,S,jo _,?_⟩;rw[zqX];simp
 |cons x t ih =>
  intro i l v S hd hi1 hl;obtain⟨hil,hx,hd'⟩:=zL hd;have hn2:=hs.nx b.lane;have hlen:=zcX h.qF hb;have hok:=zqa h.qF i hil;have hlf:=hs.leaf b.lane _ (je hil);simp only[jk]at hl;obtain⟨v1,fp,hv1,hc⟩:=zu8 h len e (za6 b (zS m b.lane)[i]) hok hlf (lo-z8 m b.lane) (hi-z8 m b.lane) (by omega) (by omega) (zhq m r e.slo b.lane (zS m b.lane)[i] cap) l (by omega) v (bx 6 (ze b)) (bxv w 6 (ze p)::bxv 3 6 (ze y)::rwB l::(S++[bxv 3 6 (ze (za6 b (zS m b.lane)[i]))])) 2 (by simp) (by simp);have e1:zbA m r bar (za6 b (zS m b.lane)[i]) (lo-z8 m b.lane) (hi-z8 m b.lane) (zhq m r e.slo b.lane (zS m b.lane)[i] cap)=zg3 m r bar e.slo b lo hi cap x:=by rw[<-hx];rfl
  have hst:=zqW h len e b hb lo hi (by omega) (by omega) cap 5 i hil (by omega) (zba v 6 l) (bxv w 6 (ze p)::bxv 3 6 (ze y)::rwB l::S) _ fp hc;rw[hst,e1];have:=znZ m r bar e.slo b lo hi cap x;obtain⟨v2,S',hv2,hY,hS'⟩:=ih (i+1) (l++zg3 m r bar e.slo b lo hi cap x) v1 (S++[bxv 3 6 (ze (za6 b (zS m b.lane)[i]))]) hd' (by omega) (by simp;omega);refine⟨v2,S',by omega,?_,by rw[hS'];simp;omega⟩;simp only[List.set,Nat.reduceAdd,CR];rw[hY];simp
theorem zyH{m:zD}{r:List Int}{bar:Int}(h:ziO m r bar)(hs:zmX m)(len:Int)(e:Ego)(b:zk)(hb:0<=b.lane/\b.lane<m.jc.length)(lo hi:Int)(hlo:-90000000<=lo/\lo<=90000000)(hhi:-90000000<=hi/\hi<=90000000)(cap:Bool)(p:zk)(w v:Nat) :
  ∀(t:List Int) (i:Nat),(zS m b.lane).drop i=t->i<=(zS m b.lane).length->t.length<=10 ->
   (t.flatMap (zg3 m r bar e.slo b lo hi cap)=[]/\Y L Cs zU (some [89,88,87,7,12,4,6,1,2,11,3]) 5 (lyE m r b lo hi cap i) [bx 16 (zm m r len bar e),bxv v 1 [.jd],zbt 2,bx 6 (ze b),bxv w 6 (ze p)] =
     some (.exit 0,(90,.w (Bo false))::lyE m r b lo hi cap (zS m b.lane).length,[bx 16 (zm m r len bar e),bxv v 1 [.jd],zbt 2,bx 6 (ze b),bxv w 6 (ze p)])) \/
   (t.flatMap (zg3 m r bar e.slo b lo hi cap)≠[]/\∃v' S' y,v<v'/\Y L Cs zU (some [89,88,87,7,12,4,6,1,2,11,3]) 5 (lyE m r b lo hi cap i) [bx 16 (zm m r len bar e),bxv v 1 [.jd],zbt 2,bx 6 (ze b),bxv w 6 (ze p)] =
     some (.exit 0,(90,.w (Bo false))::lyE m r b lo hi cap (zS m b.lane).length,bx 16 (zm m r len bar e)::zba v' 6 (t.flatMap (zg3 m r bar e.slo b lo hi cap))::zbt 2::bx 6 (ze b)::bxv w 6 (ze p)::bxv 3 6 (ze y)::rwB (t.flatMap (zg3 m r bar e.slo b lo hi cap))::S')/\S'.length<=t.length):=by
 intro t;induction t with
 |nil =>
  intro i hd hi1 hl;obtain rfl:=zUb hd hi1;refine .inl ⟨rfl,?_⟩;rw[zqX]
 |cons x t ih =>
  intro i hd hi1 hl;obtain⟨hil,hx,hd'⟩:=zL hd;have hn2:=hs.nx b.lane;have hlen:=zcX h.qF hb;have hok:=zqa h.qF i hil;have hlf:=hs.leaf b.lane _ (je hil);simp only[jk]at hl;obtain⟨fp,hc⟩:=zyK h len e (za6 b (zS m b.lane)[i]) hok hlf (lo-z8 m b.lane) (hi-z8 m b.lane) (by omega) (by omega) (zhq m r e.slo b.lane (zS m b.lane)[i] cap) v (bx 6 (ze b)) (bxv w 6 (ze p)) (bxv 3 6 (ze (za6 b (zS m b.lane)[i])));have e1:zbA m r bar (za6 b (zS m b.lane)[i]) (lo-z8 m b.lane) (hi-z8 m b.lane) (zhq m r e.slo b.lane (zS m b.lane)[i] cap)=zg3 m r bar e.slo b lo hi cap x:=by rw[<-hx];rfl
  have hst:=zqW h len e b hb lo hi (by omega) (by omega) cap 5 i hil (by omega) (bxv v 1 [.jd]) [bxv w 6 (ze p)] _ fp hc;rw[hst,e1];have:=znZ m r bar e.slo b lo hi cap x;by_cases c:stays m r bar (za6 b (zS m b.lane)[i]) (lo-z8 m b.lane) (hi-z8 m b.lane) (zhq m r e.slo b.lane (zS m b.lane)[i] cap)=true
  ·have ne:zg3 m r bar e.slo b lo hi cap x≠[]:=by rw[<-e1,zbA,if_pos c];simp
   rw[if_pos c];obtain⟨v2,S',hv2,hY,hS'⟩:=zyG h hs len e b hb lo hi hlo hhi cap p w (za6 b (zS m b.lane)[i]) t (i+1) (zg3 m r bar e.slo b lo hi cap x) (v+1) [] hd' (by omega) (by omega);refine .inr ⟨by simp[ne],v2,S',za6 b (zS m b.lane)[i],by omega,?_,by rw[hS'];simp⟩;rw[CR,hY];simp
  ·have ee:zg3 m r bar e.slo b lo hi cap x=[]:=by rw[<-e1,zbA,if_neg c]
   rw[if_neg c,drop5];have:=ih (i+1) hd' (by omega) (by omega);rcases this with⟨h1,h2⟩ |⟨h1,v2,S',y,h4,h2,h3⟩
   ·exact .inl ⟨by simp[ee];simpa using h1,h2⟩
   ·exact .inr ⟨by simp[ee];simpa using h1,v2,S',y,h4,by rw[h2];simp[ee],by simp;omega⟩
def zlZ(m:zD)(r:List Int)(bar slo:Int)(b:zk)(lo hi:Int)(cap:Bool):List LB :=
 zbA m r bar b lo hi cap++(if hi<z8 m b.lane then [] else(zS m b.lane).flatMap (zg3 m r bar slo b lo hi cap))
theorem zBD{m:zD}{r:List Int}{bar:Int}(h:ziO m r bar)(hs:zmX m)(len:Int)(e:Ego)(b:zk)(hb:0<=b.lane/\b.lane<m.jc.length)(lo hi:Int)(hlo:-90000000<=lo/\lo<=90000000)(hhi:-90000000<=hi/\hi<=90000000)(cap:Bool) :
  ∃v',1<=v'/\R L Cs zcg [.a (ze b),W lo,W hi,Bo cap,Pt 0,Pt 1,Pt 2] [bx 16 (zm m r len bar e),bx 1 [.jd],zbt 2] =
   some (.t [],if zlZ m r bar e.slo b lo hi cap=[] then [bx 16 (zm m r len bar e),bx 1 [.jd],zbt 2] else [bx 16 (zm m r len bar e),zba v' 3 (zlZ m r bar e.slo b lo hi cap),zbt 2,rwB (zlZ m r bar e.slo b lo hi cap)]):=by
 obtain⟨n,hn0⟩:=js hb.1;have hnl:n<m.jc.length:=by omega
 have hI:=zoq r b.lane (by have:=h.len;omega);have hlen:=zcX h.qF hb;have el:z8 m b.lane=m.jc[n].len:=by rw[hn0];simp[z8,hnl]
 have en:zS m b.lane=m.jc[n].next:=by rw[hn0];simp[zS,hnl]
 have eln:=el;rw[hn0]at eln;have en1:zS m (n:Int)=m.jc[n].next:=by rw[<-hn0];exact en
 have hn2:=hs.nx b.lane;have hYA:=fun p w c=>zyI h hs len e b hb lo hi hlo hhi cap p w (p,c) (zS m b.lane) 0 [(p,c)] 1 (by simp) (by simp) (by simp;omega)
 have hYB:=fun p w=>zyH h hs len e b hb lo hi hlo hhi cap p w 0 (zS m b.lane) 0 (by simp) (by simp) (by omega)
 rw[el]at hlen;unfold zlZ zbA stays zhO;have BW:=h.bar;have four:∃T c q,zcj m r bar b.lane hi cap=T/\zcV r b.lane cap=c/\(zgo r b.lane=none/\True/\True/\True/\True/\True/\(cap=true/\T=min hi m.jc[n].len/\c=false/\q=3\/cap=false/\T=min hi m.jc[n].len/\c=false/\q=3) \/
   ∃i:Nat,zgo r b.lane=some i/\i<r.length/\i<(zW m 0 r).length/\(∀hh:i<(zW m 0 r).length,(zW m 0 r)[i]=ki m r i)/\IntKind.i64.wrap (bar-ki m r i)=bar-ki m r i/\(0:Int)<=i/\(cap=true/\T=min hi (min m.jc[n].len (bar-ki m r i))/\c=true/\q=4\/cap=false/\T=min hi m.jc[n].len/\c=false/\q=3)):=by
  cases hix:zgo r b.lane with
  |none=>cases cap<;>exact⟨_,_,3,rfl,rfl,.inl ⟨rfl,trivial,trivial,trivial,trivial,trivial,by simp[zcj,zcV,hix,el]⟩⟩
  |some i =>
   obtain⟨hil,_⟩:=zfT hix;have hsb:=zmA h hil;have hsl:i<(zW m 0 r).length:=by rw[zcO];exact hil
   cases cap
   ·exact⟨_,_,3,rfl,rfl,.inr ⟨i,rfl,hil,hsl,fun _=>by simp[ki,hsl],kg _ (by omega) (by omega),by omega,by simp[zcj,zcV,hix,el]⟩⟩
   ·exact⟨_,_,4,rfl,rfl,.inr ⟨i,rfl,hil,hsl,fun _=>by simp[ki,hsl],kg _ (by omega) (by omega),by omega,by simp[zcj,zcV,hix,el]⟩⟩
 obtain⟨T,c,q,et,ec,four⟩:=four;have ecn:=ec;rw[hn0]at ecn;have d2:=Classical.em (max 0 lo<=T);have hYA:=hYA ⟨b.lane,max 0 lo,T,b.vlo,b.vhi,b.hold⟩ q c;have hYB:=hYB ⟨b.lane,max 0 lo,T,b.vlo,b.vhi,b.hold⟩ q;generalize hF:(zS m b.lane).flatMap (zg3 m r bar e.slo b lo hi cap)=F at hYA hYB ⊢;rw[ec,et,el,zUa zam rfl];clear et ec;rcases four with⟨hix,hil,hsl,hsi,wS,hi0,⟨rfl,rfl,rfl,rfl⟩ |⟨rfl,rfl,rfl,rfl⟩⟩ |⟨i,hix,hil,hsl,hsi,wS,hi0,⟨rfl,rfl,rfl,rfl⟩ |⟨rfl,rfl,rfl,rfl⟩⟩
 all_goals
  have yJ:=hix;rw[hn0]at yJ;rw[hix]at hI;simp only[hn0,zbe]at hI;by_cases d3:hi<m.jc[n].len
  ·refine⟨1,by omega,?_⟩;by_cases d1:lo<=m.jc[n].len<;>rcases d2 with d2 |d2
   all_goals simp[za,zm,zh,zi,ze,zo,hn0,hnl,hI,hil,hsl,hsi,wS,hi0,d1,d2,d3,lbC,zg,zr,List.range,List.range.loop,zba,rwB]
  ·by_cases d1:lo<=m.jc[n].len<;>rcases d2 with d2 |d2
   ·obtain⟨vA,hvA,hYA⟩:=hYA;simp[lyE,hn0,yJ,ecn,eln,hnl,zm,zh,zi,ze,zbe,lbC,en1,zba,zbT,rwB]at hYA;refine⟨vA,by omega,?_⟩;simp[hYA,za,zm,zh,zi,ze,zo,hn0,hnl,hI,hil,hsl,hsi,wS,hi0,d1,d2,d3,lbC,zg,zr,List.range,List.range.loop,zba,rwB]
   all_goals
    rcases hYB with⟨hF0,hZ⟩ |⟨hF0,vB,S',y,hvB,hZ,hS⟩
    ·simp[lyE,hn0,yJ,ecn,eln,hnl,zm,zh,zi,ze,zbe,lbC,en1,zba,zbT,rwB]at hZ;subst hF0;refine⟨1,by omega,?_⟩;simp[hZ,za,zm,zh,zi,ze,zo,hn0,hnl,hI,hil,hsl,hsi,wS,hi0,d1,d2,d3,lbC,zg,zr,List.range,List.range.loop,zba,rwB]
    ·simp[lyE,hn0,yJ,ecn,eln,hnl,zm,zh,zi,ze,zbe,lbC,en1,zba,zbT,rwB]at hZ;refine⟨vB,by omega,?_⟩;rcases S' with _ |⟨s1,_ |⟨s2,_ |⟨s3,S'⟩⟩⟩
     ·simp[hZ,hF0,za,zm,zh,zi,ze,zo,hn0,hnl,hI,hil,hsl,hsi,wS,hi0,d1,d2,d3,lbC,zg,zr,List.range,List.range.loop,zba,rwB]
     ·simp[hZ,hF0,za,zm,zh,zi,ze,zo,hn0,hnl,hI,hil,hsl,hsi,wS,hi0,d1,d2,d3,lbC,zg,zr,List.range,List.range.loop,zba,rwB]
     ·simp[hZ,hF0,za,zm,zh,zi,ze,zo,hn0,hnl,hI,hil,hsl,hsi,wS,hi0,d1,d2,d3,lbC,zg,zr,List.range,List.range.loop,zba,rwB]
     ·simp at hS;omega
theorem zCi{m:zD}{r:List Int}{bar:Int}(h:ziO m r bar)(hs:zmX m)(len:Int)(e:Ego)(b:zk)(hb:0<=b.lane/\b.lane<m.jc.length)(lo hi:Int)(hlo:-90000000<=lo/\lo<=90000000)(hhi:-90000000<=hi/\hi<=90000000)(cap:Bool) :
  R L Cs znw [.a (zm m r len bar e),.a (ze b),W lo,W hi,Bo cap] []=some (.w (.c (.jb (zdz (zlZ m r bar e.slo b lo hi cap)))),[]):=by
 obtain⟨v,hv,hf⟩:=zBD h hs len e b hb lo hi hlo hhi cap;have hv0:(v=0)=False:=eq_false (by omega);have hl16:(zm m r len bar e).length=16:=by simp[zm,zh,zi]
 generalize zlZ m r bar e.slo b lo hi cap=l at *;cases l with
 |nil =>
  simp[zm,zh,zi,ze]at hf;rw[zUa ziF rfl];simp[zeH,zm,zh,zi,ze,hf,zg,zr,List.range,List.range.loop]
 |cons x l =>
  simp[zm,zh,zi,ze,zba,rwB]at hf;rw[zUa ziF rfl];simp[zeH,zm,zh,zi,ze,hf,hv0,zg,zr,List.range,List.range.loop]
def zT(m:zD)(r:List Int)(bar:Int)(e:Ego):List Cl:=zf m++[.jb (zu r),.jb (zu (zW m 0 r)),I bar,I e.slo,I e.shi,I e.vlo,I e.vhi]
theorem zAs(m:zD)(r:List Int)(bar:Int)(e:Ego)(x:Int)(hl:r.length<=1000):∀(t:List Int) (i:Nat),r.drop i=t->i<=r.length ->
  (x∉t->Y L Cs zal (some [2,1,5]) 1 [(2,.w (Pt 0)),(1,.w (W x)),(5,.w (W i))] [bx 12 (zT m r bar e)]=some (.exit 0,[(10,.w (Bo false)),(1,.w (W x)),(2,.w (Pt 0)),(5,.w (W r.length))],[bx 12 (zT m r bar e)])) /\
  (∀j,t.findIdx? (fun y=>decide (y=x))=some j->Y L Cs zal (some [2,1,5]) 1 [(2,.w (Pt 0)),(1,.w (W x)),(5,.w (W i))] [bx 12 (zT m r bar e)]=some (.ret,[(4,.w (W ((i+j:Nat):Int)))],[bx 12 (zT m r bar e)])):=by
 intro t;induction t with
 |nil =>
  intro i hd hi;obtain rfl:=zUb hd hi;refine⟨fun _=>?_,fun j h=>by simp at h⟩;rw[zj zal.eq_1];simp[zT,zf]
 |cons y t ih =>
  intro i hd hi;obtain⟨hil,hx,hd'⟩:=zL hd;have hw:=zB (i:=i) (by omega);obtain⟨h1,h2⟩:=ih (i+1) hd' (by omega);by_cases c:y=x
  ·refine⟨fun h=>by simp[c]at h,fun j h=>?_⟩;simp only[qO,c,decide_true,if_true,ji]at h;subst h;rw[zj zal.eq_1];simp[zT,zf,hil,hx,c]
  ·have c':¬x=y:=fun h=>c h.symm
   have hY:Y L Cs zal (some [2,1,5]) 1 [(2,.w (Pt 0)),(1,.w (W x)),(5,.w (W i))] [bx 12 (zT m r bar e)]=Y L Cs zal (some [2,1,5]) 1 [(2,.w (Pt 0)),(1,.w (W x)),(5,.w (W (i+1:Nat)))] [bx 12 (zT m r bar e)]:=by
    rw[zj zal.eq_1];simp[zT,zf,hil,hx,c,c',hw,qC c]
   rw[hY];refine⟨fun h=>h1 fun h'=>h (jv _ h'),fun j h=>?_⟩;simp only[qO,c,decide_false,jF,if_false,ja]at h;obtain⟨k,hk,rfl⟩:=h;have:=h2 k hk;rw[this];simp;omega
theorem zCk(m:zD)(r:List Int)(bar:Int)(e:Ego)(x:Int)(hl:r.length<=1000):R L Cs zfy [.a (zT m r bar e),W x] []=some (.w (W (zbe (zgo r x))),[]):=by
 obtain⟨h1,h2⟩:=zAs m r bar e x hl r 0 rfl (jt _);simp only[jg,jB,zT,zf,jh,jf]at h1 h2;unfold zgo;cases hf:r.findIdx? (fun y=>decide (y=x))with
 |none =>
  have hn:x∉r:=fun hm=>by
   have:=kh.1 hf x hm;simp at this
  have:=h1 hn;rw[zUa zfz rfl];simp[zcv,zT,zf,this,zbe]
 |some j =>
  have:=h2 j hf;rw[zUa zfz rfl];simp[zcv,zT,zf,this,zbe]
def zd2(m:zD)(r:List Int)(bar top slo:Int)(b:zk)(lo hi:Int)(cap:Bool)(x:Int):List LB :=
 if zbi r b.lane x=true then zbA m r top (za6 b x) (lo-z8 m b.lane) (hi-z8 m b.lane) cap
 else if zb2 m r slo b.lane x=true then zbA m r bar (za6 b x) (lo-z8 m b.lane) (hi-z8 m b.lane) true
 else zbA m r 0 (za6 b x) (lo-z8 m b.lane) (hi-z8 m b.lane) false
theorem zeO(m:zD)(r:List Int)(bar:Int)(b:zk)(lo hi:Int)(cap:Bool):(zbA m r bar b lo hi cap).length<=1:=by
 unfold zbA;split<;>simp
theorem zuV(m:zD)(r:List Int)(bar bar':Int)(b:zk)(lo hi:Int):zbA m r bar b lo hi false=zbA m r bar' b lo hi false:=by
 have:zcj m r bar b.lane hi false=zcj m r bar' b.lane hi false:=by
  unfold zcj;split<;>simp
 simp[zbA,stays,zhO,this]
theorem zzF(m:zD)(r:List Int)(bar slo:Int)(b:zk)(lo hi:Int)(cap:Bool)(x:Int):zd2 m r bar bar slo b lo hi cap x=zg3 m r bar slo b lo hi cap x:=by
 unfold zd2 zg3 zhq;by_cases f:zbi r b.lane x=true
 ·have hm:zb2 m r slo b.lane x=false:=by
   unfold zb2;cases zgo r x<;>simp[f]
  have hc:zcV r b.lane cap=cap:=by
   unfold zbi at f;cases hL:zgo r b.lane with
   |none=>simp[hL]at f
   |some i=>simp[zcV,hL]
  rw[if_pos f,f,hm,hc];simp
 ·rw[if_neg f];have f':zbi r b.lane x=false:=by simpa using f
  rw[f'];by_cases g:zb2 m r slo b.lane x=true
  ·rw[if_pos g,g];simp
  ·have g':zb2 m r slo b.lane x=false:=by simpa using g
   rw[if_neg g,g'];simp only[Bool.false_and,k8];exact zuV ..
abbrev rlE(m:zD)(r:List Int)(b:zk)(lo hi:Int)(cap:Bool)(top:Int)(l:List LB)(i:Nat):Env:=[(13,.w (.c (.slice 3 l.length 7 0 l.length none))),(18,.w (W i)),(7,.w (Pt 1)),(17,.w (.c (.jb (zu (zS m b.lane))))),(15,.w (W (zbe (zgo r b.lane)))),(6,.w (Pt 0)),(2,.w (W lo)),(3,.w (W hi)),(14,.w (W (z8 m b.lane))),(4,.w (Bo cap)),(5,.w (W top))]
abbrev AQ(m:zD)(r:List Int)(bar:Int)(e:Ego)(b:zk)(x lo hi:Int)(cap:Bool)(top:Int):Prop :=
 R L Cs zbD [.a (zT m r bar e),.a (ze (za6 b x)),W lo,W hi,Bo cap,W top] []=some (.w (.c (.jb (zdz (zbA m r top (za6 b x) lo hi cap)))),[])
theorem zzG(m:zD)(r:List Int)(bar:Int)(e:Ego)(x:Int)(hl:r.length<=1000)(M:Mem):zx (R L Cs) ⟨true⟩ (.c (.fn zfy [] [])) [.a (zT m r bar e),W x] M=some (.w (W (zbe (zgo r x))),M,.no):=by
 have h:=zCk m r bar e x hl;simp only[zT,zf,jh,jf]at h ⊢;simp[h]
theorem zqz{m:zD}{r:List Int}{bar:Int}{e:Ego}{b:zk}{x lo hi:Int}{cap:Bool}{top:Int}(h:AQ m r bar e b x lo hi cap top)(M:Mem):zx (R L Cs) ⟨true⟩ (.c (.fn zbD [] [])) [.a (zT m r bar e),.a (ze (za6 b x)),W lo,W hi,Bo cap,W top] M=some (.w (.c (.jb (zdz (zbA m r top (za6 b x) lo hi cap)))),M,.no):=by
 simp only[AQ,zT,zf,ze,za6,jh,jf]at h ⊢;simp[h]
theorem zBk{m:zD}{r:List Int}{bar:Int}(h:ziO m r bar)(e:Ego)(b:zk)(hb:0<=b.lane/\b.lane<m.jc.length)(lo hi:Int)(hlo:-100000000<=lo/\lo<=100000000)(hhi:-100000000<=hi/\hi<=100000000)(cap:Bool)(top:Int)(i:Nat)(hi1:i<(zS m b.lane).length)(hi2:i<1000)(l:List LB)(hl:l.length<=1000)(p:zk)(w:Nat)(T:Mem)(hT:T=[]\/∃q,T=[zbT q])
  (k7:∀c t,(t=top\/t=bar\/t=0)->AQ m r bar e b (zS m b.lane)[i] (lo-z8 m b.lane) (hi-z8 m b.lane) c t) :
  Y L Cs zax (some [13,18,7,17,15,6,2,3,14,4,5]) (5+T.length) (rlE m r b lo hi cap top l i) (bx 12 (zT m r bar e)::bx 6 (ze b)::some (own 7 [])::some (own 7 (zdz l))::bxv w 6 (ze p)::T) =
    Y L Cs zax (some [13,18,7,17,15,6,2,3,14,4,5]) (5+T.length) (rlE m r b lo hi cap top (l++zd2 m r bar top e.slo b lo hi cap (zS m b.lane)[i]) (i+1)) (bx 12 (zT m r bar e)::bx 6 (ze b)::some (own 7 [])::some (own 7 (zdz (l++zd2 m r bar top e.slo b lo hi cap (zS m b.lane)[i])))::bxv w 6 (ze p)::T):=by
 have hlen:=zcX h.qF hb;have hw:=zB (i:=i) (by omega);have hI:=zzG m r bar e (zS m b.lane)[i] (by have:=h.len;omega);have w1:=kg (lo-z8 m b.lane);have w2:=kg (hi-z8 m b.lane);have hc1:=zqz (k7 cap top (.inl rfl));have hc2:=zqz (k7 true bar (.inr (.inl rfl)));have hc3:=zqz (k7 false 0 (.inr (.inr rfl)));rw[zj zax.eq_1];generalize hx:(zS m b.lane)[i]=x at *;simp only[zT,zf,ze,za6,jh,jf]at hI hc1 hc2 hc3 ⊢;have key:∀(z:List LB),z.length<=1->z=[]\/∃y,z=[y]:=by
  intro z hz
  match z,hz with
  |[],_=>exact .inl rfl
  |[y],_=>exact .inr ⟨y,rfl⟩
 have hrm:(l.length+1)*56<=140737488355328:=by omega
 have BV:l.length*56<=140737488355328:=by omega
 cases hL:zgo r b.lane with
 |none =>
  have hf:zbi r b.lane x=false:=by simp[zbi,hL]
  cases hX:zgo r x with
  |none =>
   rw[hX]at hI;simp only[zbe]at hI;have hm:zb2 m r e.slo b.lane x=false:=by simp[zb2,hX]
   have hr:zd2 m r bar top e.slo b lo hi cap x=zbA m r 0 (za6 b x) (lo-z8 m b.lane) (hi-z8 m b.lane) false:=by simp[zd2,hf,hm]
   simp only[za6]at hr;rw[hr];rcases key _ (zeO m r 0 (za6 b x) (lo-z8 m b.lane) (hi-z8 m b.lane) false)with hz |⟨z,hz⟩<;>simp only[za6]at hz<;>rw[hz]at hc3 ⊢<;>simp only[zgf,zfd]at hc3<;>rcases hT with rfl |⟨q,rfl⟩ <;>simp[rlE,hi1,hx,hw,w1,w2,hI,zbe,zg,hc3,hL,hrm,BV,lbC,-zx]
  |some j =>
   obtain⟨hjl,_⟩:=zfT hX;have hsl:j<(zW m 0 r).length:=by rw[zcO];exact hjl
   have hsi:(zW m 0 r)[j]=ki m r j:=by simp[ki,hsl]
   rw[hX]at hI;simp only[zbe]at hI;by_cases d:ki m r j<=e.slo
   ·have hm:zb2 m r e.slo b.lane x=true:=by simp[zb2,zbi,hL,hX,d]
    have hr:zd2 m r bar top e.slo b lo hi cap x=zbA m r bar (za6 b x) (lo-z8 m b.lane) (hi-z8 m b.lane) true:=by simp[zd2,hf,hm]
    simp only[za6]at hr;rw[hr];rcases key _ (zeO m r bar (za6 b x) (lo-z8 m b.lane) (hi-z8 m b.lane) true)with hz |⟨z,hz⟩<;>simp only[za6]at hz<;>rw[hz]at hc2 ⊢<;>simp only[zgf,zfd]at hc2<;>rcases hT with rfl |⟨q,rfl⟩ <;>simp[rlE,hi1,hx,hw,w1,w2,hI,zbe,zg,hc2,hL,hrm,BV,lbC,hjl,hsl,hsi,d,-zx]
   ·have hm:zb2 m r e.slo b.lane x=false:=by simp[zb2,zbi,hL,hX,d]
    have hr:zd2 m r bar top e.slo b lo hi cap x=zbA m r 0 (za6 b x) (lo-z8 m b.lane) (hi-z8 m b.lane) false:=by simp[zd2,hf,hm]
    simp only[za6]at hr;rw[hr];rcases key _ (zeO m r 0 (za6 b x) (lo-z8 m b.lane) (hi-z8 m b.lane) false)with hz |⟨z,hz⟩<;>simp only[za6]at hz<;>rw[hz]at hc3 ⊢<;>simp only[zgf,zfd]at hc3<;>rcases hT with rfl |⟨q,rfl⟩ <;>simp[rlE,hi1,hx,hw,w1,w2,hI,zbe,zg,hc3,hL,hrm,BV,lbC,hjl,hsl,hsi,d,-zx]
 |some q =>
  obtain⟨hql,_⟩:=zfT hL;have hq8:=h.len;have hwq:IntKind.i64.wrap ((q:Int)+1)=((q+1:Nat):Int):=zB (by omega);cases hX:zgo r x with
  |none =>
   rw[hX]at hI;simp only[zbe]at hI;have hne:((-1:Int)==((q:Int)+1))=false:=by simp;omega
   have hf:zbi r b.lane x=false:=by simp[zbi,hL,hX]
   have hm:zb2 m r e.slo b.lane x=false:=by simp[zb2,hX]
   have hr:zd2 m r bar top e.slo b lo hi cap x=zbA m r 0 (za6 b x) (lo-z8 m b.lane) (hi-z8 m b.lane) false:=by simp[zd2,hf,hm]
   simp only[za6]at hr;rw[hr];rcases key _ (zeO m r 0 (za6 b x) (lo-z8 m b.lane) (hi-z8 m b.lane) false)with hz |⟨z,hz⟩<;>simp only[za6]at hz<;>rw[hz]at hc3 ⊢<;>simp only[zgf,zfd]at hc3<;>rcases hT with rfl |⟨q,rfl⟩ <;>simp[rlE,hi1,hx,hw,w1,w2,hI,zbe,zg,hc3,hL,hrm,BV,lbC,hwq,hne,-zx]
  |some j =>
   obtain⟨hjl,_⟩:=zfT hX;have hsl:j<(zW m 0 r).length:=by rw[zcO];exact hjl
   have hsi:(zW m 0 r)[j]=ki m r j:=by simp[ki,hsl]
   rw[hX]at hI;simp only[zbe]at hI;by_cases f:j=q+1
   ·subst f;have hq0:(0:Int)<=(q:Int)+1:=by omega
    have hf:zbi r b.lane x=true:=by simp[zbi,hL,hX]
    have hr:zd2 m r bar top e.slo b lo hi cap x=zbA m r top (za6 b x) (lo-z8 m b.lane) (hi-z8 m b.lane) cap:=by simp[zd2,hf]
    simp only[za6]at hr;rw[hr];rcases key _ (zeO m r top (za6 b x) (lo-z8 m b.lane) (hi-z8 m b.lane) cap)with hz |⟨z,hz⟩<;>simp only[za6]at hz<;>rw[hz]at hc1 ⊢<;>simp only[zgf,zfd]at hc1<;>rcases hT with rfl |⟨q,rfl⟩ <;>simp[rlE,hi1,hx,hw,w1,w2,hI,zbe,zg,hc1,hL,hrm,BV,lbC,hwq,hq0,-zx]
   ·have hne:((j:Int)==((q:Int)+1))=false:=by simp;omega
    have hf:zbi r b.lane x=false:=by simp[zbi,hL,hX,f]
    by_cases d:ki m r j<=e.slo
    ·have hm:zb2 m r e.slo b.lane x=true:=by simp[zb2,zbi,hL,hX,d,f]
     have hr:zd2 m r bar top e.slo b lo hi cap x=zbA m r bar (za6 b x) (lo-z8 m b.lane) (hi-z8 m b.lane) true:=by simp[zd2,hf,hm]
     simp only[za6]at hr;rw[hr];rcases key _ (zeO m r bar (za6 b x) (lo-z8 m b.lane) (hi-z8 m b.lane) true)with hz |⟨z,hz⟩<;>simp only[za6]at hz<;>rw[hz]at hc2 ⊢<;>simp only[zgf,zfd]at hc2<;>rcases hT with rfl |⟨q,rfl⟩ <;>simp[rlE,hi1,hx,hw,w1,w2,hI,zbe,zg,hc2,hL,hrm,BV,lbC,hwq,hne,f,hjl,hsl,hsi,d,-zx]
    ·have hm:zb2 m r e.slo b.lane x=false:=by simp[zb2,zbi,hL,hX,d,f]
     have hr:zd2 m r bar top e.slo b lo hi cap x=zbA m r 0 (za6 b x) (lo-z8 m b.lane) (hi-z8 m b.lane) false:=by simp[zd2,hf,hm]
     simp only[za6]at hr;rw[hr];rcases key _ (zeO m r 0 (za6 b x) (lo-z8 m b.lane) (hi-z8 m b.lane) false)with hz |⟨z,hz⟩<;>simp only[za6]at hz<;>rw[hz]at hc3 ⊢<;>simp only[zgf,zfd]at hc3<;>rcases hT with rfl |⟨q,rfl⟩ <;>simp[rlE,hi1,hx,hw,w1,w2,hI,zbe,zg,hc3,hL,hrm,BV,lbC,hwq,hne,f,hjl,hsl,hsi,d,-zx]
theorem zBm(m:zD)(r:List Int)(b:zk)(lo hi:Int)(cap:Bool)(top:Int)(l:List LB)(n0:Nat)(A:Option Blk)(M:Mem):Y L Cs zax (some [13,18,7,17,15,6,2,3,14,4,5]) n0 (rlE m r b lo hi cap top l (zS m b.lane).length) (A::bx 6 (ze b)::M)=some (.exit 0,(89,.w (Bo false))::rlE m r b lo hi cap top l (zS m b.lane).length,A::bx 6 (ze b)::M):=by
 rw[zj zax.eq_1];simp
theorem zBl{m:zD}{r:List Int}{bar:Int}(h:ziO m r bar)(e:Ego)(b:zk)(hb:0<=b.lane/\b.lane<m.jc.length)(lo hi:Int)(hlo:-100000000<=lo/\lo<=100000000)(hhi:-100000000<=hi/\hi<=100000000)(cap:Bool)(top:Int)(p:zk)(w:Nat)(T:Mem)(hT:T=[]\/∃q,T=[zbT q])
  (k7:∀x∈zS m b.lane,∀c t,(t=top\/t=bar\/t=0)->AQ m r bar e b x (lo-z8 m b.lane) (hi-z8 m b.lane) c t) (hn:(zS m b.lane).length<=100) :
  ∀(t:List Int) (i:Nat) (l:List LB),(zS m b.lane).drop i=t->i<=(zS m b.lane).length->l.length+t.length<=200 ->
  Y L Cs zax (some [13,18,7,17,15,6,2,3,14,4,5]) (5+T.length) (rlE m r b lo hi cap top l i) (bx 12 (zT m r bar e)::bx 6 (ze b)::some (own 7 [])::some (own 7 (zdz l))::bxv w 6 (ze p)::T) =
    some (.exit 0,(89,.w (Bo false))::rlE m r b lo hi cap top (l++t.flatMap (zd2 m r bar top e.slo b lo hi cap)) (zS m b.lane).length,bx 12 (zT m r bar e)::bx 6 (ze b)::some (own 7 [])::some (own 7 (zdz (l++t.flatMap (zd2 m r bar top e.slo b lo hi cap))))::bxv w 6 (ze p)::T):=by
 intro t;induction t with
 |nil =>
  intro i l hd hi1 hl;obtain rfl:=zUb hd hi1;rw[zBm];simp
 |cons x t ih =>
  intro i l hd hi1 hl;obtain⟨hil,hx,hd'⟩:=zL hd;simp only[jk]at hl;have hz:(zd2 m r bar top e.slo b lo hi cap x).length<=1:=by
   unfold zd2;split
   ·exact zeO ..
   ·split<;>exact zeO ..
  rw[zBk h e b hb lo hi hlo hhi cap top i hil (by omega) l (by omega) p w T hT (k7 _ (je hil)),hx,ih (i+1) _ hd' (by omega) (by simp;omega)];simp
theorem zrN{m:zD}{r:List Int}{bar:Int}(h:ziO m r bar)(e:Ego)(b:zk)(hb:0<=b.lane/\b.lane<m.jc.length)(lo hi:Int)(hlo:-100000000<=lo/\lo<=100000000)(hhi:-100000000<=hi/\hi<=100000000)(cap:Bool)(top:Int)(htop:-4000000000000<=top/\top<=4000000000000)
  (k7:∀x∈zS m b.lane,∀c t,(t=top\/t=bar\/t=0)->AQ m r bar e b x (lo-z8 m b.lane) (hi-z8 m b.lane) c t) (hn:(zS m b.lane).length<=100) :
  R L Cs zbD [.a (zT m r bar e),.a (ze b),W lo,W hi,Bo cap,W top] [] =
    some (.w (.c (.jb (zdz (zbA m r top b lo hi cap++(if hi<z8 m b.lane then [] else(zS m b.lane).flatMap (zd2 m r bar top e.slo b lo hi cap)))))),[]):=by
 have hYl:=fun(l:List LB) (hl:l.length<=1) p w T hT=>zBl h e b hb lo hi hlo hhi cap top p w T hT k7 hn (zS m b.lane) 0 l (by simp) (by simp) (by omega)
 obtain⟨n,hn0⟩:=js hb.1;have hnl:n<m.jc.length:=by omega
 have hI:=zzG m r bar e b.lane (by have:=h.len;omega);have hLg:∀M,zx (R L Cs) ⟨true⟩ (.c (.fn zgX [] [])) [.a (zf m),W (n:Int)] M=some (.w (W m.jc[n].len),M,.no):=by
  intro M;have h1:=zA3 h.qF hnl;simp only[zf]at h1 ⊢;simp[h1]
 have hlen:=zcX h.qF hb;have el:z8 m b.lane=m.jc[n].len:=by rw[hn0];simp[z8,hnl]
 have eln:=el;rw[hn0]at eln;have en:zS m b.lane=m.jc[n].next:=by rw[hn0];simp[zS,hnl]
 have en1:zS m (n:Int)=m.jc[n].next:=by rw[<-hn0];exact en
 simp only[zT,zf,jh,jf]at hI hLg;rw[el]at hlen;unfold zbA stays zhO;cases hix:zgo r b.lane with
 |none =>
  have yJ:=hix;rw[hn0]at yJ;rw[hix]at hI;simp only[hn0,zbe]at hI;cases cap with
  |true =>
   have ec:zcV r b.lane true=false:=by simp[zcV,hix]
   have ecn:=ec;rw[hn0]at ecn;have et:zcj m r top b.lane hi true=min hi m.jc[n].len:=by simp[zcj,hix,el]
   generalize hF:(zS m b.lane).flatMap (zd2 m r bar top e.slo b lo hi true)=F at hYl ⊢;rw[ec,et,el,zUa zcr rfl];by_cases d1:lo<=m.jc[n].len
   ·by_cases d2:max 0 lo<=min hi m.jc[n].len
    ·by_cases d3:hi<m.jc[n].len
     ·simp[zp,zT,zf,ze,zo,hn0,hnl,hI,hLg,d1,d2,d3,lbC,zg,List.range,List.range.loop,-zx]
     ·have hZ:=hYl [(⟨b.lane,max 0 lo,min hi m.jc[n].len,b.vlo,b.vhi,b.hold⟩,false)] (by simp) ⟨b.lane,max 0 lo,min hi m.jc[n].len,b.vlo,b.vhi,b.hold⟩ 3 [zbT (⟨b.lane,max 0 lo,min hi m.jc[n].len,b.vlo,b.vhi,b.hold⟩,false)] (.inr ⟨_,rfl⟩);simp[rlE,hn0,yJ,ecn,eln,hnl,zT,zf,ze,zbe,lbC,en1,zbT]at hZ;simp[zp,zT,zf,ze,zo,hn0,hnl,hI,hLg,d1,d2,d3,hZ,lbC,zg,List.range,List.range.loop,-zx]
    ·by_cases d3:hi<m.jc[n].len
     ·simp[zp,zT,zf,ze,zo,hn0,hnl,hI,hLg,d1,d2,d3,lbC,zg,List.range,List.range.loop,-zx]
     ·have hZ:=hYl [] (by simp) ⟨b.lane,max 0 lo,min hi m.jc[n].len,b.vlo,b.vhi,b.hold⟩ 3 [] (.inl rfl);simp[rlE,hn0,yJ,ecn,eln,hnl,zT,zf,ze,zbe,lbC,en1,zbT]at hZ;simp[zp,zT,zf,ze,zo,hn0,hnl,hI,hLg,d1,d2,d3,hZ,lbC,zg,List.range,List.range.loop,-zx]
   ·by_cases d3:hi<m.jc[n].len
    ·simp[zp,zT,zf,ze,zo,hn0,hnl,hI,hLg,d1,d3,lbC,zg,List.range,List.range.loop,-zx]
    ·have hZ:=hYl [] (by simp) ⟨b.lane,max 0 lo,min hi m.jc[n].len,b.vlo,b.vhi,b.hold⟩ 3 [] (.inl rfl);simp[rlE,hn0,yJ,ecn,eln,hnl,zT,zf,ze,zbe,lbC,en1,zbT]at hZ;simp[zp,zT,zf,ze,zo,hn0,hnl,hI,hLg,d1,d3,hZ,lbC,zg,List.range,List.range.loop,-zx]
  |false =>
   have ec:zcV r b.lane false=false:=by simp[zcV,hix]
   have ecn:=ec;rw[hn0]at ecn;have et:zcj m r top b.lane hi false=min hi m.jc[n].len:=by simp[zcj,hix,el]
   generalize hF:(zS m b.lane).flatMap (zd2 m r bar top e.slo b lo hi false)=F at hYl ⊢;rw[ec,et,el,zUa zcr rfl];by_cases d1:lo<=m.jc[n].len
   ·by_cases d2:max 0 lo<=min hi m.jc[n].len
    ·by_cases d3:hi<m.jc[n].len
     ·simp[zp,zT,zf,ze,zo,hn0,hnl,hI,hLg,d1,d2,d3,lbC,zg,List.range,List.range.loop,-zx]
     ·have hZ:=hYl [(⟨b.lane,max 0 lo,min hi m.jc[n].len,b.vlo,b.vhi,b.hold⟩,false)] (by simp) ⟨b.lane,max 0 lo,min hi m.jc[n].len,b.vlo,b.vhi,b.hold⟩ 3 [zbT (⟨b.lane,max 0 lo,min hi m.jc[n].len,b.vlo,b.vhi,b.hold⟩,false)] (.inr ⟨_,rfl⟩);simp[rlE,hn0,yJ,ecn,eln,hnl,zT,zf,ze,zbe,lbC,en1,zbT]at hZ;simp[zp,zT,zf,ze,zo,hn0,hnl,hI,hLg,d1,d2,d3,hZ,lbC,zg,List.range,List.range.loop,-zx]
    ·by_cases d3:hi<m.jc[n].len
     ·simp[zp,zT,zf,ze,zo,hn0,hnl,hI,hLg,d1,d2,d3,lbC,zg,List.range,List.range.loop,-zx]
     ·have hZ:=hYl [] (by simp) ⟨b.lane,max 0 lo,min hi m.jc[n].len,b.vlo,b.vhi,b.hold⟩ 3 [] (.inl rfl);simp[rlE,hn0,yJ,ecn,eln,hnl,zT,zf,ze,zbe,lbC,en1,zbT]at hZ;simp[zp,zT,zf,ze,zo,hn0,hnl,hI,hLg,d1,d2,d3,hZ,lbC,zg,List.range,List.range.loop,-zx]
   ·by_cases d3:hi<m.jc[n].len
    ·simp[zp,zT,zf,ze,zo,hn0,hnl,hI,hLg,d1,d3,lbC,zg,List.range,List.range.loop,-zx]
    ·have hZ:=hYl [] (by simp) ⟨b.lane,max 0 lo,min hi m.jc[n].len,b.vlo,b.vhi,b.hold⟩ 3 [] (.inl rfl);simp[rlE,hn0,yJ,ecn,eln,hnl,zT,zf,ze,zbe,lbC,en1,zbT]at hZ;simp[zp,zT,zf,ze,zo,hn0,hnl,hI,hLg,d1,d3,hZ,lbC,zg,List.range,List.range.loop,-zx]
 |some i =>
  obtain⟨hil,_⟩:=zfT hix;have hsb:=zmA h hil;have wS:=kg (top-ki m r i);have hsl:i<(zW m 0 r).length:=by rw[zcO];exact hil
  have hsi:(zW m 0 r)[i]=ki m r i:=by simp[ki,hsl]
  have hi0:(0:Int)<=(i:Int):=by omega
  have yJ:=hix;rw[hn0]at yJ;rw[hix]at hI;simp only[hn0,zbe]at hI;cases cap with
  |true =>
   have ec:zcV r b.lane true=true:=by simp[zcV,hix]
   have ecn:=ec;rw[hn0]at ecn;have et:zcj m r top b.lane hi true=min hi (min m.jc[n].len (top-ki m r i)):=by simp[zcj,hix,el]
   generalize hF:(zS m b.lane).flatMap (zd2 m r bar top e.slo b lo hi true)=F at hYl ⊢;rw[ec,et,el,zUa zcr rfl];by_cases d1:lo<=m.jc[n].len
   ·by_cases d2:max 0 lo<=min hi (min m.jc[n].len (top-ki m r i))
    ·by_cases d3:hi<m.jc[n].len
     ·simp[zp,zT,zf,ze,zo,hn0,hnl,hI,hLg,hil,hsl,hsi,wS,hi0,d1,d2,d3,lbC,zg,List.range,List.range.loop,-zx]
     ·have hZ:=hYl [(⟨b.lane,max 0 lo,min hi (min m.jc[n].len (top-ki m r i)),b.vlo,b.vhi,b.hold⟩,true)] (by simp) ⟨b.lane,max 0 lo,min hi (min m.jc[n].len (top-ki m r i)),b.vlo,b.vhi,b.hold⟩ 4 [zbT (⟨b.lane,max 0 lo,min hi (min m.jc[n].len (top-ki m r i)),b.vlo,b.vhi,b.hold⟩,true)] (.inr ⟨_,rfl⟩);simp[rlE,hn0,yJ,ecn,eln,hnl,zT,zf,ze,zbe,lbC,en1,zbT]at hZ;simp[zp,zT,zf,ze,zo,hn0,hnl,hI,hLg,hil,hsl,hsi,wS,hi0,d1,d2,d3,hZ,lbC,zg,List.range,List.range.loop,-zx]
    ·by_cases d3:hi<m.jc[n].len
     ·simp[zp,zT,zf,ze,zo,hn0,hnl,hI,hLg,hil,hsl,hsi,wS,hi0,d1,d2,d3,lbC,zg,List.range,List.range.loop,-zx]
     ·have hZ:=hYl [] (by simp) ⟨b.lane,max 0 lo,min hi (min m.jc[n].len (top-ki m r i)),b.vlo,b.vhi,b.hold⟩ 4 [] (.inl rfl);simp[rlE,hn0,yJ,ecn,eln,hnl,zT,zf,ze,zbe,lbC,en1,zbT]at hZ;simp[zp,zT,zf,ze,zo,hn0,hnl,hI,hLg,hil,hsl,hsi,wS,hi0,d1,d2,d3,hZ,lbC,zg,List.range,List.range.loop,-zx]
   ·by_cases d3:hi<m.jc[n].len
    ·simp[zp,zT,zf,ze,zo,hn0,hnl,hI,hLg,hil,hsl,hsi,wS,hi0,d1,d3,lbC,zg,List.range,List.range.loop,-zx]
    ·have hZ:=hYl [] (by simp) ⟨b.lane,max 0 lo,min hi (min m.jc[n].len (top-ki m r i)),b.vlo,b.vhi,b.hold⟩ 4 [] (.inl rfl);simp[rlE,hn0,yJ,ecn,eln,hnl,zT,zf,ze,zbe,lbC,en1,zbT]at hZ;simp[zp,zT,zf,ze,zo,hn0,hnl,hI,hLg,hil,hsl,hsi,wS,hi0,d1,d3,hZ,lbC,zg,List.range,List.range.loop,-zx]
  |false =>
   have ec:zcV r b.lane false=false:=by simp[zcV,hix]
   have ecn:=ec;rw[hn0]at ecn;have et:zcj m r top b.lane hi false=min hi m.jc[n].len:=by simp[zcj,hix,el]
   generalize hF:(zS m b.lane).flatMap (zd2 m r bar top e.slo b lo hi false)=F at hYl ⊢;rw[ec,et,el,zUa zcr rfl];by_cases d1:lo<=m.jc[n].len
   ·by_cases d2:max 0 lo<=min hi m.jc[n].len
    ·by_cases d3:hi<m.jc[n].len
     ·simp[zp,zT,zf,ze,zo,hn0,hnl,hI,hLg,hil,hsl,hsi,wS,hi0,d1,d2,d3,lbC,zg,List.range,List.range.loop,-zx]
     ·have hZ:=hYl [(⟨b.lane,max 0 lo,min hi m.jc[n].len,b.vlo,b.vhi,b.hold⟩,false)] (by simp) ⟨b.lane,max 0 lo,min hi m.jc[n].len,b.vlo,b.vhi,b.hold⟩ 3 [zbT (⟨b.lane,max 0 lo,min hi m.jc[n].len,b.vlo,b.vhi,b.hold⟩,false)] (.inr ⟨_,rfl⟩);simp[rlE,hn0,yJ,ecn,eln,hnl,zT,zf,ze,zbe,lbC,en1,zbT]at hZ;simp[zp,zT,zf,ze,zo,hn0,hnl,hI,hLg,hil,hsl,hsi,wS,hi0,d1,d2,d3,hZ,lbC,zg,List.range,List.range.loop,-zx]
    ·by_cases d3:hi<m.jc[n].len
     ·simp[zp,zT,zf,ze,zo,hn0,hnl,hI,hLg,hil,hsl,hsi,wS,hi0,d1,d2,d3,lbC,zg,List.range,List.range.loop,-zx]
     ·have hZ:=hYl [] (by simp) ⟨b.lane,max 0 lo,min hi m.jc[n].len,b.vlo,b.vhi,b.hold⟩ 3 [] (.inl rfl);simp[rlE,hn0,yJ,ecn,eln,hnl,zT,zf,ze,zbe,lbC,en1,zbT]at hZ;simp[zp,zT,zf,ze,zo,hn0,hnl,hI,hLg,hil,hsl,hsi,wS,hi0,d1,d2,d3,hZ,lbC,zg,List.range,List.range.loop,-zx]
   ·by_cases d3:hi<m.jc[n].len
    ·simp[zp,zT,zf,ze,zo,hn0,hnl,hI,hLg,hil,hsl,hsi,wS,hi0,d1,d3,lbC,zg,List.range,List.range.loop,-zx]
    ·have hZ:=hYl [] (by simp) ⟨b.lane,max 0 lo,min hi m.jc[n].len,b.vlo,b.vhi,b.hold⟩ 3 [] (.inl rfl);simp[rlE,hn0,yJ,ecn,eln,hnl,zT,zf,ze,zbe,lbC,en1,zbT]at hZ;simp[zp,zT,zf,ze,zo,hn0,hnl,hI,hLg,hil,hsl,hsi,wS,hi0,d1,d3,hZ,lbC,zg,List.range,List.range.loop,-zx]
theorem zvO{m:zD}{r:List Int}{bar:Int}(h:ziO m r bar)(e:Ego)(b:zk)(hb:0<=b.lane/\b.lane<m.jc.length)(hn:zS m b.lane=[])(lo hi:Int)(hlo:-100000000<=lo/\lo<=100000000)(hhi:-100000000<=hi/\hi<=100000000)(cap:Bool)(top:Int)(htop:-4000000000000<=top/\top<=4000000000000) :
  R L Cs zbD [.a (zT m r bar e),.a (ze b),W lo,W hi,Bo cap,W top] []=some (.w (.c (.jb (zdz (zbA m r top b lo hi cap)))),[]):=by
 rw[zrN h e b hb lo hi hlo hhi cap top htop (by simp[hn]) (by simp[hn]),hn];simp
theorem zxw{m:zD}(h:zcp m){a x:Int}(hx:x∈zS m a):0<=x/\x<m.jc.length:=by
 obtain⟨i,hi,rfl⟩:=qo hx;exact zqa h i hi
theorem zAR{m:zD}{r:List Int}{bar:Int}(h:ziO m r bar)(hs:zmX m)(e:Ego)(b:zk)(hb:0<=b.lane/\b.lane<m.jc.length)(lo hi:Int)(hlo:-90000000<=lo/\lo<=90000000)(hhi:-90000000<=hi/\hi<=90000000)(cap:Bool) :
  R L Cs zbD [.a (zT m r bar e),.a (ze b),W lo,W hi,Bo cap,W bar] []=some (.w (.c (.jb (zdz (zlZ m r bar e.slo b lo hi cap)))),[]):=by
 have hlen:=zcX h.qF hb;have BW:=h.bar;rw[zrN h e b hb lo hi (by omega) (by omega) cap bar h.bar (fun x hx c t ht=>zvO h e (za6 b x) (zxw h.qF hx) (hs.leaf b.lane x hx) _ _ (by omega) (by omega) c t (by rcases ht with rfl |rfl |rfl<;>omega)) (by have:=hs.nx b.lane;omega)];have:(zS m b.lane).flatMap (zd2 m r bar bar e.slo b lo hi cap)=(zS m b.lane).flatMap (zg3 m r bar e.slo b lo hi cap):=by
  congr 1
  funext x;exact zzF ..
 rw[this];rfl
theorem zjI{m:zD}(hs:zmX m)(r:List Int)(bar slo:Int)(b:zk)(lo hi:Int)(cap:Bool):(zlZ m r bar slo b lo hi cap).length<=3:=by
 have h1:=zeO m r bar b lo hi cap;have h2:=hs.nx b.lane;have h3:∀l:List Int,(l.flatMap (zg3 m r bar slo b lo hi cap)).length<=l.length:=by
  intro l;induction l with
  |nil=>simp
  |cons x l ih =>
   have:=znZ m r bar slo b lo hi cap x;simp only[jO,ju,jk];omega
 have h4:=h3 (zS m b.lane);unfold zlZ;split
 ·simp;omega
 ·rw[ju];omega
structure zA6(m:zD)(b x:zk):Prop where
 on:0<=x.lane/\x.lane<m.jc.length
 lo:0<=x.lo
 le:x.lo<=x.hi
 hi:x.hi<=z8 m x.lane
 vlo:x.vlo=b.vlo
 vhi:x.vhi=b.vhi
 hold:(x.lane=b.lane/\x.hold=b.hold)\/x.hold=0
theorem zzl(m:zD)(r:List Int)(bar lane hi:Int)(cap:Bool):zcj m r bar lane hi cap<=z8 m lane:=by
 unfold zcj;split
 ·split<;>omega
 ·omega
theorem zuU{m:zD}(r:List Int)(bar:Int)(b:zk)(hb:0<=b.lane/\b.lane<m.jc.length)(lo hi:Int)(cap:Bool):∀z∈zbA m r bar b lo hi cap,zA6 m b z.1:=by
 intro z hz;unfold zbA at hz;split at hz
 case isTrue c =>
  simp only[jJ]at hz;subst hz;simp only[stays,jl,decide_eq_true_eq]at c;have:=zzl m r bar b.lane hi cap;exact⟨hb,by simp only[zhO];omega,c.2,this,rfl,rfl,.inl ⟨rfl,rfl⟩⟩
 case isFalse c=>simp at hz
theorem zBF{m:zD}(h:zcp m)(r:List Int)(bar slo:Int)(b:zk)(hb:0<=b.lane/\b.lane<m.jc.length)(lo hi:Int)(cap:Bool):∀z∈zlZ m r bar slo b lo hi cap,zA6 m b z.1:=by
 intro z hz;unfold zlZ at hz;rcases jD.1 hz with hz|hz
 ·exact zuU r bar b hb lo hi cap z hz
 ·split at hz
  case isTrue=>simp at hz
  case isFalse =>
   obtain⟨x,hx,hz⟩:=qf.1 hz;have:=zuU r bar (za6 b x) (zxw h hx) _ _ _ z hz;exact⟨this.on,this.lo,this.le,this.hi,this.vlo,this.vhi,.inr (by rcases this.hold with⟨_,h⟩ |h<;>exact h)⟩
def zDT(m:zD)(n:Int):List Int :=
 if zbK m 0 m.jc=[] then [] else
 (zbK m 0 m.jc).getD ((n % 1048576).toNat % (zbK m 0 m.jc).length) 0::goR m 7 ((zbK m 0 m.jc).getD ((n % 1048576).toNat % (zbK m 0 m.jc).length) 0) ((n % 1048576).toNat / (zbK m 0 m.jc).length)
theorem zEm(m:zD)(n:Int):(zDT m n).length<=8:=by
 unfold zDT;split
 ·simp
 ·rw[jk];have:=zEZ m 7 ((zbK m 0 m.jc).getD ((n % 1048576).toNat % (zbK m 0 m.jc).length) 0) ((n % 1048576).toNat / (zbK m 0 m.jc).length);omega
theorem zFk{m:zD}(h:zcp m):∀(f:Nat) (a:Int) (n:Nat),0<=a/\a<m.jc.length->zj2 m (goR m f a n)
 |0,_,_,_=>by intro x hx;cases hx
 |f+1,a,n,ha=>by
  obtain⟨j,rfl⟩:=js ha.1;have hj:j<m.jc.length:=by omega
  have en:zS m (j:Int)=m.jc[j].next:=by simp[zS,hj]
  unfold goR;rw[en];split
  ·intro x hx;cases hx
  ·rename_i c;have hm:n % m.jc[j].next.length<m.jc[j].next.length:=ug _ (by omega);have eg:m.jc[j].next.getD (n % m.jc[j].next.length) 0=m.jc[j].next[n % m.jc[j].next.length]:=by simp[jm,hm]
   have hval:=h.small.valid _ (je hj) _ (je hm);rw[eg];intro x hx;rcases jy.1 hx with rfl|hx
   ·exact hval
   ·exact zFk h f _ _ hval x hx
theorem zFf{m:zD}(hne:zbK m 0 m.jc≠[])(N:Nat):0<=(zbK m 0 m.jc).getD (N % (zbK m 0 m.jc).length) 0/\(zbK m 0 m.jc).getD (N % (zbK m 0 m.jc).length) 0<m.jc.length:=by
 have h0:0<(zbK m 0 m.jc).length:=kC.2 hne;have hm:N % (zbK m 0 m.jc).length<(zbK m 0 m.jc).length:=ug _ h0;have eg:(zbK m 0 m.jc).getD (N % (zbK m 0 m.jc).length) 0=(zbK m 0 m.jc)[N % (zbK m 0 m.jc).length]:=by simp[jm,hm]
 rw[eg];exact zp8 m m.jc 0 (by omega) _ (je hm)
theorem zEy{m:zD}(h:zcp m)(n:Int):zj2 m (zDT m n):=by
 unfold zDT;split
 ·intro x hx;cases hx
 ·rename_i hne;have hs:=zFf hne (n % 1048576).toNat;intro x hx;rcases jy.1 hx with rfl|hx
  ·exact hs
  ·exact zFk h _ _ _ hs x hx
theorem zE3{m:zD}(h:zcp m)(n:Int):R L Cs zEb [.a (zf m),W n] []=some (.w (.c (.jb (zu (zDT m n)))),[]):=by
 have ho:=zzc h;have hm:=zEW n 1048576 (by omega) (by omega);have hr:=zDJ n 1048576 (by omega);have hlen:=zlK m m.jc 0;have hsm:=h.small.jc;unfold zDT;rw[zUa zEf rfl];by_cases c:zbK m 0 m.jc=[]
 ·rw[c]at ho;simp only[zf,zay]at ho ⊢;simp[zDO,ho,c,zg]
 ·have hs:=zFf c (n % 1048576).toNat;rw[if_neg c];generalize n % 1048576=N at *;obtain⟨N,rfl⟩:=js hr.1;generalize zbK m 0 m.jc=l at *;have h0:0<l.length:=kC.2 c;have hml:N % l.length<l.length:=ug _ h0;have hq:N / l.length<=N:=Nat.div_le_self _ _;simp only[Int.toNat_natCast]at *;have eg:l.getD (N % l.length) 0=l[N % l.length]:=by simp[jm,hml]
  rw[eg]at hs ⊢;obtain⟨b,t,hy⟩:=zEL h 7 l[N % l.length] (N / l.length) [l[N % l.length]] rfl hs.1 hs.2 (by omega);have e1:(N:Int).tmod (l.length:Int)=((N % l.length:Nat):Int):=by
   rw[kS (by omega)];rfl
  have e2:(N:Int).tdiv (l.length:Int)=((N / l.length:Nat):Int):=by
   rw[kr (by omega)];rfl
  have e3:IntKind.i64.wrap ((N / l.length:Nat):Int)=((N / l.length:Nat):Int):=zv4 (by omega);have hz:((l.length:Int)==0)=false:=beq_false_of_ne (by omega);have hz':(l.length:Int)≠0:=by omega
  generalize hq2:N / l.length=q at *;generalize hm2:N % l.length=p at *;simp only[zf,sl,own,zaP,zay,zfq,jk,jp]at ho hy ⊢;simp[zDO,ho,hm,c,hz,hz',e1,e2,e3,hml,hy,zg]
theorem zER{m:zD}(h:zcp m)(l:List Int)(hl:l.length<=1000):R L Cs zDU [.a (zf m),.c (.jb (zu l))] []=some (.w (W (if zdA m l=0 then zmd m 0 l else 0)),[]):=by
 by_cases c:zdA m l=0
 ·rw[if_pos c];exact zEp h c
 ·have hck:=zp0 m h.small h.AP l hl;rw[if_neg c];simp only[zf]at hck;have c0':(zdA m l==0)=false:=by simp[c]
  rw[zUa zDV rfl];simp[zDG,zf,hck,c,c0']
def zEo(len s v spread:Int):Ego:=⟨max 0 (s % (len+1)-(spread % 2000) / 2),min len (s % (len+1)+spread % 2000-(spread % 2000) / 2),max 0 (v % 2001-(spread % 2000) / 40),min 2000 (v % 2001+(spread % 2000) / 50)⟩
theorem zFy(len s v spread:Int)(h1:0<=len)(h2:len<=100000000):R L Cs zEc [W len,W s,W v,W spread] []=some (.w (.a (zch (zEo len s v spread))),[]):=by
 have g1:=zD0 s (len+1) (by omega) (by omega);have g2:=zD0 v 2001 (by omega) (by omega);have g3:=zD0 spread 2000 (by omega) (by omega);have r1:=zDJ s (len+1) (by omega);have r2:=zDJ v 2001 (by omega);have r3:=zDJ spread 2000 (by omega);have w0:=kg (len+1);unfold zEo;generalize s % (len+1)=s at *;generalize v % 2001=v at *;generalize spread % 2000=p at *;have d1:p.tdiv 2=p / 2:=kr r3.1;have d2:p.tdiv 40=p / 40:=kr r3.1;have d3:p.tdiv 50=p / 50:=kr r3.1;have q1:=kg (p / 2);have q2:=kg (p / 40);have q3:=kg (p / 50);have w1:=kg (s-p / 2);have w2:=kg (s+p);have w3:=kg (s+p-p / 2);have w4:=kg (v-p / 40);have w5:=kg (v+p / 50);rw[zUa zEg rfl];simp[zDX,g1,g2,g3,w0,w1,w2,w3,w4,w5,d1,d2,d3,q1,q2,q3,zg]
theorem zE6{m:zD}(h:zcp m)(n:Int):∀(f i:Nat),i+f=4 ->
  (Y L Cs zDD (some [1,2,5]) 2 [(1,.w (W n)),(2,.w (Pt 0)),(5,.w (W i))] [bx 5 (zf m),gb 1] =
   some (.exit 0,[(8,.w (Bo false)),(2,.w (Pt 0)),(1,.w (W n)),(5,.w (W 4))],[bx 5 (zf m),gb 1])) \/
  (∃k,zaK m ((zDT m k).headD 0)=1/\Y L Cs zDD (some [1,2,5]) 2 [(1,.w (W n)),(2,.w (Pt 0)),(5,.w (W i))] [bx 5 (zf m),gb 1] =
   some (.ret,[(4,.w (.c (.jb (zu (zDT m k)))))],[bx 5 (zf m),gb 1])):=by
 intro f;induction f with
 |zero =>
  intro i hi;obtain rfl:i=4:=by omega
  left;rw[zj zDD.eq_1];simp
 |succ f ih =>
  intro i hi;have hi4:(i:Int)<4:=by omega
  have hw:=zB (i:=i) (by omega);have hm:=zEW n 1048576 (by omega) (by omega);have hr:=zDJ n 1048576 (by omega);have hw2:=kg (n % 1048576+i);have hR:=zE3 h (n % 1048576+i);have hon:=zEy h (n % 1048576+i);rw[zj zDD.eq_1];have ih':=ih (i+1) (by omega);have hk:∀q,q=zDT m (n % 1048576+i)->∃k,q=zDT m k:=fun q hq=>⟨_,hq⟩
  generalize hq:zDT m (n % 1048576+i)=q at *;cases q with
  |nil =>
   rcases ih' with ih' |⟨k,hkd,ih'⟩
   ·left;rw[<-ih'];simp only[zf,zay]at hR ⊢;simp[hi4,hw,hm,hw2,hR]
   ·right;refine⟨k,hkd,?_⟩;rw[<-ih'];simp only[zf,zay]at hR ⊢;simp[hi4,hw,hm,hw2,hR]
  |cons x r =>
   have hx:=hon x (by simp);obtain⟨j,rfl⟩:=js hx.1;have hj:j<m.jc.length:=by omega
   by_cases c:m.jc[j].kind=1
   ·right;refine⟨n % 1048576+i,by rw[hq];simp[zaK,hj,c],?_⟩;rw[hq];simp only[zf,zaP]at hR ⊢;simp[hi4,hw,hm,hw2,hR,hj,zo,c]
   ·have cb:(m.jc[j].kind==1)=false:=by simp[c]
    rcases ih' with ih' |⟨k,hkd,ih'⟩
    ·left;rw[<-ih'];simp only[zf,zaP]at hR ⊢;simp[hi4,hw,hm,hw2,hR,hj,zo,c,cb]
    ·right;refine⟨k,hkd,?_⟩;rw[<-ih'];simp only[zf,zaP]at hR ⊢;simp[hi4,hw,hm,hw2,hR,hj,zo,c,cb]
theorem zT8{m:zD}(h:zcp m)(n:Int):∃k,(k=0\/zaK m ((zDT m k).headD 0)=1)/\R L Cs zD3 [.a (zf m),W n] []=some (.w (.c (.jb (zu (zDT m k)))),[]):=by
 rw[zUa zD5 rfl];rcases zE6 h n 4 0 rfl with hl |⟨k,hkd,hl⟩
 ·refine⟨0,.inl rfl,?_⟩;have hR:=zE3 h 0;simp only[zf,jg]at hl hR ⊢;simp[zDK,hl,hR]
 ·refine⟨k,.inr hkd,?_⟩;simp only[zf,jg]at hl ⊢;simp[zDK,hl]
theorem zES{m:zD}(h:zcp m)(n:Int):∃k,R L Cs zD3 [.a (zf m),W n] []=some (.w (.c (.jb (zu (zDT m k)))),[]):=by
 obtain⟨k,_,h⟩:=zT8 h n;exact⟨k,h⟩
def zDS(l:List Bit):List (List Cl):=l.map zEx
@[simp] theorem zFB(l:List Bit):(zDS l).length=l.length:=by simp[zDS]
@[simp] theorem zFc{l:List Bit}{i:Nat}(h:i<(zDS l).length):(zDS l)[i]=zEx (l[i]'(by simpa using h)):=by simp[zDS]
@[simp] theorem zFF(b:Bit):(zEx b).length=6:=rfl
theorem zEU{m:zD}(h:zcp m)(hne:0<m.jc.length)(l:List Bit)(hl:l.length<=100)(hh:∀x∈l,zk0 x.hold)(spread v s tick:Int)(q:List (List Cl)):∀(r:List Bit) (i:Nat) (out:List zk),l.drop i=r->i<=l.length->out.length=i ->
  Y L Cs zDL (some [15,16,14,6,5,4,1,3,2,7]) 3 [(15,.w (.c (sl 2 6 (zI out)))),(16,.w (W i)),(14,.w (Pt 1)),(6,.w (W spread)),(5,.w (W v)),(4,.w (W s)),(1,.w (.c (.jb q))),(3,.w (W tick)),(2,.w (.c (.jb (zDS l)))),(7,.w (Pt 0))] [bx 5 (zf m),bx 6 zFA,some (own 6 (zI out))] =
    some (.exit 0,[(20,.w (Bo false)),(15,.w (.c (sl 2 6 (zI (out++r.map (zDN m)))))),(16,.w (W l.length)),(14,.w (Pt 1)),(6,.w (W spread)),(5,.w (W v)),(4,.w (W s)),(1,.w (.c (.jb q))),(3,.w (W tick)),(2,.w (.c (.jb (zDS l)))),(7,.w (Pt 0))],[bx 5 (zf m),bx 6 zFA,some (own 6 (zI (out++r.map (zDN m))))]):=by
 intro r;induction r with
 |nil =>
  intro i out hd hi ho;obtain rfl:=zUb hd hi;rw[zj zDL.eq_1];simp
 |cons x r ih =>
  intro i out hd hi ho;subst ho;obtain⟨hil,hx,hd'⟩:=zL hd;have hw:=zB (i:=out.length) (by omega);have hb:=zEq h hne x (hh x (by rw[<-hx];exact je _));have jX:(out.length+1)*48<=140737488355328:=by omega
  rw[kN,show out++zDN m x::r.map (zDN m)=(out++[zDN m x])++r.map (zDN m) by simp,<-ih (out.length+1) (out++[zDN m x]) hd' hil (by simp),zj zDL.eq_1];clear ih;generalize zDN m x=b at *;simp only[zf,zEx,ze]at hb;simp[hil,hx,zEx,ze,zf,hb,hw,jX,zg,zH]
def zD1(m:zD)(q:List Int)(l:List Bit)(tick s v spread:Int):zci :=
 ⟨tick % 1000,zcz (l.map (zDN m)),zEo (if zdA m q=0 then zmd m 0 q else 0) s v spread⟩
theorem zFz{m:zD}(h:zcp m)(hne:0<m.jc.length)(q:List Int)(hq:q.length<=8)(l:List Bit)(hl:l.length<=100)(hh:∀x∈l,zk0 x.hold)(tick s v spread:Int) :
  R L Cs zEe [.a (zf m),.c (.jb (zu q)),.c (.jb (zDS l)),W tick,W s,W v,W spread] []=some (.w (.a (zG (zD1 m q l tick s v spread))),[]):=by
 have h1:=zEU h hne l hl hh spread v s tick (zu q) l 0 [] rfl (jt _) rfl;have h2:=zD0 tick 1000 (by omega) (by omega);have yQ:∀x∈l.map (zDN m),OKB x:=by
  intro x hx;obtain⟨y,_,rfl⟩:=ko.1 hx;have f:=zEA h hne y;have g:=zcX h f.lane;have:=f.lo;have:=f.le;have:=f.hi;exact⟨by omega,by omega,by omega,by omega⟩
 have h3:=zy7 (l.map (zDN m)) (by simp;omega) yQ;have h4:=zER h q (by omega);have hL:0<=(if zdA m q=0 then zmd m 0 q else 0)/\(if zdA m q=0 then zmd m 0 q else 0)<=100000000:=by
  split
  ·rename_i c;obtain⟨hon,_,_⟩:=zg1 h c;have:=zEC h q 0 hon (by omega);omega
  ·omega
 have h5:=zFy (if zdA m q=0 then zmd m 0 q else 0) s v spread hL.1 hL.2;have htk:List.take l.length (l.map (zDN m))=l.map (zDN m):=jG (by simp);unfold zD1;generalize (if zdA m q=0 then zmd m 0 q else 0)=n at *;generalize zEo n s v spread=e at *;simp only[zf,jg,jf,zic,sl,own,jp,zgg,zG,zch,qr]at h1 h3 h4 h5 ⊢;rw[zUa zEi rfl];simp[zDY,h1,h2,h3,h4,h5,zg,htk,zX]
def Ord(a b:zk):Prop:=a.lane<b.lane\/a.lane=b.lane/\a.lo<=b.lo
theorem not_lt{x s:zk}(h:ltB x s=false):Ord s x:=by
 unfold ltB at h;unfold Ord;simp at h;omega
theorem zqr(k key:Nat)(l:List (List Int)):(ziS k key l).Perm l:=by
 obtain⟨⟨h1,h2,h3⟩,_⟩:=znh k key l;unfold ziS;generalize Go.Sort.pdq (ltZ k key) l.toArray 0 l.length (zsn l.length) true true=d at *;have e1:d.size=l.length:=by simpa using h1
 have e2:d.extract 0 l.length=d:=by rw[<-e1];simp
 have e3:l.toArray.extract 0 l.length=l.toArray:=by simp
 rw[e2,e3]at h3;simpa using h3
theorem ztv(k key:Nat)(l:List (List Int)):(ziS k key l).Pairwise fun x y=>ltZ k key y x=false:=by
 obtain⟨⟨h1,h2,h3⟩,h4⟩:=znh k key l;unfold ziS;generalize Go.Sort.pdq (ltZ k key) l.toArray 0 l.length (zsn l.length) true true=d at *;have e1:d.size=l.length:=by simpa using h1
 rw[qu];intro i j hi hj hij;have hj':j<d.size:=by simpa using hj
 have hi':i<d.size:=by simpa using hi
 have:=h4 i j (jt _) hij (by omega);rw[getElem!_pos d i hi',getElem!_pos d j hj']at this;simpa using this
structure Swp where
 lane:Int
 lo:Int
 hi:Int
 cap:Bool
 deriving DecidableEq
abbrev zpa:Swp:=⟨0,0,0,false⟩
def swC(s:Swp):List Cl:=[I s.lane,I s.lo,I s.hi,.bool s.cap]
def zbf(l:List Swp):List (List Cl):=l.map swC
@[simp] theorem zmB(l:List Swp):(zbf l).length=l.length:=by simp[zbf]
@[simp] theorem zoB:zbf []=[]:=rfl
@[simp] theorem zCn(x:Swp)(l:List Swp):zbf (x::l)=swC x::zbf l:=rfl
@[simp] theorem zsU(l k:List Swp):zbf (l++k)=zbf l++zbf k:=by simp[zbf]
@[simp] theorem zBa{l:List Swp}{i:Nat}(h:i<(zbf l).length):(zbf l)[i]=swC (l[i]'(by simpa using h)):=by simp[zbf]
@[simp] theorem zwp(l:List Swp)(k:Nat):(zbf l).take k=zbf (l.take k):=by simp[zbf,yF]
@[simp] theorem zCm(l:List Swp)(k:Nat):(zbf l).drop k=zbf (l.drop k):=by simp[zbf,List.map_drop]
def zji(s:Swp):List Int:=[s.lane,s.lo,s.hi,if s.cap then 1 else 0]
theorem zAe{a b:Swp}(h:zji a=zji b):a=b:=by
 cases a with |mk a1 a2 a3 a4=>cases b with |mk b1 b2 b3 b4 =>
 simp[zji]at h;obtain⟨rfl,rfl,rfl,h⟩:=h;cases a4<;>cases b4<;>simp at h<;>rfl
def ltS(a b:Swp):Bool:=zhX (zji a) (zji b)
theorem ztZ(a:Swp):ltS a a=false:=zqV _
theorem zoL{a b c:Swp}(h1:ltS a b=true)(h2:ltS b c=true):ltS a c=true:=zkz h1 h2
theorem zoM{a b:Swp}(h1:ltS a b=false)(h2:ltS b a=false):a=b:=zAe (znq h1 h2)
theorem zz2(a b:Swp):ltS a b=(decide (a.lane<b.lane)||(decide (a.lane=b.lane)&&(decide (a.lo<b.lo)||(decide (a.lo=b.lo)&&(decide (a.hi<b.hi)||(decide (a.hi=b.hi)&&(!a.cap&&b.cap))))))):=by
 unfold ltS zji;cases a.cap<;>cases b.cap<;>simp[zhX]
def zik(l:List Int):Swp:=⟨l.getD 0 0,l.getD 1 0,l.getD 2 0,l.getD 3 0 !=0⟩
theorem zkt(s:Swp):zik (zji s)=s:=by
 cases s with |mk a b c d=>cases d<;>rfl
def zlg(l:List Swp):List Swp:=(ziS 4 7 (l.map zji)).map zik
theorem zsK(l:List Swp):(zlg l).Perm l:=by
 have:=(zqr 4 7 (l.map zji)).map zik;have e:List.map zik (List.map zji l)=l:=by rw[List.map_map];simp[Function.comp_def,zkt]
 rwa [e]at this
theorem zhh(l:List Swp):(zlg l).length=l.length:=(zsK l).length_eq
theorem zoH{k key:Nat}{l:List (List Int)}{x:List Int}(h:x∈ziS k key l):x∈l:=(zqr k key l).mem_iff.1 h
theorem zyr(s:Swp):zsY 4 7 (zji s)=zji s:=by
 unfold zji zsY;cases s.cap<;>simp[List.range,List.range.loop,zgk]
theorem zuK(l:List Swp):(zlg l).Pairwise fun x y=>ltS y x=false:=by
 unfold zlg;rw[List.pairwise_map];refine List.Pairwise.imp_of_mem ?_ (ztv 4 7 (l.map zji));intro a b ha hb h;obtain⟨x,_,rfl⟩:=ko.1 (zoH ha);obtain⟨y,_,rfl⟩:=ko.1 (zoH hb);rw[zkt,zkt];simpa [ltZ,zyr,ltS]using h
theorem zzf(l:List Swp):zv2 4 7 (zbf l)=some (l.map zji):=by
 induction l with
 |nil=>rfl
 |cons f l ih=>simp[zv2,zuC,swC,ih,zji,zgk]
theorem zBM(s:Swp):zsl 4 7 (zji s)=swC s:=by
 unfold zsl zji swC;cases s.cap<;>simp[List.range,List.range.loop,zjS,zgk]
theorem zx5(l:List Swp):(ziS 4 7 (l.map zji)).map (zsl 4 7)=zbf (zlg l):=by
 unfold zlg zbf;rw[List.map_map];refine List.map_congr_left fun a ha=>?_
 obtain⟨x,_,rfl⟩:=ko.1 (zoH ha);simp only[Function.comp_def,zkt,zBM]
theorem zv1:List.lookup zbb Cs=some (0,64*zar+39,false):=by kernel_rfl
theorem zxP:L.lookup zbb=none:=by kernel_rfl
abbrev swB(v:Nat)(o:List Swp):Option Blk:=some { box:=false,esz:=4,rows:=zbf o,gen:=o.length,fz:=false,ver:=v }
abbrev swS(id:Nat)(o:List Swp):Cl:=.slice id o.length 4 0 o.length none
theorem zvU(w:Nat):R L Cs zbb [.c (swS 0 []),.c (.fn zar [] [])] [swB w []]=some (.t [],[swB w []]):=by
 rw[zrP zxP];unfold vX;rw[zv1];have e1:(64*zar+39) / 64=zar:=by decide
 simp[e1,zqs]
theorem zB0(l:List Swp)(hl:l.length<=100000000000)(h0:l≠[])(w:Nat):R L Cs zbb [.c (swS 0 l),.c (.fn zar [] [])] [swB w l]=some (.t [],[swB (w+1) (zlg l)]):=by
 rw[zrP zxP];unfold vX;rw[zv1];have e1:(64*zar+39) / 64=zar:=by decide
 have e2:(64*zar+39) / 8 % 8=4:=by decide
 have e3:(64*zar+39) % 8=7:=by decide
 have h1:l.length≠0:=by simpa using h0
 have h2:l.length<4611686018427387904:=by omega
 have hz:=zzf l;have hr:=zx5 l;have hd:List.drop l.length (zbf l)=[]:=uh (by simp);have ht:List.take l.length (zbf l)=zbf l:=jG (by simp);simp[e1,e2,e3,zqs,h0,h1,h2,hz,hr,hd,ht,zhh]
abbrev zxk(l:List Swp):Prop:=l.Pairwise fun x y=>ltS x y=true
theorem ztj:∀{a b:List Swp},zxk a->zxk b->(∀x,x∈a<->x∈b)->a=b
 |[],[],_,_,_=>rfl
 |[],y::b,_,_,h=>absurd ((h y).2 (jr ..)) (by simp)
 |x::a,[],_,_,h=>absurd ((h x).1 (jr ..)) (by simp)
 |x::a,y::b,ha,hb,h=>by
  have hx:=jZ.1 ha;have hy:=jZ.1 hb;have e:x=y:=by
   rcases jy.1 ((h x).1 (jr ..))with e|h1
   ·exact e
   ·rcases jy.1 ((h y).2 (jr ..))with e|h2
    ·exact e.symm
    ·have:=zoL (hy.1 x h1) (hx.1 y h2);rw[ztZ]at this;cases this
  subst e
  congr 1
  refine ztj hx.2 hy.2 fun z=>⟨fun hz=>?_,fun hz=>?_⟩
  ·rcases jy.1 ((h z).1 (jv _ hz))with e|h1
   ·subst e;have:=hx.1 z hz;rw[ztZ]at this;cases this
   ·exact h1
  ·rcases jy.1 ((h z).2 (jv _ hz))with e|h1
   ·subst e;have:=hy.1 z hz;rw[ztZ]at this;cases this
   ·exact h1
def zhp:List Swp->List Swp
 |[]=>[]
 |[x]=>[x]
 |x::y::l=>if x=y then zhp (y::l) else x::zhp (y::l)
theorem zrs:∀(l:List Swp) (z:Swp),z∈zhp l<->z∈l
 |[],z=>by simp[zhp]
 |[x],z=>by simp[zhp]
 |x::y::l,z=>by
  rw[zhp];have ih:=zrs (y::l) z;split
  ·next h=>subst h;rw[ih];simp
  ·rw[jy,ih];simp
theorem zvs:∀(l:List Swp),l.Pairwise (fun x y=>ltS y x=false)->zxk (zhp l)
 |[],_=>by simp[zhp]
 |[x],_=>by simp[zhp]
 |x::y::l,h=>by
  have h1:=jZ.1 h;have ih:=zvs (y::l) h1.2;rw[zhp];split
  ·exact ih
  ·next hne =>
   refine jZ.2 ⟨fun z hz=>?_,ih⟩;have hz':=(zrs _ _).1 hz;have hxz:=h1.1 z hz';cases hlt:ltS x z with
   |true=>rfl
   |false =>
    exfalso;have e:=zoM hlt hxz;subst e;have hxy:=h1.1 y (jr ..);rcases jy.1 hz' with e|h2
    ·exact hne e
    ·have:=(jZ.1 h1.2).1 x h2;exact hne (zoM this hxy)
theorem zy5(a b:Swp):R L Cs zjN [.a (swC a),.a (swC b)] []=some (.w (Bo (ltS a b)),[]):=by
 rw[zUa zj8 rfl,zz2];by_cases h1:a.lane=b.lane
 ·by_cases h2:a.lo=b.lo
  ·by_cases h3:a.hi=b.hi
   ·cases ha:a.cap<;>cases hb:b.cap<;>simp[zbB,swC,h1,h2,h3,ha,hb]
   ·simp[zbB,swC,h1,h2,h3]
  ·simp[zbB,swC,h1,h2]
 ·simp[zbB,swC,h1]
def zdN(x:Swp)(s:List Swp):Nat->Nat
 |0=>0
 |a+1=>if ltS x (s.getD a zpa)=true then zdN x s a else a+1
theorem zjA(x:Swp)(s:List Swp):∀a,zdN x s a<=a
 |0=>jo _
 |a+1=>by unfold zdN;split;exact Nat.le_succ_of_le (zjA x s a);exact jo _
abbrev zdQ(s:List Swp):Option Blk:=some (own 4 (zbf s))
theorem zzw(l s:List Swp)(i:Nat)(hi:i<l.length)(hs:s.length<=900000000000)(M:Mem)(id:Nat)(hM:M[id]?=some (zdQ s)):∀(a:Nat),a<=s.length ->
  Y L Cs zbH (some [5,3,0,4]) M.length [(5,.w (W a)),(3,.w (.c (.slice id s.length 4 0 s.length none))),(0,.w (.c (.jb (zbf l)))),(4,.w (W i))] M =
    some (.exit 2,[(27,.w (Bo false)),(5,.w (W (zdN l[i] s a))),(3,.w (.c (.slice id s.length 4 0 s.length none))),(0,.w (.c (.jb (zbf l)))),(4,.w (W i))],M):=by
 intro a;induction a with
 |zero =>
  intro ha;rw[zj zbH.eq_1];simp[zdN]
 |succ a ih =>
  intro ha;have has:a<s.length:=by omega
  have e1:s.getD a zpa=s[a]:=by simp[has]
  have hc:=zy5 l[i] s[a];have hg:(0:Int)<(a:Int)+1:=by omega
  have hwa:IntKind.i64.wrap (a:Int)=(a:Int):=zTd _ (by omega) (by omega);simp only[swC]at hc;rw[zdN,e1];have Bi:∀E:Env,j6 M.length E M=M:=fun E=>by simp[j6]
  by_cases h:ltS l[i] s[a]=true
  ·rw[h]at hc;rw[if_pos h,<-ih (by omega),zj zbH.eq_1];simp[hg,hi,hM,own,has,hwa,hc,swC,Bi]
  ·have h':ltS l[i] s[a]=false:=by simpa using h
   rw[h']at hc;rw[if_neg h,zj zbH.eq_1];simp[hg,hi,hM,own,has,hwa,hc,swC]
def zlL(s:List Swp)(x:Swp):List Swp:=s.take (zdN x s s.length)++x::s.drop (zdN x s s.length)
def zx3(s:List Swp)(x:Swp):Bool:=decide (0<zdN x s s.length)&&decide (s.getD (zdN x s s.length-1) zpa=x)
def zdM(s:List Swp)(x:Swp):List Swp:=if zx3 s x=true then s else zlL s x
theorem zsO(s:List Swp)(x:Swp):(zlL s x).length=s.length+1:=by
 have:=zjA x s s.length;simp[zlL];omega
theorem zwa(s:List Swp)(x:Swp):(zdM s x).length<=s.length+1:=by
 unfold zdM;split
 ·omega
 ·rw[zsO];exact jo _
theorem zDg{a b:Swp}(h:a≠b):(a.lane==b.lane&&(a.lo==b.lo&&(a.hi==b.hi&&a.cap==b.cap)))=false:=by
 cases a with |mk a1 a2 a3 a4=>cases b with |mk b1 b2 b3 b4 =>
 cases hh:(a1==b1&&(a2==b2&&(a3==b3&&a4==b4)))with
 |false=>rfl
 |true =>
  exfalso;simp only[jl,beq_iff_eq]at hh;obtain⟨rfl,rfl,rfl,rfl⟩:=hh;exact h rfl
theorem zrl{a b:Swp}(h:a≠b):zbM [false,false,false,true] [I a.lane,I a.lo,I a.hi,.bool a.cap] [I b.lane,I b.lo,I b.hi,.bool b.cap]=some false:=by
 have h1:=zDg h;by_cases c1:a.lane=b.lane
 ·by_cases c2:a.lo=b.lo
  ·by_cases c3:a.hi=b.hi
   ·have c4:(a.cap==b.cap)=false:=by
     rw[c1,c2,c3]at h1;simpa using h1
    simp[c1,c2,c3,c4]
   ·have c3':(a.hi==b.hi)=false:=by simp[c3]
    simp[c1,c2,c3']
  ·have c2':(a.lo==b.lo)=false:=by simp[c2]
   simp[c1,c2']
 ·have c1':(a.lane==b.lane)=false:=by simp[c1]
  simp[c1']
theorem zuE(l:List Swp)(hl:l.length<=900000000000):∀(r:List Swp) (i:Nat) (s:List Swp) (M:Mem) (id:Nat),l.drop i=r->i<=l.length->s.length<=i->M[id]?=some (zdQ s)->(M.length<=2\/2<=id)->2<=M.length->zs9 M ->
  ∃M' id',zs9 M'/\M'[id']?=some (zdQ (r.foldl zdM s))/\Y L Cs zbG (some [0,3,4]) 2 [(0,.w (.c (.jb (zbf l)))),(3,.w (.c (.slice id s.length 4 0 s.length none))),(4,.w (W i))] M =
   some (.exit 0,[(9,.w (Bo false)),(3,.w (.c (.slice id' (r.foldl zdM s).length 4 0 (r.foldl zdM s).length none))),(0,.w (.c (.jb (zbf l)))),(4,.w (W l.length))],M'):=by
 intro r;induction r with
 |nil =>
  intro i s M id hd hi hs hM hid hML hfl;obtain rfl:=zUb hd hi;refine⟨M,id,hfl,hM,?_⟩;rw[zj zbG.eq_1];simp
 |cons x r ih =>
  intro i s M id hd hi hs hM hid hML hfl;obtain⟨hil,hx,hd'⟩:=zL hd;have hw:=zB (i:=i) (by omega);have hat:=zzw l s i hil (by omega) M id hM s.length (jo _);rw[hx]at hat;have AM:id<M.length:=(jW.1 hM).1;have hle:=zjA x s s.length;by_cases hb:zx3 s x=true
  ·obtain⟨M',id',hf',h1,h2⟩:=ih (i+1) s M id hd' hil (by omega) hM hid hML hfl;have e:zdM s x=s:=by simp[zdM,hb]
   rw[jN,e];refine⟨M',id',hf',h1,?_⟩;rw[<-h2,zj zbG.eq_1];have hdr:=fun(E:Env) (hE:(3,AV.w (.c (.slice id s.length 4 0 s.length none)))∈E)=>zkI hE hid
   simp only[zx3,jl,decide_eq_true_eq]at hb;generalize zdN x s s.length=a at *;obtain⟨a,rfl⟩:∃b,a=b+1:=⟨a-1,by omega⟩;have has:a<s.length:=by omega
   have e1:s[a]=x:=by have:=hb.2;simpa [has]using this
   have hg:(0:Int)<(a:Int)+1:=by omega
   have hwa:IntKind.i64.wrap (a:Int)=(a:Int):=zTd _ (by omega) (by omega);have hdl:∀E:Env,j6 M.length E M=M:=fun E=>by simp[j6]
   simp[hil,hx,hat,hg,hwa,hM,own,has,e1,swC,hw,hdr,hdl,-j6]
  ·have e:zdM s x=zlL s x:=by simp[zdM,hb]
   have hM2:(M++[zdQ (zlL s x),some (own 4 [swC x])])[M.length]?=some (zdQ (zlL s x)):=by simp
   have hl2:(2:Nat)<=M.length:=hML;obtain⟨M',id',hf',h1,h2⟩:=ih (i+1) (zlL s x) (M++[zdQ (zlL s x),some (own 4 [swC x])]) M.length hd' hil (by rw[zsO];omega) hM2 (.inr hl2) (by simp) (by
    intro y hy b hb;rcases jD.1 hy with h|h
    ·exact hfl y h b hb
    ·simp at h;rcases h with rfl|rfl<;>(cases hb;rfl))
   rw[jN,e];refine⟨M',id',hf',h1,?_⟩;have hdr:∀(v v2:AV) (g len:Nat) (N:Mem),j6 2 [(0,v2),(3,.w (.c (.slice M.length g 4 0 len none))),(4,v)] (M++N)=M++N:=fun v v2 g len N=>zkI (id:=M.length) (g:=g) (es:=4) (off:=0) (len:=len) (c:=none) (by simp) (.inr hl2)
   rw[<-h2,zj zbG.eq_1];simp only[zlL];simp only[zx3,jl,decide_eq_true_eq]at hb;generalize zdN x s s.length=a at *;have hdl:∀E:Env,j6 M.length E M=M:=fun E=>by simp[j6]
   have hal:(a:Int)<=(s.length:Int):=by omega
   have r1:∀n,n<=900000000000->n*32<=140737488355328:=fun n hn=>by omega
   have hta:(s.take a).length=a:=by simp;omega
   have htd:(s.drop a).length=s.length-a:=by simp
   have hsz:a+(s.length-a)=s.length:=by omega
   have hg:∀N:Mem,(M++N)[id]?=some (zdQ s):=fun N=>by rw[jw AM,hM]
   have d1:a-s.length=0:=by omega
   cases h1:s.take a with
   |nil =>
    have ha0:a=0:=by have:=congrArg List.length h1;simp at this;rcases this with h |h;exact h;subst h;simpa using hle
    have hgt:(0<a)=False:=eq_false (by omega);cases h2:s.drop a with
    |nil=>simp[hil,hx,swC,hw,hdr,hat,hM,AM,hg,zdQ,own,hle,h1,h2,zg,hdl,hal,hsz,r1,hgt,-j6]
    |cons z t2 =>
     have ht2:t2.length+1+1<=900000000000:=by have:=congrArg List.length h2;simp at this;omega
     have ht3:s.length-a=t2.length+1:=by have:=congrArg List.length h2;simp at this;omega
     have ht4:(1+(t2.length+1))*32<=140737488355328:=by omega
     have ht5:1+(t2.length+1)=t2.length+1+1:=by omega
     have ht6:a+(t2.length+1)<=s.length:=by omega
     simp[hil,hx,swC,hw,hdr,hat,hM,AM,hg,zdQ,own,hle,h1,h2,zg,hdl,hal,hsz,r1,ht2,ht3,ht4,ht5,ht6,hgt,-j6]
   |cons y t1 =>
    have ht1:t1.length+1=a:=by have:=congrArg List.length h1;simp at this;omega
    obtain⟨b,rfl⟩:∃b,a=b+1:=⟨a-1,by omega⟩;have hbs:b<s.length:=by omega
    have hne:s[b]≠x:=by
     intro he;exact hb ⟨by omega,by simp[hbs,he]⟩
    have heq:=zrl hne;have hgt:(0:Int)<(b:Int)+1:=by omega
    have hq0:(0:Int)<=(b:Int)+1:=by omega
    have hq1:(b:Int)+1<=(s.length:Int):=by omega
    have hMi:M[id]=zdQ s:=by have:=hM;rw[jq AM]at this;simpa using this
    have hwa:IntKind.i64.wrap (b:Int)=(b:Int):=zTd _ (by omega) (by omega);have hr1:=r1 (t1.length+1) (by omega);have hr2:=r1 (t1.length+1+1) (by omega);cases h2:s.drop (b+1)with
    |nil=>simp[hil,hx,swC,hw,hdr,hat,hM,AM,hg,zdQ,own,hle,h1,h2,zg,hdl,hal,hsz,r1,hr1,hr2,hgt,hwa,hbs,heq,hMi,hq0,hq1,-zbM,-j6]
    |cons z t2 =>
     have hr3:=r1 (t1.length+1+1+(t2.length+1)) (by have:=congrArg List.length h2;simp at this;omega);have ht3:s.length-(b+1)=t2.length+1:=by have:=congrArg List.length h2;simp at this;omega
     have ht6:b+1+(t2.length+1)<=s.length:=by omega
     have ht7:t1.length+1+1+(t2.length+1)=t1.length+(t2.length+1+1)+1:=by omega
     have hr4:(t1.length+(t2.length+1+1)+1)*32<=140737488355328:=by rw[<-ht7];exact hr3
     have ht8:List.take (t1.length+1) (zbf t1++[[I x.lane,I x.lo,I x.hi,.bool x.cap]])=zbf t1++[[I x.lane,I x.lo,I x.hi,.bool x.cap]]:=jG (by simp);have ht2:t2.length+1+(b+1)=s.length:=by have:=congrArg List.length h2;simp at this;omega
     simp[hil,hx,swC,hw,hdr,hat,hM,AM,hg,zdQ,own,hle,h1,h2,zg,hdl,hal,hsz,r1,ht2,hr1,hr2,hr3,hr4,ht3,ht6,ht7,ht8,hgt,hwa,hbs,heq,hMi,hq0,hq1,-zbM,-j6]
theorem zv7(l:List Swp):∀s:List Swp,(l.foldl zdM s).length<=s.length+l.length:=by
 induction l with
 |nil=>intro s;simp
 |cons x l ih =>
  intro s;have h1:=ih (zdM s x);have h2:=zwa s x;rw[jN,jk];omega
theorem zAO(l:List Swp)(hl:l.length<=800000000000):R L Cs zjM [.c (.jb (zbf l))] []=some (.w (.c (.jb (zbf (l.foldl zdM [])))),[]):=by
 obtain⟨P,id,hP,hid,h2⟩:=zuE l (by omega) l 0 [] [gb 4,gb 4] 1 rfl (jt _) (jt _) rfl (.inl (by simp)) (by simp) (by intro x hx b hb;simp at hx;subst hx;cases hb;rfl);have hl2:=zv7 l [];simp only[jp,jB]at hl2;generalize l.foldl zdM []=S at *;simp only[jg,jp]at h2;have Cn:id<P.length:=(jW.1 hid).1;have hPi:P[id]=zdQ S:=by have:=hid;rw[jq Cn]at this;simpa using this
 have hd0:∀(E:Env) (a b:Option Blk),j6 2 E [a,b]=[a,b]:=by
  intro E a b;simp[j6]
 rw[zUa zj7 rfl];simp[zem,h2,zg,hd0,hid,Cn,hPi,zdQ,own,-j6]
theorem ztz(x:Swp)(s:List Swp):∀a,∀i,zdN x s a<=i->i<a->ltS x (s.getD i zpa)=true:=by
 intro a;induction a with
 |zero=>intro i _ h;omega
 |succ a ih =>
  intro i h1 h2;unfold zdN at h1;split at h1
  ·next h =>
   by_cases e:i=a
   ·subst e;exact h
   ·exact ih i h1 (by omega)
  ·omega
theorem zty(x:Swp)(s:List Swp):∀a,0<zdN x s a->ltS x (s.getD (zdN x s a-1) zpa)=false:=by
 intro a;induction a with
 |zero=>intro h;simp[zdN]at h
 |succ a ih =>
  intro h;unfold zdN at h ⊢;split at h
  ·next h1=>rw[if_pos h1];exact ih h
  ·next h1=>rw[if_neg h1];simpa using h1
theorem zv9(s:List Swp)(x z:Swp):z∈zdM s x<->z∈s\/z=x:=by
 have hle:=zjA x s s.length;unfold zdM;split
 ·next h =>
  simp only[zx3,jl,decide_eq_true_eq]at h;have hx:x∈s:=by
   have hlt:zdN x s s.length-1<s.length:=by omega
   rw[<-h.2,jm,jq hlt];exact je hlt
  constructor
  ·exact .inl
  ·rintro(h|rfl)
   ·exact h
   ·exact hx
 ·unfold zlL;have e:z∈s<->z∈s.take (zdN x s s.length)\/z∈s.drop (zdN x s s.length):=by
   rw[<-jD,jP]
  rw[jD,jy,e];constructor
  ·rintro(h|h|h)
   ·exact .inl (.inl h)
   ·exact .inr h
   ·exact .inl (.inr h)
  ·rintro((h|h)|h)
   ·exact .inl h
   ·exact .inr (.inr h)
   ·exact .inr (.inl h)
theorem zwb{s:List Swp}(h:zxk s)(x:Swp):zxk (zdM s x):=by
 have hle:=zjA x s s.length;have ha:=ztz x s s.length;have hb:=zty x s s.length;unfold zdM;split
 ·exact h
 ·next hd =>
  unfold zlL;simp only[zx3,jl,decide_eq_true_eq,not_and]at hd;generalize zdN x s s.length=a at *;have B8:∀y∈s.take a,ltS y x=true:=by
   intro y hy;obtain⟨i,hi,rfl⟩:=qo hy;have hia:i<a:=by simp at hi;omega
   have hlt:a-1<s.length:=by omega
   have e1:s.getD (a-1) zpa=s[a-1]:=by simp[hlt]
   have h1:=hb (by omega);have h2:=hd (by omega);rw[e1]at h1 h2;have h3:ltS s[a-1] x=true:=by
    cases hh:ltS s[a-1] x with
    |true=>rfl
    |false=>exact absurd (zoM hh h1) h2
   rw[List.getElem_take];by_cases e:i=a-1
   ·subst e;exact h3
   ·exact zoL (qu.1 h i (a-1) (by omega) hlt (by omega)) h3
  have CP:∀y∈s.drop a,ltS x y=true:=by
   intro y hy;obtain⟨i,hi,rfl⟩:=qo hy;have hi':a+i<s.length:=by simp at hi;omega
   have:=ha (a+i) (by omega) hi';rw[List.getElem_drop];simpa [hi']using this
  refine jY.2 ⟨h.sublist (List.take_sublist _ _),jZ.2 ⟨CP,h.sublist (List.drop_sublist _ _)⟩,fun y hy z hz=>?_⟩;rcases jy.1 hz with rfl|hz
  ·exact B8 y hy
  ·exact zoL (B8 y hy) (CP z hz)
theorem zpf:∀(l s:List Swp),zxk s->zxk (l.foldl zdM s)/\∀z,z∈l.foldl zdM s<->z∈s\/z∈l
 |[],s,h=>⟨h,fun z=>by simp⟩
 |x::l,s,h=>by
  obtain⟨h1,h2⟩:=zpf l (zdM s x) (zwb h x);refine⟨h1,fun z=>?_⟩;rw[jN,h2,zv9,jy,or_assoc]
theorem zxX(l:List Swp):zhp (zlg l)=l.foldl zdM []:=by
 obtain⟨h1,h2⟩:=zpf l [] (by simp);refine ztj (zvs _ (zuK l)) h1 fun x=>?_
 rw[zrs,h2,(zsK l).mem_iff];simp
def zfM:Swp->List Swp->List Swp
 |_,[]=>[]
 |p,x::l=>if x=p then zfM x l else x::zfM x l
theorem zo0:∀(l:List Swp) (p:Swp),zhp (p::l)=p::zfM p l
 |[],p=>rfl
 |x::l,p=>by
  rw[zhp,zfM];by_cases h:p=x
  ·subst h;rw[if_pos rfl,if_pos rfl,zo0 l p]
  ·rw[if_neg h,if_neg (qC h),zo0 l x]
theorem zrr:∀(l:List Swp) (p:Swp),(zfM p l).length<=l.length
 |[],p=>jo _
 |x::l,p=>by
  have:=zrr l x;rw[zfM];split<;>simp<;>omega
@[simp] theorem zC8(l:List Swp)(i:Nat)(x:Swp):(zbf l).set i [I x.lane,I x.lo,I x.hi,.bool x.cap]=zbf (l.set i x):=by simp[zbf,List.map_set,swC]
theorem zvp(a:Swp):zbM [false,false,false,true] [I a.lane,I a.lo,I a.hi,.bool a.cap] [I a.lane,I a.lo,I a.hi,.bool a.cap]=some true:=by simp
abbrev zyZ(S:List Swp)(k j k0 m2:Nat):Env:=[(3,.w (W k)),(5,.w (W j)),(0,.w (.c (.slice 0 S.length 4 0 S.length none))),(4,.w (.c (.slice 0 S.length 4 k0 m2 none)))]
theorem zAy(k0 m2 n:Nat)(hn:k0+m2=n)(hn2:n<=900000000000):∀(r:List Swp) (p:Swp) (S:List Swp) (k j v:Nat),S.length=n->1<=j->k<=k0+j-1->S.drop (k0+j-1)=p::r ->
  ∃S' v' k',k'<=n/\S'.length=n/\S'.take k'=S.take k++zfM p r/\k'=k+(zfM p r).length/\v<=v'/\(v'=v->S'=S/\k'=k) /\
   Y L Cs zbU (some [3,5,0,4]) 2 (zyZ S k j k0 m2) [swB v S,gb 4]=some (.exit 2,(32,.w (Bo false))::zyZ S' k' m2 k0 m2,[swB v' S',gb 4]):=by
 intro r;induction r with
 |nil =>
  intro p S k j v hS hj hk hd;have hl:=congrArg List.length hd;simp at hl;have hjm:j=m2:=by omega
  subst hjm;refine⟨S,v,k,by omega,hS,by simp[zfM],by simp[zfM],jo _,fun _=>⟨rfl,rfl⟩,?_⟩;rw[zj zbU.eq_1];simp
 |cons x r ih =>
  intro p S k j v hS hj hk hd;have hl:=congrArg List.length hd;simp at hl;obtain⟨hJ,hp,hd'⟩:=zL hd;have hJ1:k0+j-1+1=k0+j:=by omega
  rw[hJ1]at hd';obtain⟨hJ',hx,hd''⟩:=zL hd';have hjm:j<m2:=by omega
  have hw:=zB (i:=j) (by omega);have hwk:=zB (i:=k) (by omega);obtain⟨j',rfl⟩:∃t,j=t+1:=⟨j-1,by omega⟩;have hw1:IntKind.i64.wrap (((j'+1:Nat):Int)-1)=(j':Int):=by rw[zTd _ (by omega) (by omega)];omega
  have e1:k0+(j'+1)-1=k0+j':=by omega
  have hp2:S[k0+j']'(by omega)=p:=by simpa [e1]using hp
  have hjt:((j'+1:Nat):Int).toNat=j'+1:=by omega
  by_cases c:x=p
  ·subst c;obtain⟨S',v',k',h0,h1,h2,h3,h4,h6,h5⟩:=ih x S k (j'+1+1) v hS (by omega) (by omega) (by rw[<-hd'];congr 1);have e2:zfM x (x::r)=zfM x r:=by rw[zfM,if_pos rfl]
   rw[e2];refine⟨S',v',k',h0,h1,h2,h3,h4,h6,?_⟩;rw[<-h5,zj zbU.eq_1];have heq:=zvp x;have hj'm:j'<m2:=by omega
   have hjS:k0+(j'+1)<S.length:=by omega
   have hjS2:k0+j'<S.length:=by omega
   simp[hjm,hw,hw1,hx,hp2,swC,heq,hjt,hj'm,hjS,hjS2,zyZ,swB,-zbM,-Int.natCast_add]
  ·have hkS:k<S.length:=by omega
   obtain⟨S',v',k',h0,h1,h2,h3,h4,h6,h5⟩:=ih x (S.set k x) (k+1) (j'+1+1) (v+1) (by simpa using hS) (by omega) (by omega) (by
    rw[List.drop_set_of_lt (by omega),<-hd'];congr 1)
   have e2:zfM p (x::r)=x::zfM x r:=by rw[zfM,if_neg c]
   rw[e2];have e3:(S.set k x).take (k+1)=S.take k++[x]:=by
    rw[List.take_add_one,List.take_set_of_le (jo _)];simp[hkS]
   refine⟨S',v',k',h0,h1,by rw[h2,e3];simp,by rw[h3];simp;omega,by omega,fun h=>by omega,?_⟩;have heq:=zrl c;have hj'm:j'<m2:=by omega
   have hjS:k0+(j'+1)<S.length:=by omega
   have hjS2:k0+j'<S.length:=by omega
   have hS2:(S.set k x).length=S.length:=by simp
   rw[<-h5,zj zbU.eq_1];simp[hjm,hw,hwk,hw1,hx,hp2,swC,heq,hjt,hj'm,hjS,hjS2,hkS,hS2,zyZ,swB,-zbM,-Int.natCast_add]
@[simp] theorem zC9(n:Nat):List.replicate n [I 0,I 0,I 0,.bool false]=zbf (List.replicate n zpa):=by simp[zbf,swC]
theorem zAx(S:List Swp)(hn2:S.length<=900000000000)(v:Nat):∀(r:List Swp) (p:Swp) (k:Nat),1<=k->S.drop (k-1)=p::r ->
  (zfM p r=r/\Y L Cs zaF (some [3,0]) 2 [(3,.w (W k)),(0,.w (.c (swS 0 S)))] [swB v S,gb 4]=some (.exit 0,[(13,.w (Bo false)),(3,.w (W S.length)),(0,.w (.c (swS 0 S)))],[swB v S,gb 4])) \/
  (∃S' v',S'.length=S.length/\S'.take (k+(zfM p r).length)=S.take k++zfM p r/\v<v'/\(zfM p r).length<r.length /\
   Y L Cs zaF (some [3,0]) 2 [(3,.w (W k)),(0,.w (.c (swS 0 S)))] [swB v S,gb 4]=some (.ret,[(2,.w (.c (.slice 0 S.length 4 0 (k+(zfM p r).length) none)))],[swB v' S',gb 4])):=by
 intro r;induction r with
 |nil =>
  intro p k hk hd;have hl:=congrArg List.length hd;simp at hl;have hjm:k=S.length:=by omega
  subst hjm;refine .inl ⟨rfl,?_⟩;rw[zj zaF.eq_1];simp
 |cons x r ih =>
  intro p k hk hd;have hl:=congrArg List.length hd;simp at hl;obtain⟨hJ,hp,hd'⟩:=zL hd;obtain⟨k',rfl⟩:∃t,k=t+1:=⟨k-1,by omega⟩;simp only[yp]at hJ hp hd' hd;obtain⟨hJ',hx,hd''⟩:=zL hd';have hw:=zB (i:=k'+1) (by omega);have hw1:IntKind.i64.wrap (((k'+1:Nat):Int)-1)=(k':Int):=by rw[zTd _ (by omega) (by omega)];omega
  have hkt:((k'+1:Nat):Int).toNat=k'+1:=by omega
  by_cases c:x=p
  ·subst c;right;have e2:zfM x (x::r)=zfM x r:=by rw[zfM,if_pos rfl]
   obtain⟨S',v',q,h0,h1,h2,h3,h4,_,h5⟩:=zAy (k'+1) (S.length-(k'+1)) S.length (by omega) hn2 r x S (k'+1) 1 v rfl (jo _) (by omega) (by simpa using hd');have hcl:=zrr r x;rw[e2,<-h3];have hq:q<S.length:=by simp at hl;omega
   refine⟨S'.take q++List.replicate (S.length-q) zpa,v'+1,by simp;omega,by rw[uf (by simp;omega),List.take_take,Nat.min_self,h2],by omega,by simp;omega,?_⟩;have heq:=zvp x;have hz:S.length-q≠0:=by omega
   have hqn:q<=S.length:=by omega
   have hqi:(q:Int)<=(S.length:Int):=by omega
   have hki:((k'+1:Nat):Int)<=(S.length:Int):=by omega
   have hkn:k'+1<=S.length:=by omega
   have Bi:S'.drop (q+(S.length-q))=[]:=uh (by omega);have hqe:q+(S.length-q)=S.length:=by omega
   rw[hqe]at Bi;have hmin:min q S.length=q:=by omega
   simp only[zyZ,kd]at h5;rw[zj zaF.eq_1];simp[zgI,hJ,hJ',hx,hp,hw1,hkt,swC,heq,h5,h1,hz,hqn,hqi,hki,hkn,Bi,hqe,hmin,zyZ,swB,-zbM,-Int.natCast_add]
  ·have heq:=zrl c;have e2:zfM p (x::r)=x::zfM x r:=by rw[zfM,if_neg c]
   have ux:Y L Cs zaF (some [3,0]) 2 [(3,.w (W (k'+1:Nat))),(0,.w (.c (swS 0 S)))] [swB v S,gb 4]=Y L Cs zaF (some [3,0]) 2 [(3,.w (W (k'+1+1:Nat))),(0,.w (.c (swS 0 S)))] [swB v S,gb 4]:=by
    rw[zj zaF.eq_1];simp[hJ,hJ',hx,hp,hw,hw1,hkt,swC,heq,swB,-zbM,-Int.natCast_add]
   have hS1:S.take (k'+1+1)=S.take (k'+1)++[x]:=by rw[List.take_add_one];simp[hJ',hx]
   rw[ux,e2];rcases ih x (k'+1+1) (by omega) (by simpa using hd')with⟨h1,h2⟩ |⟨S',v',h1,h2,h3,h4,h5⟩
   ·exact .inl ⟨by rw[h1],h2⟩
   ·refine .inr ⟨S',v',h1,?_,h3,by simpa using h4,?_⟩
    ·have e3:k'+1+(x::zfM x r).length=k'+1+1+(zfM x r).length:=by simp;omega
     rw[e3,h2,hS1];simp
    ·have e3:k'+1+(x::zfM x r).length=k'+1+1+(zfM x r).length:=by simp;omega
     rw[e3,h5]
theorem zrS(S:List Swp)(hn2:S.length<=900000000000)(v:Nat):∃S' v',S'.length=S.length/\S'.take (zhp S).length=zhp S/\v<=v'/\(v'=v->S'=S)/\(zhp S).length<=S.length /\
  R L Cs zeD [.c (swS 0 S)] [swB v S]=some (.w (.c (.slice 0 S.length 4 0 (zhp S).length none)),[swB v' S']):=by
 have hshort:S.length<2->R L Cs zeD [.c (swS 0 S)] [swB v S]=some (.w (.c (swS 0 S)),[swB v S]):=by
  intro c;have c':(S.length:Int)<2:=by omega
  rw[zUa zcq rfl];simp[zbk,c,c',zg]
 match S,hn2,hshort with
 |[],_,hs=>exact⟨[],v,rfl,rfl,jo _,fun _=>rfl,jo _,hs (by simp)⟩
 |p::r,hn2,_ =>
  have c1:=zo0 r p;have c2:=zrr r p;by_cases hr:r=[]
  ·subst hr;exact⟨[p],v,rfl,rfl,jo _,fun _=>rfl,jo _,by
    rw[zUa zcq rfl];simp[zbk,zg,zhp]⟩
  ·have hl:0<r.length:=kC.2 hr;have c:¬((p::r).length:Int)<2:=by simp;omega
   have c':¬(p::r).length<2:=by simp;omega
   have hlen:(zhp (p::r)).length=1+(zfM p r).length:=by rw[c1];simp;omega
   rcases zAx (p::r) hn2 v r p 1 (jo _) rfl with⟨h1,h2⟩ |⟨S',v',h1,h2,h3,h4,h5⟩
   ·refine⟨p::r,v,rfl,by rw[c1,h1];simp,jo _,fun _=>rfl,by rw[c1,h1];simp,?_⟩;rw[hlen,h1];simp only[kd]at h2;generalize hS:p::r=S at *;have e:1+r.length=S.length:=by rw[<-hS];simp;omega
    rw[e,zUa zcq rfl];simp[zbk,zg,c,c',h2]
   ·refine⟨S',v',h1,by rw[hlen,h2,c1];simp,by omega,fun h=>by omega,by rw[hlen];simp;omega,?_⟩;rw[hlen];simp only[kd]at h5;generalize hS:p::r=S at *;have hv:(v=v')=False:=eq_false (by omega);rw[zUa zcq rfl];simp[zbk,zg,c,c',h5]
def zkr(m:zD)(e:Ego)(len:Int)(l:List Int)(bs:List zk):List zk:=if e.shi-len<=e.slo then zpO m e len 0 l bs else bs
theorem zor{m:zD}(h:zcp m)(l:List Int)(hl:l.length<=8)(hon:zj2 m l)(len:Int)(e:Ego)(he:-1000000000000000<=e.slo/\e.slo<=1000000000000000/\-1000000000000000<=e.shi/\e.shi<=1000000000000000)(hn:0<=len/\len<=20000)(bs:List zk)(hbb:bs.length*2 ^ l.length<=100000000000) :
  R L Cs zmR [.a (zh m l len),.c (.jb (zI bs)),.a (zch e)] []=some (.w (.c (.jb (zI (zkr m e len l bs)))),[]):=by
 have hg:=zCj m l len e he hn;have ho:=zzJ h l hl hon len e he hn l 0 bs 0 rfl (jt _) rfl (by omega) (by omega) hbb;simp only[zh,zi,jg,zch]at ho hg ⊢;rw[zUa zm2 rfl,zkr];by_cases c:e.shi-len<=e.slo
 ·simp[zed,hg,ho,c,zg]
 ·simp[zed,hg,c,zg]
theorem zxN{m:zD}(h:zcp m)(l:List Int)(hl:l.length<=8)(hon:zj2 m l)(len:Int)(e:Ego)(he:-1000000000000000<=e.slo/\e.slo<=1000000000000000/\-1000000000000000<=e.shi/\e.shi<=1000000000000000)(hn:0<=len/\len<=20000)(bs:List zk)(hbb:bs.length*2 ^ l.length<=100000000000) :
  R L Cs zl8 [.a (zf m),.c (.jb (zu l)),W len,.c (.jb (zI bs)),.a (zch e)] []=some (.w (.c (.jb (zI (zkr m e len l bs)))),[]):=by
 have hw0:=kg (e.shi-len);have ho:=zya h l hl hon len e he hn l 0 bs 0 rfl (jt _) rfl (by omega) (by omega) hbb;have hbg:=zvX h (by omega) hon;simp only[zf,jg,zch]at ho hbg ⊢;rw[zUa zmr rfl,zkr];by_cases c:e.shi-len<=e.slo
 ·have c':¬(e.slo<e.shi-len):=by omega
  simp[zdW,hbg,ho,c,c',zg,hw0]
 ·have c':e.slo<e.shi-len:=by omega
  simp[zdW,c,c',zg,hw0]
theorem zlP{m:zD}(hs:zmX m){l:List Int}(hr:zdA m l=0):l.length<=2:=by
 match l,hr with
 |[],_=>simp
 |[_],_=>simp
 |[_,_],_=>simp
 |x::y::z::t,hr =>
  exfalso;have hg:goF m x (y::z::t)=true:=by
   cases hg:goF m x (y::z::t)with
   |true=>rfl
   |false=>simp[zdA,hg]at hr
  simp only[goF,jl,decide_eq_true_eq]at hg;have h1:y∈zS m x:=hg.1;have h2:z∈zS m y:=hg.2.1;rw[hs.leaf x y h1]at h2;cases h2
theorem zxI{m:zD}(h:zcp m):∀(r:List zk) (p:zk),zls m p r=0->∀b∈r,VB m b
 |[],_,_,b,hb=>by cases hb
 |x::r,p,hc,b,hb=>by
  unfold zls at hc;split at hc
  ·rename_i h1;exact absurd hc h1
  ·rename_i h1;have h1:zer m p x=0:=by simpa using h1
   rcases jy.1 hb with rfl|hb
   ·obtain⟨a1,a2,a3,a4,a5,a6,a7,a8,a9,a10,_,_⟩:=zui h h1;exact⟨⟨a1,a2⟩,a3,a4,a5,a6,a7,a8,⟨a9,a10⟩⟩
   ·exact zxI h r x hc b hb
theorem zxJ{m:zD}(h:zcp m){k:zci}(hc:zdf m k=0):∀b∈k.j8,VB m b:=by
 unfold zdf at hc;split at hc
 ·cases hc
 ·exact zxI h _ _ hc
theorem zBO{m:zD}{x fr to:Int}{b:zk}(hb:VB m b):∀z∈zoX x fr to b,VB m z:=by
 intro z hz;unfold zoX at hz;split at hz
 ·simp only[jJ]at hz;subst hz;exact hb
 ·rename_i hc;have a1:=hb.lo;have a2:=hb.le;have a3:=hb.hi;rcases jD.1 hz with hz|hz
  ·split at hz
   ·simp only[jJ]at hz;subst hz;exact⟨hb.lane,hb.lo,by show b.lo<=fr-1;omega,by show fr-1<=z8 m b.lane;omega,hb.vlo,hb.vle,hb.vhi,hb.hold⟩
   ·cases hz
  ·split at hz
   ·simp only[jJ]at hz;subst hz;exact⟨hb.lane,by show 0<=to+1;omega,by show to+1<=b.hi;omega,hb.hi,hb.vlo,hb.vle,hb.vhi,hb.hold⟩
   ·cases hz
theorem zxH{m:zD}{x fr to:Int}:∀(l:List zk),(∀b∈l,VB m b)->∀z∈zhn x fr to l,VB m z
 |[],_,z,hz=>by cases hz
 |b::l,h,z,hz=>by
  unfold zhn at hz;rcases jD.1 hz with hz|hz
  ·exact zBO (h b (jr ..)) z hz
  ·exact zxH l (fun y hy=>h y (jv _ hy)) z hz
theorem zxu{m:zD}(e:Ego)(len:Int):∀(r:List Int) (a:Int) (l:List zk),(∀b∈l,VB m b)->∀z∈zpO m e len a r l,VB m z
 |[],_,l,h,z,hz=>h z hz
 |x::r,a,l,h,z,hz=>zxu e len r _ _ (zxH l h) z hz
theorem ztK{m:zD}(e:Ego)(len:Int)(r:List Int)(l:List zk)(h:∀b∈l,VB m b):∀z∈zkr m e len r l,VB m z:=by
 unfold zkr;split
 ·exact zxu e len r 0 l h
 ·exact h
theorem zij(m:zD)(e:Ego)(len:Int){r:List Int}(hr:r.length<=2)(l:List zk):(zkr m e len r l).length<=l.length*4:=by
 unfold zkr;split
 ·refine j9 (zuX m e len r 0 l) (Nat.mul_le_mul_left _ ?_);exact vT (by decide) hr
 ·omega
theorem zvw{m:zD}(h:zcp m):∀(r:List zk) (p:zk),zls m p r=0->p.lane<m.jc.length->p.hi<=1000000->(r.length:Int)+(p.lane*1000002+p.hi+1)<=m.jc.length*1000002
 |[],p,_,h1,h2=>by simp only[jp];omega
 |x::r,p,hc,h1,h2=>by
  unfold zls at hc;split at hc
  ·rename_i hx;exact absurd hc hx
  ·rename_i hx;have hx:zer m p x=0:=by simpa using hx
   obtain⟨a1,a2,a3,a4,a5,a6,a7,a8,a9,a10,a11,a12⟩:=zui h hx;have ih:=zvw h r x hc a2 (by omega);simp only[zmM,not_or,not_and,qX,Int.not_le]at a12;simp only[jk];by_cases e:x.lane=p.lane
   ·have:=a12.2 e;rw[e]at ih;omega
   ·omega
theorem zvx{m:zD}(h:zcp m)(hs:zmX m){k:zci}(hc:zdf m k=0):k.j8.length<=200000000:=by
 unfold zdf at hc;split at hc
 ·cases hc
 ·have:=zvw h _ _ hc (show(-1:Int)<_ by omega) (show(0:Int)<=_ by omega);have:=hs.few;simp only[zqY]at *;omega
abbrev zox:List Cl:=[I 0,.jd,I 0,I 0,I 0,I 0]
abbrev bsC(id:Nat)(l:List zk):WV:=.c (.slice id l.length 6 0 l.length none)
abbrev swW(id:Nat)(l:List Swp):WV:=.c (.slice id l.length 4 0 l.length none)
abbrev stM(m:zD)(r:List Int)(len bar:Int)(e:Ego)(k:zci)(bs:List zk)(sw:List Swp):Mem:=[bx 11 (zh m r len),bx 6 (zG k),bx 6 zox,gb 4,bxv 1 4 (zch e),bxv 1 16 (zm m r len bar e),some (own 6 (zI bs)),zdQ sw]
abbrev zwh(m:zD)(r:List Int)(len bar:Int)(e:Ego)(k:zci)(bs:List zk)(sw:List Swp)(b x:zk):Mem:=[bx 11 (zh m r len),bx 6 (zG k),bx 6 zox,gb 4,bxv 1 4 (zch e),bxv 1 16 (zm m r len bar e),some (own 6 (zI bs)),zdQ sw,bxv 1 6 (ze b),bxv 1 6 (ze x)]
abbrev s1E(ow bs:List zk)(sw:List Swp)(i:Nat)(signals behind:Bool)(ls:List LB)(j:Nat):Env:=[(12,.w (bsC 6 bs)),(104,.w (W j)),(103,.w (W ls.length)),(50,.w (W i)),(49,.w (W ow.length)),(10,.w (Pt 4)),(8,.w (Pt 2)),(48,.w (.c (.jb (zI ow)))),(3,.w (Bo signals)),(11,.w (Pt 5)),(4,.w (Pt 0)),(5,.w (Pt 1)),(13,.w (swW 7 sw)),(19,.w (Bo behind)),(16,.w (Pt 9)),(15,.w (Pt 8)),(102,.w (.c (.jb (zdz ls))))]
theorem zwg(m:zD)(r:List Int)(len bar:Int)(e:Ego)(k:zci)(sw:List Swp)(b x:zk)(ow:List zk)(i:Nat)(signals behind:Bool)(ls:List LB)(hls:ls.length<=100):∀(t:List LB) (j:Nat) (bs:List zk),ls.drop j=t->j<=ls.length->bs.length+t.length<=100000000000 ->
  Y L Cs zc5 (some [12,104,103,50,49,10,8,48,3,11,4,5,13,19,16,15,102]) 10 (s1E ow bs sw i signals behind ls j) (zwh m r len bar e k bs sw b x) =
    some (.exit 2,(105,.w (Bo false))::s1E ow (bs++t.map Prod.fst) sw i signals behind ls ls.length,zwh m r len bar e k (bs++t.map Prod.fst) sw b x):=by
 intro t;induction t with
 |nil =>
  intro j bs hd hj hb;obtain rfl:=zUb hd hj;rw[zj zc5.eq_1];simp
 |cons z t ih =>
  intro j bs hd hj hb;obtain⟨hjl,hz,hd'⟩:=zL hd;have hw:=zB (i:=j) (by omega);simp only[jk]at hb;have jX:(bs.length+1)*48<=140737488355328:=by omega
  have h:=ih (j+1) (bs++[z.1]) hd' (by omega) (by simp;omega);have e1:bs++List.map Prod.fst (z::t)=bs++[z.1]++List.map Prod.fst t:=by simp
  rw[e1,<-h,zj zc5.eq_1];simp[s1E,zwh,bsC,swW,zdQ,own,zh,zi,zG,zch,zm,ze,hjl,hz,hw,lbC,jX,zg]
abbrev zlJ(z:LB):Swp:=⟨z.1.lane,z.1.lo,z.1.hi,z.2⟩
abbrev s2E(ow bs:List zk)(sw:List Swp)(i:Nat)(signals:Bool)(ls:List LB)(j:Nat):Env:=[(13,.w (swW 7 sw)),(123,.w (W j)),(122,.w (W ls.length)),(5,.w (Pt 1)),(4,.w (Pt 0)),(12,.w (bsC 6 bs)),(11,.w (Pt 5)),(3,.w (Bo signals)),(48,.w (.c (.jb (zI ow)))),(8,.w (Pt 2)),(10,.w (Pt 4)),(49,.w (W ow.length)),(50,.w (W i)),(121,.w (.c (.jb (zdz ls))))]
theorem zwf(m:zD)(r:List Int)(len bar:Int)(e:Ego)(k:zci)(bs:List zk)(b x:zk)(ow:List zk)(i:Nat)(signals:Bool)(ls:List LB)(hls:ls.length<=100):∀(t:List LB) (j:Nat) (sw:List Swp),ls.drop j=t->j<=ls.length->sw.length+t.length<=100000000000 ->
  Y L Cs zc4 (some [13,123,122,5,4,12,11,3,48,8,10,49,50,121]) 10 (s2E ow bs sw i signals ls j) (zwh m r len bar e k bs sw b x) =
    some (.exit 4,(124,.w (Bo false))::s2E ow bs (sw++t.map zlJ) i signals ls ls.length,zwh m r len bar e k bs (sw++t.map zlJ) b x):=by
 intro t;induction t with
 |nil =>
  intro j sw hd hj hb;obtain rfl:=zUb hd hj;rw[zj zc4.eq_1];simp
 |cons z t ih =>
  intro j sw hd hj hb;obtain⟨hjl,hz,hd'⟩:=zL hd;have hw:=zB (i:=j) (by omega);simp only[jk]at hb;have jX:(sw.length+1)*32<=140737488355328:=by omega
  have h:=ih (j+1) (sw++[zlJ z]) hd' (by omega) (by simp;omega);have e1:sw++List.map zlJ (z::t)=sw++[zlJ z]++List.map zlJ t:=by simp
  rw[e1,<-h,zj zc4.eq_1];simp[s2E,zwh,bsC,swW,zdQ,own,zh,zi,zG,zch,zm,ze,hjl,hz,hw,lbC,swC,jX,zg]
def mvF(m:zD)(zs:List Zon)(ss:List Sgn)(k:zci)(signals:Bool)(b:zk):zk:=zdC m (zeA zs ss b.lane k.tick) b signals (decide (b.lane∈zbK m 0 m.jc))
def zfP(m:zD)(r:List Int)(len:Int)(k:zci)(b:zk):Bool:=match zgo r b.lane with
 |some i=>decide (k.ego.shi-len<=k.ego.slo)&&decide (ki m r i+b.hi<k.ego.shi-len)
 |none=>false
def zm8(m:zD)(zs:List Zon)(ss:List Sgn)(r:List Int)(bar slo len:Int)(k:zci)(signals:Bool)(b:zk):List LB :=
 if(mvF m zs ss k signals b).lo<=(mvF m zs ss k signals b).hi then zlZ m r bar slo (mvF m zs ss k signals b) (mvF m zs ss k signals b).lo (mvF m zs ss k signals b).hi (zfP m r len k b) else []
def zn0(m:zD)(zs:List Zon)(ss:List Sgn)(r:List Int)(bar slo len:Int)(k:zci)(signals:Bool)(b:zk):List LB :=
 if(mvF m zs ss k signals b).lo<=(mvF m zs ss k signals b).hi then zlZ m r bar slo (mvF m zs ss k signals b) b.lo (mvF m zs ss k signals b).hi (zfP m r len k b) else []
theorem zwE{m:zD}(h:zcp m)(zs:List Zon)(ss:List Sgn)(k:zci)(signals:Bool){b:zk}(hb:VB m b):(mvF m zs ss k signals b).lane=b.lane/\0<=(mvF m zs ss k signals b).lo/\(mvF m zs ss k signals b).lo<=2000000/\0<=(mvF m zs ss k signals b).hi/\(mvF m zs ss k signals b).hi<=2000000:=by
 have ho:=zqQ h hb;have a1:=hb.lo;have a2:=hb.le;have p1:=ho.pos;have p2:=ho.s;have p3:=ho.f;refine⟨rfl,?_,?_,?_,?_⟩
 ·unfold mvF zdC;dsimp only;split<;>omega
 ·unfold mvF zdC;dsimp only;split<;>omega
 all_goals
  unfold mvF zdC;dsimp only;generalize hq:(if signals=true then(zeA zs ss b.lane k.tick).find? (zcY m b) else none)=q;cases q with
  |none=>simp only;omega
  |some l =>
   have hl:zcY m b l=true:=by
    cases signals with
    |false=>simp at hq
    |true=>exact uo (by simpa using hq)
   simp only[zcY,jl,decide_eq_true_eq]at hl;have:=hl.1;simp only;omega
abbrev s3E(ow bs:List zk)(sw:List Swp)(i:Nat)(signals:Bool):Env:=[(50,.w (W i)),(49,.w (W ow.length)),(10,.w (Pt 4)),(8,.w (Pt 2)),(48,.w (.c (.jb (zI ow)))),(3,.w (Bo signals)),(11,.w (Pt 5)),(13,.w (swW 7 sw)),(12,.w (bsC 6 bs)),(4,.w (Pt 0)),(5,.w (Pt 1))]
theorem zCW(m:zD)(l:List Int)(len:Int)(e:Ego)(he:znd e)(hn:0<=len/\len<=20000):R L Cs zhP [.a (zh m l len),.a (zch e)] []=some (.w (Bo (decide (e.shi-len<=e.slo))),[]):=zCj m l len e (by have:=he.s;omega) hn
theorem step3{m:zD}{zs:List Zon}{ss:List Sgn}(hf:zmq m zs ss){r:List Int}{bar:Int}(h:ziO m r bar)(len:Int)(hn:0<=len/\len<=20000)(e:Ego)(k:zci)(he:znd k.ego)(ow:List zk)(signals:Bool)(i:Nat)(hi:i<ow.length)(hi2:i<100000000000)(hb:VB m ow[i])(bs:List zk)(sw:List Swp)(hbs:bs.length<=99000000000)(hsw:sw.length<=99000000000) :
  Y L Cs zan (some [50,49,10,8,48,3,11,13,12,4,5]) 8 (s3E ow bs sw i signals) (stM m r len bar e k bs sw) =
    Y L Cs zan (some [50,49,10,8,48,3,11,13,12,4,5]) 8 (s3E ow (bs++(zm8 m zs ss r bar e.slo len k signals ow[i]).map Prod.fst) (sw++(zn0 m zs ss r bar e.slo len k signals ow[i]).map zlJ) (i+1) signals) (stM m r len bar e k (bs++(zm8 m zs ss r bar e.slo len k signals ow[i]).map Prod.fst) (sw++(zn0 m zs ss r bar e.slo len k signals ow[i]).map zlJ)):=by
 have hw:=zB (i:=i) (by omega);have hs:=hf.ye;have hmv:R L Cs zgV [.a (zh m r len),.a (ze ow[i]),W k.tick,Bo signals] []=some (.t [.a (ze (mvF m zs ss k signals ow[i])),Bo (decide ((mvF m zs ss k signals ow[i]).lo<=(mvF m zs ss k signals ow[i]).hi))],[]):=zAU hf r len ow[i] hb k.tick signals;have hbd:=zwE h.qF zs ss k signals hb;have Cp:=zCW m r len k.ego he hn;have hix:=zoq r ow[i].lane (by have:=h.len;omega);have hbl:=hb.lane;have qM:=(zqQ h.qF hb).pos;have hlo:=hb.lo;have hhi:=hb.le;have hes:=he.s;generalize hbe:ow[i]=b at *;unfold zm8 zn0;generalize hmm:mvF m zs ss k signals b=mv at *;have hml:0<=mv.lane/\mv.lane<m.jc.length:=by rw[hbd.1];exact hbl
 have hla:=zCi h hs len e mv hml mv.lo mv.hi (by omega) (by omega) (zfP m r len k b);have hlb:=zCi h hs len e mv hml b.lo mv.hi (by omega) (by omega) (zfP m r len k b);have hA:=zjI hs r bar e.slo mv mv.lo mv.hi (zfP m r len k b);have hB:=zjI hs r bar e.slo mv b.lo mv.hi (zfP m r len k b);generalize zlZ m r bar e.slo mv mv.lo mv.hi (zfP m r len k b)=la at *;generalize zlZ m r bar e.slo mv b.lo mv.hi (zfP m r len k b)=lb at *;have h1:=zwg m r len bar e k sw b mv ow i signals (zfP m r len k b) la (by omega) la 0 bs rfl (jt _) (by omega);have h2:=zwf m r len bar e k (bs++la.map Prod.fst) b mv ow i signals lb (by omega) lb 0 sw rfl (jt _) (by omega);have w1:=kg (k.ego.shi-len);simp only[zh,zi,zch,zm,ze,zG,jh,jf]at hmv Cp hla hlb;simp only[s1E,s2E,zwh,bsC,swW,zdQ,own,zh,zi,zch,zm,ze,zG,jh,jf,jg,znQ,ju,qr,zgg,zmB,zsU]at h1 h2;by_cases c:mv.lo<=mv.hi
 ·rw[if_pos c,if_pos c];have c':decide (mv.lo<=mv.hi)=true:=by simpa using c
  rw[c']at hmv;cases hL:zgo r b.lane with
  |none =>
   have Aq:zfP m r len k b=false:=by simp[zfP,hL]
   rw[hL]at hix;simp only[zbe]at hix;rw[Aq]at hla hlb h1;rw[zj zan.eq_1];simp[s3E,stM,bsC,swW,zdQ,own,zh,zi,zch,zm,ze,zG,hi,hbe,hw,hmv,hix,hla,hlb,h1,h2,zg]
  |some j =>
   obtain⟨hjl,_⟩:=zfT hL;have hsl:j<(zW m 0 r).length:=by rw[zcO];exact hjl
   have hsi:(zW m 0 r)[j]=ki m r j:=by simp[ki,hsl]
   have hsb:=zmA h hjl;have w2:=kg (ki m r j+b.hi);have hj0:(0:Int)<=(j:Int):=by omega
   rw[hL]at hix;simp only[zbe]at hix;by_cases g:k.ego.shi-len<=k.ego.slo
   ·have g':decide (k.ego.shi-len<=k.ego.slo)=true:=by simpa using g
    rw[g']at Cp;by_cases d:ki m r j+b.hi<k.ego.shi-len
    ·have Aq:zfP m r len k b=true:=by simp[zfP,hL,g,d]
     rw[Aq]at hla hlb h1;rw[zj zan.eq_1];simp[s3E,stM,bsC,swW,zdQ,own,zh,zi,zch,zm,ze,zG,hi,hbe,hw,hmv,hix,hla,hlb,h1,h2,zg,Cp,hsl,hsi,w1,w2,d,hj0]
    ·have Aq:zfP m r len k b=false:=by simp[zfP,hL,d]
     rw[Aq]at hla hlb h1;rw[zj zan.eq_1];simp[s3E,stM,bsC,swW,zdQ,own,zh,zi,zch,zm,ze,zG,hi,hbe,hw,hmv,hix,hla,hlb,h1,h2,zg,Cp,hsl,hsi,w1,w2,d,hj0]
   ·have g':decide (k.ego.shi-len<=k.ego.slo)=false:=by simpa using g
    rw[g']at Cp;have Aq:zfP m r len k b=false:=by simp[zfP,hL,g]
    rw[Aq]at hla hlb h1;rw[zj zan.eq_1];simp[s3E,stM,bsC,swW,zdQ,own,zh,zi,zch,zm,ze,zG,hi,hbe,hw,hmv,hix,hla,hlb,h1,h2,zg,Cp,hsl,hsi,w1,w2,hj0]
 ·rw[if_neg c,if_neg c];have c':decide (mv.lo<=mv.hi)=false:=by simpa using c
  rw[c']at hmv;rw[zj zan.eq_1];simp[s3E,stM,bsC,swW,zdQ,own,zh,zi,zch,zm,ze,zG,hi,hbe,hw,hmv,zg]
theorem zoO{m:zD}(hs:zmX m)(zs:List Zon)(ss:List Sgn)(r:List Int)(bar slo len:Int)(k:zci)(signals:Bool)(b:zk):(zm8 m zs ss r bar slo len k signals b).length<=3:=by
 unfold zm8;split
 ·exact zjI hs ..
 ·simp
theorem zoN{m:zD}(hs:zmX m)(zs:List Zon)(ss:List Sgn)(r:List Int)(bar slo len:Int)(k:zci)(signals:Bool)(b:zk):(zn0 m zs ss r bar slo len k signals b).length<=3:=by
 unfold zn0;split
 ·exact zjI hs ..
 ·simp
def zgt(m:zD)(zs:List Zon)(ss:List Sgn)(r:List Int)(bar slo len:Int)(k:zci)(signals:Bool)(t:List zk):List zk:=t.flatMap fun b=>(zm8 m zs ss r bar slo len k signals b).map Prod.fst
def zhM(m:zD)(zs:List Zon)(ss:List Sgn)(r:List Int)(bar slo len:Int)(k:zci)(signals:Bool)(t:List zk):List Swp:=t.flatMap fun b=>(zn0 m zs ss r bar slo len k signals b).map zlJ
theorem zxY{m:zD}(hs:zmX m)(zs:List Zon)(ss:List Sgn)(r:List Int)(bar slo len:Int)(k:zci)(signals:Bool)(t:List zk):(zgt m zs ss r bar slo len k signals t).length<=3*t.length:=by
 induction t with
 |nil=>simp[zgt]
 |cons b t ih =>
  have:=zoO hs zs ss r bar slo len k signals b;simp only[zgt,jO,ju,qr,jk]at ih ⊢;omega
theorem zoA{m:zD}(hs:zmX m)(zs:List Zon)(ss:List Sgn)(r:List Int)(bar slo len:Int)(k:zci)(signals:Bool)(t:List zk):(zhM m zs ss r bar slo len k signals t).length<=3*t.length:=by
 induction t with
 |nil=>simp[zhM]
 |cons b t ih =>
  have:=zoN hs zs ss r bar slo len k signals b;simp only[zhM,jO,ju,qr,jk]at ih ⊢;omega
theorem zwe{m:zD}{zs:List Zon}{ss:List Sgn}(hf:zmq m zs ss){r:List Int}{bar:Int}(h:ziO m r bar)(len:Int)(hn:0<=len/\len<=20000)(e:Ego)(k:zci)(he:znd k.ego)(ow:List zk)(hvb:∀b∈ow,VB m b)(how:ow.length<=800000000)(signals:Bool):∀(t:List zk) (i:Nat) (bs:List zk) (sw:List Swp),ow.drop i=t->i<=ow.length->bs.length<=3*i->sw.length<=3*i ->
  Y L Cs zan (some [50,49,10,8,48,3,11,13,12,4,5]) 8 (s3E ow bs sw i signals) (stM m r len bar e k bs sw) =
    some (.exit 0,(51,.w (Bo false))::s3E ow (bs++zgt m zs ss r bar e.slo len k signals t) (sw++zhM m zs ss r bar e.slo len k signals t) ow.length signals,stM m r len bar e k (bs++zgt m zs ss r bar e.slo len k signals t) (sw++zhM m zs ss r bar e.slo len k signals t)):=by
 intro t;induction t with
 |nil =>
  intro i bs sw hd hi h1 h2;obtain rfl:=zUb hd hi;rw[zj zan.eq_1];simp[zgt,zhM]
 |cons b t ih =>
  intro i bs sw hd hi h1 h2;obtain⟨hil,hb,hd'⟩:=zL hd;have l1:=zoO hf.ye zs ss r bar e.slo len k signals b;have l2:=zoN hf.ye zs ss r bar e.slo len k signals b;rw[step3 hf h len hn e k he ow signals i hil (by omega) (hvb _ (je hil)) bs sw (by omega) (by omega),hb,ih (i+1) _ _ hd' (by omega) (by simp;omega) (by simp;omega)];simp[zgt,zhM]
def zqn(r0 bar x:Int):Bool:=decide (x≠r0)||decide (0<=bar)
def zfb(m:zD)(r0 bar x:Int):List zk:=if zqn r0 bar x=true then [⟨x,0,0,0,zeR (zaK m x),0⟩] else []
theorem zqS(m:zD)(x:Int):∀(t:List zfn) (i:Nat),x∈zbK m i t<->∃j:Nat,j<t.length/\x=((i+j:Nat):Int)/\zes x 0 m.jc=[]
 |[],i=>by simp[zbK]
 |l::t,i=>by
  have ih:=zqS m x t (i+1);have step:(∃j:Nat,j<(l::t).length/\x=((i+j:Nat):Int)/\zes x 0 m.jc=[])<->(x=(i:Int)/\zes x 0 m.jc=[])\/x∈zbK m (i+1) t:=by
   rw[ih];constructor
   ·rintro⟨j,h1,h2,h3⟩;cases j with
    |zero=>exact .inl ⟨by simpa using h2,h3⟩
    |succ j=>exact .inr ⟨j,by simpa using h1,by rw[h2];congr 1;omega,h3⟩
   ·rintro(⟨h1,h2⟩ |⟨j,h1,h2,h3⟩)
    ·exact⟨0,by simp,by simpa using h1,h2⟩
    ·exact⟨j+1,by simp;omega,by rw[h2];congr 1;omega,h3⟩
  rw[step,zbK];split
  ·next hb =>
   rw[jy];constructor
   ·rintro(h|h)
    ·exact .inl ⟨h,by rw[h];exact hb⟩
    ·exact .inr h
   ·rintro(⟨h,_⟩|h)
    ·exact .inl h
    ·exact .inr h
  ·next hb =>
   constructor
   ·exact .inr
   ·rintro(⟨h,h2⟩|h)
    ·rw[h]at h2;exact absurd h2 hb
    ·exact h
abbrev srT(m:zD):List Bool:=zkj (List.replicate m.jc.length false) (zbK m 0 m.jc)
theorem zxq(m:zD):(srT m).length=m.jc.length:=by rw[srT,znN];simp
theorem zBi(m:zD)(i:Nat)(hi:i<(srT m).length):(srT m)[i]=decide (zes (i:Int) 0 m.jc=[]):=by
 have hl:i<m.jc.length:=by rw[<-zxq m];exact hi
 have h:=zqp (zbK m 0 m.jc) (List.replicate m.jc.length false) i (by simpa using hl) (fun x hx=>by
  obtain⟨j,_,h,_⟩:=(zqS m x m.jc 0).1 hx;rw[h];omega)
 have e1:(zkj (List.replicate m.jc.length false) (zbK m 0 m.jc)).getD i false=(srT m)[i]:=by
  rw[jm,jq hi];rfl
 rw[e1]at h;rw[h];have e2:(List.replicate m.jc.length false).getD i false=false:=by simp[jm,hl]
 rw[e2,k8];have:((i:Int)∈zbK m 0 m.jc)<->zes (i:Int) 0 m.jc=[]:=by
  rw[zqS];constructor
  ·rintro⟨j,_,h2,h3⟩;exact h3
  ·intro h3;exact⟨i,hl,by simp,h3⟩
 simp[this]
abbrev s4E(T:List Bool)(bs:List zk)(sw:List Swp)(i:Nat):Env:=[(12,.w (bsC 6 bs)),(147,.w (W i)),(146,.w (W T.length)),(8,.w (Pt 2)),(10,.w (Pt 4)),(13,.w (swW 7 sw)),(5,.w (Pt 1)),(145,.w (.c (.jb (zgU T)))),(11,.w (Pt 5)),(4,.w (Pt 0))]
theorem zwd{m:zD}(h:zcp m)(x0:Int)(r:List Int)(len bar:Int)(e:Ego)(k:zci)(sw:List Swp)(T:List Bool)(hl:T.length=m.jc.length)(hTT:∀(i:Nat) (h:i<T.length),T[i]=decide (zes (i:Int) 0 m.jc=[])):∀(t:List zfn) (i:Nat) (bs:List zk),m.jc.drop i=t->i<=m.jc.length->bs.length+t.length<=100000000000 ->
  Y L Cs zbd (some [12,147,146,8,10,13,5,145,11,4]) 8 (s4E T bs sw i) (stM m (x0::r) len bar e k bs sw) =
    some (.exit 6,(148,.w (Bo false))::s4E T (bs++(zbK m i t).flatMap (zfb m x0 bar)) sw T.length,stM m (x0::r) len bar e k (bs++(zbK m i t).flatMap (zfb m x0 bar)) sw):=by
 intro t;induction t with
 |nil =>
  intro i bs hd hi hb;obtain rfl:=zUb hd hi;rw[zj zbd.eq_1];simp[zbK,hl]
 |cons z t ih =>
  intro i bs hd hi hb;obtain⟨hil,hz,hd'⟩:=zL hd;simp only[jk]at hb;have hw:=zB (i:=i) (by have:=h.small.jc;omega);have hiT:i<T.length:=by rw[hl];exact hil
  have hT:=hTT i hiT;have hB:=zmo (h.kind _ (je hil));have ek:zaK m i=m.jc[i].kind:=by simp[zaK,hil]
  have jX:(bs.length+1)*48<=140737488355328:=by omega
  have e0:(m.jc.map zo)[i]'(by simpa using hil)=zo m.jc[i]:=by simp
  rw[zbK];by_cases hbf:zes (i:Int) 0 m.jc=[]
  ·rw[if_pos hbf,jO];rw[decide_eq_true hbf]at hT;by_cases c1:(i:Int)=x0
   ·subst c1;by_cases c2:0<=bar
    ·have hs:zfb m i bar i=[⟨i,0,0,0,zeR m.jc[i].kind,0⟩]:=by simp[zfb,zqn,c2,ek]
     have:=ih (i+1) (bs++[⟨i,0,0,0,zeR m.jc[i].kind,0⟩]) hd' (by omega) (by simp;omega);rw[hs,<-jA,<-this,zj zbd.eq_1];simp[s4E,stM,bsC,swW,zdQ,own,zh,zi,zch,zm,zG,zo,ze,hl,hil,hiT,hT,hB,hw,c2,jX,zg]
    ·have hs:zfb m i bar i=[]:=by simp[zfb,zqn,c2]
     have:=ih (i+1) bs hd' (by omega) (by omega);rw[hs,jf,<-this,zj zbd.eq_1];simp[s4E,stM,bsC,swW,zdQ,own,zh,zi,zch,zm,zG,zo,ze,hl,hil,hiT,hT,hB,hw,c2,jX,zg]
   ·have hs:zfb m x0 bar i=[⟨i,0,0,0,zeR m.jc[i].kind,0⟩]:=by simp[zfb,zqn,c1,ek]
    have c1':((i:Int)==x0)=false:=by simp[c1]
    have c1'':((i:Int) !=x0)=true:=by simp[c1]
    have:=ih (i+1) (bs++[⟨i,0,0,0,zeR m.jc[i].kind,0⟩]) hd' (by omega) (by simp;omega);rw[hs,<-jA,<-this,zj zbd.eq_1];simp[s4E,stM,bsC,swW,zdQ,own,zh,zi,zch,zm,zG,zo,ze,hl,hil,hiT,hT,hB,hw,c1',c1'',jX,zg]
  ·rw[if_neg hbf];rw[decide_eq_false hbf]at hT;have:=ih (i+1) bs hd' (by omega) (by omega);rw[<-this,zj zbd.eq_1];simp[s4E,stM,bsC,swW,zdQ,own,zh,zi,zch,zm,zG,zo,ze,hl,hil,hiT,hT,hw,zg]
end Go.TrRun
