/- Chn -/
import Derived.Test.YtdkpbpjcbkibiaaGreatDoorV1
import Derived.Test.YtdkpbpjcbkibiaaGreatDoorV12
import Derived.Test.YtdkpbpjcbkibiaaGreatDoorV31
import Derived.Test.YtdkpbpjcbkibiaaGreatDoorV33
set_option linter.all false
set_option maxRecDepth 100000
set_option maxHeartbeats 4000000
namespace Go.Proofs.YtdkpbpjcbkibiaaGreatDoor.B
open Go.RowKit
section
open Go.RowKit
variable{w:World}{col:Nat→Nat}{s:bM}{a:Act}{o:Oper}{x y z:Operand}{m:CV}{of_ now:Int}{f:CF}{e:se}{cs:Array Value}
theorem Ir:ae fG=#[.int .i64 0,.int .i64 0,.int .u8 0,.int .u8 0,.int .u8 0,.int .u8 0,.int .u8 0,.int .u8 0,.int .u8 0,.int .u8 0,.int .u8 0,.int .u8 0,.int .u8 0,.int .u8 0,.int .u8 0,.int .u8 0,.int .u8 0,.int .u8 0,.int .u8 0,.int .u8 0,.int .u8 0,.int .u8 0,.int .u8 0,.int .u8 0,.int .u8 0,.int .u8 0,.int .u8 0,.int .u8 0,.int .u8 0,.int .u8 0,.int .u8 0,.int .u8 0,.int .u8 0,.int .u8 0,.int .i64 0,.int .i64 0,.int .i64 0,.bool false,.int .i64 0,.int .i64 0,.int .i64 0,.int .i64 0,.int .i64 0,.int .i64 0,.int .i64 0]:=by kernel_rfl
theorem Ri{rp rl:Nat}{ts:List jY}{L:List ((Int×Int)×aY)}(hr:RC w col rp rl ts L)(i:Int):CB 23 #[.pointer (some ⟨rp,0,none⟩),.int .i64 i] w (.tuple #[.agg (ae ((bS L 0 i).getD fG)),.bool (bS L 0 i).isSome]):=by
 cases hx:bS L 0 i with
 |none=>have:=oG hr hx;simp only[Option.getD_none,Option.isSome_none];rw[Ir];exact this
 |some x=>exact jC hr hx
theorem Am(h:Inv s)(i:Int):0≤((bS s.L 0 i).getD fG).aa∧((bS s.L 0 i).getD fG).aa<2:=by
 cases hx:bS s.L 0 i with
 |none=>exact⟨aAk 0,by decide⟩
 |some x=>exact h.lt _ (ayw (h.HI.1 hx).2)
theorem MC(ats:Array TypeId)(ty:TypeId)(a b c:Value):Builtin.max_ ats ty #[a,b,c]=(Builtin.max2 a b >>= fun s=>Builtin.max2 s c >>= fun t=>pure t):=by simp only[Builtin.max_,aAt,aAB]
theorem ab3{l m n:Int}{ts:Array TypeId}(hx:a.eval x=.int .i64 l)(hy:a.eval y=.int .i64 m)(hz:a.eval z=.int .i64 n)(ho:o.op=.call {callee:=.builtin .max,args:=#[x,y,z],argTypes:=ts}:=by rfl):(execOp a.eval o).run Tryz.prog w=.ok (.value (.int .i64 (mx (mx l m) n))) w:=by unfold execOp;simp[ho,hx,hy,hz,resolve,invoke,builtin,MC,uL,mx,Sem.run_bind];rfl
theorem UJ(na at_ tr:Int)(h:bU)(w:World):(Instr.build 109 #[(0,.int .i64 na),(1,.int .i64 at_),(3,.agg (aJ h)),(4,.int .i64 tr)]).run Tryz.prog w=.ok (.agg (cx ⟨na,at_,0,h,tr⟩)) w:=by obtain⟨bs,hl⟩:=h;obtain⟨b0,b1,b2,b3,b4,b5,b6,b7,b8,b9,ZI,Xy,ZJ,ZK,ZL,Xz,ZM,ZN,XA,ZO,ZP,ZQ,XB,ZR,OO,ZS,ZT,ZU,TH,ZV,TI,ZW,rfl⟩:=zd bs hl;kernel_rfl
theorem ab4{u:Operand}{na at_ tr:Int}{h:bU}(hx:a.eval x=.int .i64 na)(hy:a.eval y=.int .i64 at_)(hz:a.eval z=.agg (aJ h))(hu:a.eval u=.int .i64 tr)(ho:o.op=.build 109 #[(0,x),(1,y),(3,z),(4,u)]:=by rfl):(execOp a.eval o).run Tryz.prog w=.ok (.value (.agg (cx ⟨na,at_,0,h,tr⟩))) w:=by unfold execOp;simp[ho,hx,hy,hz,hu,Sem.run_bind,UJ]
def NC(s:bM):Prop:=∀e∈s.N,an e.2.1 0=true
theorem Rj{α:Type}{L:List (bU×α)}{x:bU}{y:α}(h:kO L x=some y):(x,y)∈L:=by
 unfold kO at h;cases hq:jR L x with
 |none=>rw[hq]at h;cases h
 |some i=>obtain⟨v,hv⟩:=lD hq;rw[hq]at h;simp only[aAy,hv,ay9,ay8]at h;subst h;exact ayw hv
theorem xl(s:bM)(x:bU):(fb s x).N=s.N:=by unfold fb;split<;>rfl
theorem Gh:∀(es:List iY) (s:bM),(bz s es).N=s.N
 |[],s=>rfl
 |e::es,s=>by
  show(bz (mL s e) es).N=s.N;rw[Gh es];unfold mL;split
  ·split;·rfl
   ·exact xl _ _
  ·rfl
theorem UK(s:bM)(i now:Int):(i9 s i now).2.N=s.N:=by
 unfold i9;split;·rfl
 ·split<;>rfl
theorem MD(s:bM)(i now:Int):(eZ s i now).2.N=s.N:=by
 unfold eZ;split;·rfl
 ·split<;>rfl
theorem Rk(s:bM)(c t n:Int):(gZ s c t n).2.N=s.N:=by
 unfold gZ;split;·rfl
 ·split<;>rfl
theorem Gi{of_ now:Int}:∀(l:List bn) (out:List iY) (s:bM),(∀x∈l,∀s,(aX of_ now x s).2.N=s.N)→(dG of_ now l out s).2.N=s.N
 |[],out,s,h=>by rw[dG]
 |c::l,out,s,h=>by
  have h1:=h c (by simp) s;by_cases q:(aX of_ now c s).1.2=0;·rw[oe q,Gi l _ _ fun x hx=>h x (by simp[hx]),h1]
  ·rw[pU q,h1]
theorem UL(c:bn):∀s,(aX of_ now c s).2.N=s.N:=by
 refine bn.ind (P:=fun c=>∀s,(aX of_ now c s).2.N=s.N) (fun c IH=>?_) c;intro s;obtain⟨k,t,n,l⟩:=c;rw[aX];split;·rfl
 ·split;·exact Rk _ _ _ _
  ·split;·exact Gi l [] s fun x hx=>IH x hx
   ·split
    ·split;·rfl
     ·exact MD _ _ _
    ·split;·rfl
     ·exact UK _ _ _
theorem ag4(s:bM)(c:bn)(of_ now:Int):(oz s c of_ now).2.N=s.N:=by
 unfold oz;split
 ·split;·exact UL c s
  ·rfl
 ·rfl
theorem nv(s:bM)(c:bn)(of_ now:Int):(oz s c of_ now).1.1.length≤192:=by
 unfold oz;split
 ·split;·rename_i h;exact xi h (aAk 0) s
  ·simp
 ·simp
theorem Rl(s:bM)(t:cS):(eA s t).2.N=s.N:=by
 unfold eA;split;·exact xl _ _
 ·rw[xl,Gh,ag4]
theorem uD(s:bM)(t:cS):(eA s t).1.length≤193:=by
 unfold eA;split;·simp
 ·rename_i x _;have:=nv s x.1 t.aa s.now;simp;omega
theorem Cz(now:Int)(a:bM×List iY)(e:(Int×Int)×aY):(mh now a e).2.length≤a.2.length+1:=by
 unfold mh;split;·simp only;split<;>simp
 ·simp
theorem Rm(h:Ch w col f m s)(hc:bw w (fun b=>col b=0) cs e.call):q0 41 #[pA f.cp 0,.agg (cj e.kind e.dy e.iV e.n e.ref e.aa e.level e.sum e.bZ cs)] w col f m s (.int .i64 (qC s e).1) ((qC s e).2):=by
 have ho:Out w col m s w col f m s:=bV.start h;have hp:=Hp.nil w;have hU:=hc.size;refine fe Tryz.func41 Tryz.ntmps41 ?_;refine go ?_;refine lR (v:=.agg (cj e.kind e.dy e.iV e.n e.ref e.aa e.level e.sum e.bZ cs)) rfl (fun g1 w2 n3=>ab ?_);have n3:jr _ _ _ (cj e.kind e.dy e.iV e.n e.ref e.aa e.level e.sum e.bZ cs) _:=n3;have dq:=ayo ho.turns.size n3.fresh;obtain⟨dh,cF⟩:∃z,z=mark col g1:=⟨_,rfl⟩;have ho:=ho.new n3;rw[←cF]at ho;have cR:dh g1=7:=by rw[cF];exact dX
 have hp:=hp.new n3;refine go ?_;refine tT 30 (some 24) none fun bl=>?_;refine af 0 ?_;refine af 1 ?_;refine af 2 ?_;refine gI (pA f.rp 0) 3 rfl (yq fun w' h'=>ay ((ho.step h').ch.iX.choose_spec) rfl U64 rfl) ?_;refine af 4 ?_;refine af 5 ?_;refine af 6 ?_;refine gI (pA f.lp 0) 7 rfl (yq fun w' h'=>ay ((ho.step h').ch.iX.choose_spec) rfl U42 rfl) ?_;refine af 8 ?_;refine af 9 ?_;refine af 10 ?_;refine gI (pA f.vp 0) 11 rfl (yq fun w' h'=>ay ((ho.step h').ch.iX.choose_spec) rfl U57 rfl) ?_;refine af 12 ?_;refine gI (i6 e.dy) 13 rfl (yq fun w' h'=>ay ((hp.at 0).below h') j2 U3 rfl) ?_;refine af 14 ?_;refine gI (i6 e.aa) 15 rfl (yq fun w' h'=>ay ((hp.at 0).below h') mK U3 rfl) ?_;refine af 16 ?_;refine gI (.agg (aJ e.sum)) 17 rfl (yq fun w' h'=>aQ (i:=7) (n:=32) ((hp.at 0).below h') oc (by rw[aM hU];exact ayr rfl) U31 kr rfl) ?_;refine af 18 ?_;refine gI (i6 e.n) 19 rfl (yq fun w' h'=>ay ((hp.at 0).below h') oW U3 rfl) ?_;refine af 20 ?_;refine af 21 ?_;refine af 22 ?_;refine gI (i6 s.now) 23 rfl (yq fun w' h'=>ay ((ho.step h').ch.iX.choose_spec) rfl U3 rfl) ?_;refine nF 24 (fun w5 nQ hp bl=>?_);have ho:=ho.step nQ;have kk:Ks dh [(g1,7)]:=⟨cR,trivial⟩;refine jo (Qh ho.ch e.dy e.aa e.sum e.n s.now) fun w7 lf m9 yp hp ho kk=>?_;refine aD 25 (fun ot fY hp=>?_);have ho:=ho.step fY;refine go ?_;refine ap 26 ?_;refine ap 27 ?_;refine aD 28 (fun s6 gC hp=>?_);have ho:=ho.step gC;refine go ?_;refine aD 29 (fun uH jA hp=>?_);have ho:=ho.step jA;refine go ?_;refine aE (fun uG fw hp=>?_);have ho:=ho.step fw;refine go ?_;by_cases S8:(gm s e.dy e.aa e.sum e.n s.now).1.2=0;·refine go ?_;refine gu 6 ?_;refine gq ?_;refine qs (pA f.pp 0) (fun w' h'=>ay ((ho.step h').ch.iX.choose_spec) rfl U78 rfl) ?_;refine gq ?_;refine qs (.agg (aJ e.sum)) (fun w' h'=>aQ (i:=7) (n:=32) ((hp.at 0).below h') oc (by rw[aM hU];exact ayr rfl) U31 kr rfl) ?_;refine nl fun AZ jh hp=>?_;have ho:=ho.step jh;refine jo (abQ ho.ch e.sum) fun tN Yk m28 UA hp ho kk=>?_;refine p1 ?_;refine fM ho ?_ ?_<;>simp[qC,S8]<;>rfl
 refine go ?_;refine p1 ?_;refine fM ho ?_ ?_<;>simp[qC,S8]<;>rfl
def okK(k:Int):Bool:=!(decide (k=3)||decide (k=6)||decide (k=10))
theorem UM(h:Ch w col f m s)(hc:bw w (fun b=>col b=0) cs e.call)(hk:okK e.kind=true):q0 44 #[pA f.cp 0,.agg (cj e.kind e.dy e.iV e.n e.ref e.aa e.level e.sum e.bZ cs)] w col f m s (.int .i64 (oY s e).1) ((oY s e).2):=by
 have ho:Out w col m s w col f m s:=bV.start h;have hp:=Hp.nil w;have hU:=hc.size;refine fe Tryz.func44 Tryz.ntmps44 ?_;refine go ?_;refine lR (v:=.agg (cj e.kind e.dy e.iV e.n e.ref e.aa e.level e.sum e.bZ cs)) rfl (fun g1 w2 n3=>ab ?_);have n3:jr _ _ _ (cj e.kind e.dy e.iV e.n e.ref e.aa e.level e.sum e.bZ cs) _:=n3;have dq:=ayo ho.turns.size n3.fresh;obtain⟨dh,cF⟩:∃z,z=mark col g1:=⟨_,rfl⟩;have ho:=ho.new n3;rw[←cF]at ho;have cR:dh g1=7:=by rw[cF];exact dX
 have hp:=hp.new n3;refine go ?_;refine ak (i6 e.kind) (ay (hp.at 0) kp U3 rfl) ?_;by_cases c5:e.kind=7;·refine go ?_;refine gu 14 ?_;refine gq ?_;refine qs (pA f.vp 0) (fun w' h'=>ay ((ho.step h').ch.iX.choose_spec) rfl U57 rfl) ?_;refine gq ?_;refine qs (pA f.lp 0) (fun w' h'=>ay ((ho.step h').ch.iX.choose_spec) rfl U42 rfl) ?_;refine gq ?_;refine qs (i6 e.dy) (fun w' h'=>ay ((hp.at 0).below h') j2 U3 rfl) ?_;refine gq ?_;refine qs (i6 e.ref) (fun w' h'=>ay ((hp.at 0).below h') mJ U3 rfl) ?_;refine gq ?_;refine qs (.agg #[i6 e.bZ.kind,.bool e.bZ.jP,i6 e.bZ.level,i6 e.bZ.a,i6 e.bZ.n,i6 e.bZ.s]) (fun w' h'=>aQ (i:=39) (n:=6) ((hp.at 0).below h') nK (by rw[aM hU];exact ayr rfl) U33 kr rfl) ?_;refine nl fun w6 lT hp=>?_;have ho:=ho.step lT;have kk:Ks dh [(g1,7)]:=⟨cR,trivial⟩;refine jo (aaQ ho.ch e.dy e.ref e.bZ) fun w8 abg m10 am9 hp ho kk=>?_;refine p1 ?_;refine fM ho ?_ ?_<;>simp[oY,c5]<;>rfl
 refine go ?_;by_cases iB:e.kind=8;·refine go ?_;refine gu 12 ?_;refine gq ?_;refine qs (pA f.vp 0) (fun w' h'=>ay ((ho.step h').ch.iX.choose_spec) rfl U57 rfl) ?_;refine gq ?_;refine qs (i6 e.dy) (fun w' h'=>ay ((hp.at 0).below h') j2 U3 rfl) ?_;refine gq ?_;refine qs (i6 e.ref) (fun w' h'=>ay ((hp.at 0).below h') mJ U3 rfl) ?_;refine gq ?_;refine qs (i6 s.now) (fun w' h'=>ay ((ho.step h').ch.iX.choose_spec) rfl U3 rfl) ?_;refine nl fun oD eI hp=>?_;have ho:=ho.step eI;have kk:Ks dh [(g1,7)]:=⟨cR,trivial⟩;refine jo (PR ho.ch e.dy e.ref s.now) fun pb xO Td HS hp ho kk=>?_;refine p1 ?_;refine fM ho ?_ ?_<;>simp[oY,c5,iB]<;>rfl
 refine go ?_;by_cases im:e.kind=9;·refine go ?_;refine gu 18 ?_;refine gq ?_;refine qs (pA f.vp 0) (fun w' h'=>ay ((ho.step h').ch.iX.choose_spec) rfl U57 rfl) ?_;refine gq ?_;refine qs (pA f.lp 0) (fun w' h'=>ay ((ho.step h').ch.iX.choose_spec) rfl U42 rfl) ?_;refine gq ?_;refine qs (i6 e.dy) (fun w' h'=>ay ((hp.at 0).below h') j2 U3 rfl) ?_;refine gq ?_;refine qs (i6 e.aa) (fun w' h'=>ay ((hp.at 0).below h') mK U3 rfl) ?_;refine gq ?_;refine qs (i6 e.iV) (fun w' h'=>ay ((hp.at 0).below h') sg U3 rfl) ?_;refine gq ?_;refine qs (i6 e.level) (fun w' h'=>ay ((hp.at 0).below h') xe U3 rfl) ?_;refine gq ?_;refine qs (i6 e.n) (fun w' h'=>ay ((hp.at 0).below h') oW U3 rfl) ?_;refine nl fun re lH hp=>?_;have ho:=ho.step lH;have kk:Ks dh [(g1,7)]:=⟨cR,trivial⟩;refine jo (HU ho.ch e.dy e.aa e.iV e.level e.n) fun zN pO m24 ab5 hp ho kk=>?_;refine p1 ?_;refine fM ho ?_ ?_<;>simp[oY,c5,iB,im]<;>rfl
 refine go ?_;by_cases jT:e.kind=10;·exact absurd hk (by rw[jT];decide)
 refine go ?_;refine gu 16 ?_;refine gq ?_;refine qs (pA f.vp 0) (fun w' h'=>ay ((ho.step h').ch.iX.choose_spec) rfl U57 rfl) ?_;refine gq ?_;refine qs (pA f.lp 0) (fun w' h'=>ay ((ho.step h').ch.iX.choose_spec) rfl U42 rfl) ?_;refine gq ?_;refine qs (i6 e.dy) (fun w' h'=>ay ((hp.at 0).below h') j2 U3 rfl) ?_;refine gq ?_;refine qs (i6 e.aa) (fun w' h'=>ay ((hp.at 0).below h') mK U3 rfl) ?_;refine gq ?_;refine qs (i6 s.now) (fun w' h'=>ay ((ho.step h').ch.iX.choose_spec) rfl U3 rfl) ?_;refine nl fun H5 yz hp=>?_;have ho:=ho.step yz;have kk:Ks dh [(g1,7)]:=⟨cR,trivial⟩;refine jo (P3 ho.ch e.dy e.aa s.now) fun EG Gj m37 atx hp ho kk=>?_;refine p1 ?_;refine fM ho ?_ ?_<;>simp[oY,c5,iB,im,jT]<;>rfl
theorem UN(h:Ch w col f m s){H:bn→bU}(hH:Uz H)(ha:Bi w)(h1:col 1=0)(hc:bw w (fun b=>col b=0) cs e.call)(hk:okK e.kind=true):q0 16 #[pA f.cp 0,.agg (cj e.kind e.dy e.iV e.n e.ref e.aa e.level e.sum e.bZ cs)] w col f m s (.int .i64 (jF H s e).1) ((jF H s e).2):=by
 have ho:Out w col m s w col f m s:=bV.start h;have hp:=Hp.nil w;have hU:=hc.size;refine fe Tryz.func16 Tryz.ntmps16 ?_;refine go ?_;refine lR (v:=.agg (cj e.kind e.dy e.iV e.n e.ref e.aa e.level e.sum e.bZ cs)) rfl (fun g1 w2 n3=>ab ?_);have n3:jr _ _ _ (cj e.kind e.dy e.iV e.n e.ref e.aa e.level e.sum e.bZ cs) _:=n3;have dq:=ayo ho.turns.size n3.fresh;obtain⟨dh,cF⟩:∃z,z=mark col g1:=⟨_,rfl⟩;have ho:=ho.new n3;rw[←cF]at ho;have cR:dh g1=7:=by rw[cF];exact dX
 have hp:=hp.new n3;refine go ?_;refine ak (.agg (cj e.kind e.dy e.iV e.n e.ref e.aa e.level e.sum e.bZ cs)) (aQ (i:=0) (n:=49) (hp.at 0) (eC hU) (by rw[aM hU];exact ayp _) U38 kr rfl) ?_;by_cases c5:(ee e)=true
 ·refine iC ((mu c5 (Ka (hc.turns ho.tn Ad)))) fun w6 lT hp ho=>?_;refine ak (i6 e.kind) (ay (hp.at 0) kp U3 rfl) ?_;by_cases c8:e.kind=1;·refine go ?_;refine gu 10 ?_;refine gq ?_;refine qs (pA f.lp 0) (fun w' h'=>ay ((ho.step h').ch.iX.choose_spec) rfl U42 rfl) ?_;refine gq ?_;refine qs (i6 e.dy) (fun w' h'=>ay ((hp.at 0).below h') j2 U3 rfl) ?_;refine gq ?_;refine qs (i6 e.iV) (fun w' h'=>ay ((hp.at 0).below h') sg U3 rfl) ?_;refine gq ?_;refine qs (i6 e.n) (fun w' h'=>ay ((hp.at 0).below h') oW U3 rfl) ?_;refine nl fun w9 nS hp=>?_;have ho:=ho.step nS;have kk:Ks dh [(g1,7)]:=⟨cR,trivial⟩;refine jo (zz ho.ch e.dy e.iV e.n) fun ot Yf m13 aty hp ho kk=>?_;refine p1 ?_;refine fM ho ?_ ?_<;>simp[jF,c5,c8]<;>rfl
  refine go ?_;by_cases gJ:e.kind=2
  ·refine go ?_;refine tT 19 (some 12) (some 17) fun bl=>?_;refine af 0 ?_;refine af 1 ?_;refine af 2 ?_;refine gI (pA f.pp 0) 3 rfl (yq fun w' h'=>ay ((ho.step h').ch.iX.choose_spec) rfl U78 rfl) ?_;refine af 4 ?_;refine af 5 ?_;refine af 6 ?_;refine gI (pA f.lp 0) 7 rfl (yq fun w' h'=>ay ((ho.step h').ch.iX.choose_spec) rfl U42 rfl) ?_;refine af 8 ?_;refine gI (i6 e.dy) 9 rfl (yq fun w' h'=>ay ((hp.at 0).below h') j2 U3 rfl) ?_;refine af 10 ?_;refine gI (.agg cs) 11 rfl (yq fun w' h'=>aQ (i:=45) (n:=4) ((hp.at 0).below h') (jO hU) (by rw[aM hU];exact ayp _) U36 kr rfl) ?_;refine XS (listed1:=#[true,true,true,true,true,true,true,true,true,true,true,true,true,false,false,false,false,false,false]) (listed2:=#[true,true,true,true,true,true,true,true,true,true,true,true,false,false,false,false,true,false,false]) 12 16 rfl rfl (fun qf ff=>⟨by have ff:=cd ff;exact⟨br (U bl ff),az (hp.below ff)⟩,?_,?_⟩);·have ff:=cd ff;have hp:=hp.below ff;have bl:=U bl ff;have ho:=ho.step ff;have kk:Ks dh [(g1,7)]:=⟨cR,trivial⟩;refine jo (QX ho.ch hH (ha.turns ho.tn (by show ¬own (col 1);rw[h1];exact kU)) ((ho.fp 1 (ha.choose_spec.choose_spec.1.lt)).trans h1) (hc.out ho) e.dy) fun s7 aqX m20 ab6 hp ho kk=>?_;refine ap 13 ?_;refine ap 14 ?_;refine ap 15 ?_;refine aD 16 (fun FM lJ hp=>?_);have ho:=ho.step lJ;refine mU fun T6 Bp xS n32 hp ME ho kk an7=>?_;refine aD 17 (fun GK tq hp=>?_) (hD:=fun _ tq=>⟨aR (by rfl),az ((hp.sub ((.cons _ (.cons_cons _ .slnil)))).below tq)⟩);have ho:=ho.step tq;refine aU (i:=0) (v:=.agg (aJ (de H s e.dy e.call).1.1)) (hp.at 0) rfl rfl (by show _=some ((aJ (de H s e.dy e.call).1.1)).size;rw[bd];kernel_rfl) (by show 0+((aJ (de H s e.dy e.call).1.1)).size≤_;rw[bd];exact ayr rfl) (iJ _) (fun NW Lx=>ab ?_);have Lx:=cz Lx (by show((aJ (de H s e.dy e.call).1.1)).size=_;rw[bd];rfl);have hp:=(hp.put 0 Lx).nf;have ho:=ho.put Lx kk.1 (.inl ME);refine go ?_;refine aD 18 (fun JU mf hp=>?_);have ho:=ho.step mf;refine go ?_;refine aE (fun NX q8 hp=>?_);have ho:=ho.step q8;refine go ?_;refine p1 ?_;refine fM ho ?_ ?_<;>simp[jF,c5,c8,gJ]<;>rfl
   ·have ff:=cd ff;have hp:=hp.below ff;have bl:=U bl ff;have ho:=ho.step ff;have kk:Ks dh [(g1,7)]:=⟨cR,trivial⟩;refine mU fun g42 NY rP B2 hp wO ho kk wQ=>?_;have bl:=U bl B2.below;refine aS 12 (fun PJ qz hp bl=>?_) (hD:=fun _ qz=>⟨br (U bl qz),az ((hp.sub ((.cons _ (.cons_cons _ .slnil)))).below qz)⟩);have ho:=ho.step qz;refine jo (QX ho.ch hH (ha.turns ho.tn (by show ¬own (col 1);rw[h1];exact kU)) ((ho.fp 1 (ha.choose_spec.choose_spec.1.lt)).trans h1) (hc.out ho) e.dy) fun PK Qd m50 agk hp ho kk=>?_;refine aD 13 (fun N0 lI hp=>?_) (hD:=fun _ lI=>⟨aR (by rfl),az ((hp.sub ((.cons _ (.cons_cons _ .slnil)))).below lI)⟩);have ho:=ho.step lI;refine go ?_;refine ap 14 ?_;refine ap 15 ?_;refine aD 17 (fun w58 yr hp=>?_) (hD:=fun _ yr=>⟨aR (by rfl),az ((hp.sub ((.cons _ (.cons_cons _ .slnil)))).below yr)⟩);have ho:=ho.step yr;refine aU (i:=0) (v:=.agg (aJ (de H s e.dy e.call).1.1)) (hp.at 0) rfl rfl (by show _=some ((aJ (de H s e.dy e.call).1.1)).size;rw[bd];kernel_rfl) (by show 0+((aJ (de H s e.dy e.call).1.1)).size≤_;rw[bd];exact ayr rfl) (iJ _) (fun Te p60=>ab ?_);have p60:=cz p60 (by show((aJ (de H s e.dy e.call).1.1)).size=_;rw[bd];rfl);have hp:=(hp.put 0 p60).nf;have ho:=ho.put p60 kk.1 (.inl wO);refine go ?_;refine aD 18 (fun w62 Rn hp=>?_);have ho:=ho.step Rn;refine go ?_;refine aE (fun w64 an8 hp=>?_);have ho:=ho.step an8;refine go ?_;refine p1 ?_;refine fM ho ?_ ?_<;>simp[jF,c5,c8,gJ]<;>rfl
  refine go ?_;by_cases c66:e.kind=3;·exact absurd hk (by rw[c66];decide)
  refine go ?_;by_cases Bx:e.kind=4;·refine go ?_;refine ak (.agg (cj e.kind e.dy e.iV e.n e.ref e.aa e.level e.sum e.bZ cs)) (aQ (i:=0) (n:=49) (hp.at 0) (eC hU) (by rw[aM hU];exact ayp _) U38 kr rfl) ?_;have kk:Ks dh [(g1,7)]:=⟨cR,trivial⟩;refine jo (Rm ho.ch (hc.out ho)) fun w74 P5 m76 FR hp ho kk=>?_;refine p1 ?_;refine fM ho ?_ ?_<;>simp[jF,c5,c8,gJ,c66,Bx]<;>rfl
  refine go ?_;by_cases c78:e.kind=5;·refine go ?_;refine gu 12 ?_;refine gq ?_;refine qs (pA f.rp 0) (fun w' h'=>ay ((ho.step h').ch.iX.choose_spec) rfl U64 rfl) ?_;refine gq ?_;refine qs (pA f.lp 0) (fun w' h'=>ay ((ho.step h').ch.iX.choose_spec) rfl U42 rfl) ?_;refine gq ?_;refine qs (i6 e.dy) (fun w' h'=>ay ((hp.at 0).below h') j2 U3 rfl) ?_;refine gq ?_;refine qs (i6 e.ref) (fun w' h'=>ay ((hp.at 0).below h') mJ U3 rfl) ?_;refine nl fun w79 Bs hp=>?_;have ho:=ho.step Bs;have kk:Ks dh [(g1,7)]:=⟨cR,trivial⟩;refine jo (LY ho.ch e.dy e.ref) fun w81 Yc m83 L6 hp ho kk=>?_;refine p1 ?_;refine fM ho ?_ ?_<;>simp[jF,c5,c8,gJ,c66,Bx,c78]<;>rfl
  refine go ?_;by_cases c85:e.kind=6;·exact absurd hk (by rw[c85];decide)
  refine go ?_;refine ak (.agg (cj e.kind e.dy e.iV e.n e.ref e.aa e.level e.sum e.bZ cs)) (aQ (i:=0) (n:=49) (hp.at 0) (eC hU) (by rw[aM hU];exact ayp _) U38 kr rfl) ?_;have kk:Ks dh [(g1,7)]:=⟨cR,trivial⟩;refine jo (UM ho.ch (hc.out ho) hk) fun w92 ag6 m94 UO hp ho kk=>?_;refine p1 ?_;refine fM ho ?_ ?_<;>simp[jF,c5,c8,gJ,c66,Bx,c78,c85]<;>rfl
 replace c5:=eq_false_of_ne_true c5;refine iC ((mu c5 (Ka (hc.turns ho.tn Ad)))) fun w96 zJ hp ho=>?_;refine p1 ?_;refine fM ho ?_ ?_<;>simp[jF,c5]<;>rfl
end
end Go.Proofs.YtdkpbpjcbkibiaaGreatDoor.B
