/- VotD RangeR Votes VotesB Ref Own Mp Br -/
import Derived.Test.YtdkpbpjcbkibiaaGreatDoorV0
import Derived.Test.YtdkpbpjcbkibiaaGreatDoorV10
import Derived.Test.YtdkpbpjcbkibiaaGreatDoorV1
import Derived.Test.YtdkpbpjcbkibiaaGreatDoorV2
import Derived.Test.YtdkpbpjcbkibiaaGreatDoorV5
set_option linter.all false
set_option maxRecDepth 100000
set_option maxHeartbeats 4000000
namespace Go.Proofs.YtdkpbpjcbkibiaaGreatDoor.B
open Go.RowKit
section
open Go.RowKit
variable{w:World}{col:Nat→Nat}{g:VG}{P:Nat→Option cH}{V:List ((Int×Int)×cZ)}{R:kF}{a t:Int}
def Bm(v:cZ)(s:Int):Bool:=decide (v.kind=1)&&((v.jP&&decide (s=2))||(!v.jP&&decide (s=3)))
def rD(r:fU)(u n now:Int):fU:=if now<u then{r with aZ:=mx r.aZ u,n:=mx r.n n}else r
theorem HA(hv:VC w col g P V R)(bG:rB col w)(ia:dn a 0 9=true)(it:dn t 0 3=true)(JC:R.length<900000)(hg:gh R a t=true):CP 127 #[pA g.vp 0,i6 a,i6 t] w fun e w'=>∃col' wG,e=.returned (.pointer (some ⟨wG a t,0,none⟩))∧VC w' col' {g with ji:=wG} P V (i7 R a t)∧au (fun b=>A4 (col b)) w w'∧(∀b,b<w.heap.size→col' b=col b)∧rB col' w'∧∀e∈R,wG e.1.1 e.1.2=g.ji e.1.1 e.1.2:=by
 obtain⟨arr,yL,ha⟩:=hv.vp;have hk:(0≤a∧a<10)∧0≤t∧t<4:=by have h1:=dC.1 ia;have h2:=dC.1 it;omega
 have hp:=(Hp.nil w).cons yL (by simp);have hB:=Below.refl w.heap.size w;have hT:=au.refl (fun b=>b=g.rg) w;refine fe Tryz.func127 Tryz.ntmps127 ?_;refine go ?_;refine cC ((eW ia (jm a)) _) fun w1 er hp hB=>?_;have hT:=hT.step er;refine cC ((eW it (lO t)) _) fun w3 xI hp hB=>?_;have hT:=hT.step xI;refine ak (pA g.rg 0) (ay (hp.at 0) ha.rg U158 rfl) ?_;refine cC (afo (hv.vB.below hB) a t (Pj hg)) fun w5 nQ hp hB=>?_;have hT:=hT.step nQ;refine p1 ?_;exact⟨col,g.ji,rfl,by rw[show i7 R a t=R from if_pos hg];exact hv.below hB,au.aW hB,fun _ _=>rfl,bG.mono hB.size,fun _ _=>rfl⟩
theorem HD(hv:VC w col g P V R)(bG:rB col w)(ia:dn a 0 9=true)(it:dn t 0 3=true)(JC:R.length<900000)(hg:gh R a t=false):CP 127 #[pA g.vp 0,i6 a,i6 t] w fun e w'=>∃col' wG,e=.returned (.pointer (some ⟨wG a t,0,none⟩))∧VC w' col' {g with ji:=wG} P V (i7 R a t)∧au (fun b=>A4 (col b)) w w'∧(∀b,b<w.heap.size→col' b=col b)∧rB col' w'∧∀e∈R,wG e.1.1 e.1.2=g.ji e.1.1 e.1.2:=by
 obtain⟨arr,yL,ha⟩:=hv.vp;have hk:(0≤a∧a<10)∧0≤t∧t<4:=by have h1:=dC.1 ia;have h2:=dC.1 it;omega
 have hp:=(Hp.nil w).cons yL (by simp);have hB:=Below.refl w.heap.size w;have hT:=au.refl (fun b=>b=g.rg) w;refine fe Tryz.func127 Tryz.ntmps127 ?_;refine go ?_;refine cC ((eW ia (jm a)) _) fun w1 er hp hB=>?_;have hT:=hT.step er;refine cC ((eW it (lO t)) _) fun w3 xI hp hB=>?_;have hT:=hT.step xI;refine ak (pA g.rg 0) (ay (hp.at 0) ha.rg U158 rfl) ?_;refine cC (K8 (hv.vB.below hB) a t (Fp hg)) fun w5 nQ hp hB=>?_;have hT:=hT.step nQ;refine ak (.agg #[.pointer none,i6 0,i6 0,i6 0,i6 0]) kr ?_;refine ic fun g7 w8 n9 hp bj hB=>?_;have vq:=ayo hT.size n9.fresh;have hT:=hT.step n9.below;refine ak (pA g.rg 0) (ay (hp.at 1) ha.rg U158 rfl) ?_;refine ce (afn (hv.vB.below hB) (by rw[Ln];omega) a t g7) ?_;rintro _ o2 ⟨rfl,hgr,yi⟩;refine⟨_,rfl,ab ?_⟩;have hTn:au (fun b=>b=g.rg) w _:=(au.aW hB).trans (yi.mono fun b _ e=>.inl e);have hbn:=(hp.at 0).turns yi (fun e=>by have:=hv.vB.lt;omega);have uI:=(hp.at 0).lt;have jv:=hB.size;have aaC:=yi.size;have hp:=Hp.nil o2;refine go ?_;refine p1 ?_;refine⟨fun b=>if b=g7 then wz a t else col b,fun x y=>if x=a∧y=t then g7 else g.ji x y,by simp,?_,hTn.mono fun b _ e=>by subst e;rw[hv.Fk];exact .inr (.inr (.inl rfl)),fun b hb=>if_neg om,fun b hb=>(if_neg om).trans (bG b om),fun e he=>if_neg fun q=>JB hv.iO om hg he (Prod.ext q.1 q.2)⟩;rw[show i7 R a t=ej R a t vz from if_neg (by rw[hg];decide)];exact hv.aay om hk hg bG hTn bj hbn jv uI hgr
theorem Lo(hv:VC w col g P V R)(bG:rB col w)(ia:dn a 0 9=true)(it:dn t 0 3=true)(JC:R.length<900000):CP 127 #[.pointer (some ⟨g.vp,0,none⟩),.int .i64 a,.int .i64 t] w fun e w'=>∃col' wG,e=.returned (.pointer (some ⟨wG a t,0,none⟩))∧VC w' col' {g with ji:=wG} P V (i7 R a t)∧au (fun b=>A4 (col b)) w w'∧(∀b,b<w.heap.size→col' b=col b)∧rB col' w'∧∀e∈R,wG e.1.1 e.1.2=g.ji e.1.1 e.1.2:=by
 cases hg:gh R a t with
 |true=>exact HA hv bG ia it JC hg
 |false=>exact HD hv bG ia it JC hg
theorem Pl(v:cZ)(s:Int):CB 135 #[.agg #[i6 v.kind,.bool v.jP,i6 v.level,i6 v.a,i6 v.n,i6 v.s],i6 s] w (.bool (Bm v s)):=by
 have hp:=Hp.nil w;have hB:=Below.refl w.heap.size w;refine fe Tryz.func135 Tryz.ntmps135 ?_;refine go ?_;refine ic fun g1 w2 n3 hp ai hB=>?_;by_cases c4:v.kind=1
 ·refine go ?_;by_cases c5:v.jP=true
  ·refine ak (.bool true) (ob c5 (ay (hp.at 0) rfl U4 rfl)) ?_;by_cases c6:s=2;·refine go ?_;refine p1 ?_;exact⟨by simp[Bm,c4,c5,c6],hB⟩
   refine go ?_;refine ak (.bool true) (ob c5 (ay (hp.at 0) rfl U4 rfl)) ?_;refine p1 ?_;exact⟨by simp[Bm,c4,c5,c6],hB⟩
  replace c5:=eq_false_of_ne_true c5;refine ak (.bool false) (ob c5 (ay (hp.at 0) rfl U4 rfl)) ?_;refine ak (.bool false) (ob c5 (ay (hp.at 0) rfl U4 rfl)) ?_;by_cases c7:s=3;·refine go ?_;refine p1 ?_;exact⟨by simp[Bm,c4,c5,c7],hB⟩
  refine go ?_;refine p1 ?_;exact⟨by simp[Bm,c4,c5,c7],hB⟩
 refine go ?_;refine p1 ?_;exact⟨by simp[Bm,c4],hB⟩
end
section
open Go.RowKit
def qq(gf:FuncId)(lb:Array Value)(W0:World)(S:Nat→Prop)(R:World→Prop)(n:Nat)(enc:Nat→Array Value):Prop:=∀(l:Nat) (J:Nat→(Nat→Prop)→World→Prop) (Jx:World→Prop) (W:World) (O:Nat→Prop),Bw W0 W→(∀b,O b→b<W.heap.size)→(∀i O A B,J i O A→eD W.heap.size A B→J i O B)→(∀A B,Jx A→eD W.heap.size A B→Jx B)→(∀i O A,J i O A→R A)→(∀b,S b→¬O b∧b<W0.heap.size)→(∀i O A,i<n→J i O A→Zg l (enc i) A fun t B=>∃O',Kps O O' A B∧((t=true∧J (i+1) O' B)∨(t=false∧Jx B)))→J 0 O W→CP gf (#[.func (.yield l) #[] #[]]++lb) W fun e B=>(∃v,e=.returned v)∧((∃O',J n O' B)∨Jx B)
section
variable{g:Operand}{ps:Array Tmp}{assign body:Code}{Q:Exit→Act→World→Prop}{a:Act}{w:World}
theorem rE{gf:FuncId}{lb:Array Value}{G6:Func}{W0:World}{S:Nat→Prop}{n:Nat}{enc:Nat→Array Value}{R:World→Prop}(hit:qq gf lb W0 S R n enc)(oq:Bw W0 w)(I:Nat→(Nat→Prop)→World→Prop)(X:Code→World→Prop)(O:Nat→Prop)(hO:∀b,O b→b<w.heap.size)(hS:∀b,S b→¬O b∧b<W0.heap.size)(hI:∀i O A B,I i O A→eD w.heap.size A B→I i O B)(hX:∀c A B,X c A→eD w.heap.size A B→X c B)(h0:I 0 O w)(hRI:∀i O A,I i O A→R A)(G7:∀l i O A,w.heap.size≤l→l<A.heap.size→i<n→(∀b,O b→b<A.heap.size)→¬O l→I i O A→WC (some l) assign (Exit.then (Zi w.heap.size l body I X i O A) (fun _ _ _=>False)) {tmps:=(ps.zip (enc i)).foldl (fun t (p,v)=>t.setIfInBounds p v) a.tmps,defers:=[]} A)(EL:∀D O A,w.heap.size≤D→¬O D→I n O A→A.heap[D]?=some (.deferred (some []))→Q .normal {a with defers:={target:=.collected D,args:=#[]}::a.defers} A)(Ox:∀D c A,w.heap.size≤D→X c A→A.heap[D]?=some (.deferred (some []))→WC none c Q {a with defers:={target:=.collected D,args:=#[]}::a.defers} A)(hf:Tryz.prog.funcs[gf]?=some G6)(qG:∀i,i<n→(enc i).size=ps.size)(hg:a.eval g=.func (.func gf) #[] lb:=by rfl)(fQ:(G6.name== "runtime.NumGoroutine")=false:=by kernel_rfl)(hb:G6.body.isSome=true:=by rfl):WC none (.rangeFunc g ps assign body) Q a w:=by
 have eg:=fun args w=>oA hf fQ hb args w;refine⟨wpIn_rangeFunc (F:=FW none) fun fn hfn=>?_⟩;obtain⟨rec,qX⟩:∃rec:LoopState→Option Code→Loop,rec=fun st pe=>{state:=st,pending:=pe,fn,tmps:=a.tmps,params:=ps,assign,body,defers:=w.heap.size}:=⟨_,rfl⟩;obtain⟨W1,Oy⟩:∃W1,(w.alloc (.deferred (some []))).alloc (.loop (rec .ready none))=W1:=⟨_,rfl⟩;have hL1:W1.heap[w.heap.size+1]?=some (.loop (rec .ready none)):=by rw[←Oy];have:=World.alloc_heap_new (w.alloc (.deferred (some []))) (.loop (rec .ready none));rwa[World.size_alloc]at this
 have hK1:W1.heap[w.heap.size]?=some (.deferred (some [])):=by rw[←Oy];exact(Below.heap_alloc _ _ _ (by simp)).trans (World.alloc_heap_new w _)
 have gV:Bw w W1:=by rw[←Oy];exact((Below.refl _ w).alloc (ayp _) _).alloc (by simp) _
 have hs1:W1.heap.size=w.heap.size+1+1:=by rw[←Oy];simp
 have hI1:I 0 O W1:=hI _ _ _ _ h0 (eD.aW gV);refine⟨w.heap.size+1,[{target:=.collected w.heap.size,args:=#[]}],W1,{target:=.fn (.func gf) lb,args:=#[.func (.yield (w.heap.size+1)) #[] #[]]},W1,gf,#[.func (.yield (w.heap.size+1)) #[] #[]]++lb,W1,?_,?_,?_,?_,fun h=>(by cases h),?_⟩;·rw[←Oy,qX];exact run_enterLoop_outer _ _ _ _ _
 ·simp only[resolve,hg];simp[go_sem]
 ·intro f' hf';trivial
 ·simp[invoke,go_sem,eg]
 ·refine sD ((hit (w.heap.size+1) (fun i O' A=>∃Oc:Nat→Prop,O'=(fun b=>Oc b∨b=w.heap.size+1)∧(∀b,Oc b→b<A.heap.size)∧¬Oc (w.heap.size+1)∧¬Oc w.heap.size∧I i Oc A∧A.heap[w.heap.size+1]?=some (.loop (rec .ready none))∧A.heap[w.heap.size]?=some (.deferred (some []))) (fun A=>∃c,X c A∧A.heap[w.heap.size+1]?=some (.loop (rec .done (some c)))∧A.heap[w.heap.size]?=some (.deferred (some []))) W1 (fun b=>O b∨b=w.heap.size+1) (U oq gV) (fun b hb=>hb.elim (fun q=>by have:=hO b q;omega) (fun q=>by omega)) ?_ ?_ (fun _ _ _ ⟨_,_,_,_,_,hi,_⟩=>hRI _ _ _ hi) (fun b hb=>⟨fun q=>q.elim (hS b hb).1 (fun e=>by have:=(hS b hb).2;have:=oq.size;omega),(hS b hb).2⟩) ?_ ⟨O,rfl,fun b hb=>by have:=hO b hb;omega,fun h=>by have:=hO _ h;omega,fun h=>by have:=hO _ h;omega,hI1,hL1,hK1⟩).mono ?_);·rintro i O' A B ⟨Oc,rfl,Tv,KO,KP,hi,hl,hk⟩ hit;refine⟨Oc,rfl,fun b hb=>ayu (Tv b hb) hit.size,KO,KP,hI _ _ _ _ hi (hit.mono om),(hit.block _ (ayv.1 hl).1 (.inl om)).trans hl,(hit.block _ (ayv.1 hk).1 (.inl om)).trans hk⟩
  ·rintro A B ⟨c,hx,hl,hk⟩ hit;exact⟨c,hX _ _ _ hx (hit.mono om),(hit.block _ (ayv.1 hl).1 (.inl om)).trans hl,(hit.block _ (ayv.1 hk).1 (.inl om)).trans hk⟩
  ·rintro i O' A jU ⟨Oc,rfl,Tv,KO,KP,hi,hl,hk⟩;refine(ET qX hl hk (N:=w.heap.size) om om KO KP (qG i jU) hI hX (G7 _ i Oc A om (ayv.1 hl).1 jU Tv KO hi)).mono fun t B hB=>?_;obtain⟨O2,Zk,(⟨ht,h1,h2,h3,h4⟩|⟨ht,c,h1,h2,h3⟩)⟩:=hB;·have g1:=(ayv.1 hl).1;have g2:=(ayv.1 hk).1;have g3:=Zk.size;exact⟨_,Zk,.inl ⟨ht,O2,rfl,fun b hb=>(h4 b hb).elim (fun q=>by have:=Tv b q;omega) (fun q=>q.2),fun hb=>(h4 _ hb).elim KO (fun q=>by omega),fun hb=>(h4 _ hb).elim KP (fun q=>by omega),h1,h2,h3⟩⟩
   ·exact⟨_,Zk,.inr ⟨ht,c,h1,h2,h3⟩⟩
  ·rintro e W2 ⟨⟨v,rfl⟩,(⟨O',Oc,rfl,_,_,KP,hi,hl,hk⟩|⟨c,hx,hl,hk⟩)⟩;·refine⟨none,_,by have:=run_endLoop (P:=Tryz.prog) hl (by rw[qX];simp);rw[qX]at this;exact this,?_⟩;exact EL _ Oc _ (ayp _) KP (hI _ _ _ _ hi (eD.book hl rfl om)) ((World.putObj_heap_other om).trans hk)
   ·refine⟨some c,_,by have:=run_endLoop (P:=Tryz.prog) hl (by rw[qX];simp);rw[qX]at this;exact this,?_⟩;exact(Ox _ c _ (ayp _) (hX _ _ _ hx (eD.book hl rfl om)) ((World.putObj_heap_other om).trans hk)).out
end
end
section
open Go.RowKit
variable{w:World}{g:VG}{P:Nat→Option cH}{arr:Array Value}
def VR(g:VG)(P:Nat→Option cH)(A:World):Prop:=∀i p,i<12→P i=some p→∃p',p'.aa=p.aa∧bH A (g.pid i) (qJ p') 100
def Pm(P:Nat→Option cH)(i:Int):Int:=((cM P i).map (·.aa)).getD (-1)
def bX(P:Nat→Option cH)(V:List ((Int×Int)×cZ))(a t:Int):List ((Int×Int)×cZ):=(V.filter fun e=>decide (e.1.1=a)).filter fun e=>decide (Pm P e.1.2=t)
def tO(e:(Int×Int)×cZ):Array Value:=#[.int .i64 e.1.2,.agg #[.int .i64 e.2.kind,.bool e.2.jP,.int .i64 e.2.level,.int .i64 e.2.a,.int .i64 e.2.n,.int .i64 e.2.s]]
theorem TO(yL:bH w g.vp arr 160)(ha:Lk arr g P){i:Int}{p:cH}(eF:cM P i=some p):CB 45 #[.pointer (some ⟨g.vp,0,none⟩),.int .i64 i] w (.pointer (some ⟨g.pid i.toNat,0,none⟩)):=by
 have hp:=(Hp.nil w).cons yL (by simp);have hB:=Below.refl w.heap.size w;obtain⟨jU,hpi⟩:=i5 eF;have hpt:arr[i.toNat]?=some (.pointer (some ⟨g.pid i.toNat,0,none⟩)):=by rw[ha.at jU,hpi];rfl
 refine fe Tryz.func45 Tryz.ntmps45 ?_;refine go ?_;refine cC ((eW jU (kL i 0 11)) _) fun w1 er hp hB=>?_;refine ak (pA g.vp i.toNat) (ed (n:=12) (j:=i) (off:=0) (sz:=1) U156 kr rfl rfl (Dx jU) (by have:=Dy jU;omega) om) ?_;refine ak (pA (g.pid i.toNat) 0) (ay (hp.at 0) hpt U97 rfl) ?_;refine p1 ?_;exact⟨rfl,hB⟩
theorem Pn{b3 b4 b5 t3 t4 t5:Nat}{V:List ((Int×Int)×cZ)}{Z:Nat→Prop}{a t:Int}(hp:Hp w [(b3,#[.pointer (some ⟨g.vp,0,none⟩)],t3),(b4,#[.int .i64 a],t4),(b5,#[.int .i64 t],t5),(g.vp,arr,160)])(ha:Lk arr g P)(hg:bq w g.vg Z 8 fm V)(XK:∀e∈V,(cM P e.1.2).isSome=true):qq 161 #[.pointer (some ⟨b3,0,none⟩),.pointer (some ⟨b4,0,none⟩),.pointer (some ⟨b5,0,none⟩)] w (fun b=>b=b3∨b=b4∨b=b5∨b=g.vp∨(Z b∧b<w.heap.size)) (VR g P) (bX P V a t).length (fS tO (bX P V a t)):=by
 intro l J Jx W O oq xM fB jy hRJ hS hY h0;have hp:=hp.below oq;have hB:=Below.refl W.heap.size W;have hS3:=(hS b3 (.inl rfl)).1;have hS4:=(hS b4 (.inr (.inl rfl))).1;have hS5:=(hS b5 (.inr (.inr (.inl rfl)))).1;have hSv:=(hS g.vp (.inr (.inr (.inr (.inl rfl))))).1;refine BF Tryz.func161 Tryz.ntmps161 ?_;refine go ?_;refine ic fun g1 w2 n3 hp ai hB=>?_;refine gu 5 ?_;refine gq ?_;refine qs (pA g.vg 0) (fun w' h'=>ay ((hp.at 4).below h') ha.vg U157 rfl) ?_;refine gq ?_;refine nB fun w4 qH hp hB=>?_;have hs1:=hB.size;refine ce (ae9 (hg.bound.below (U oq hB)) a) ?_;rintro _ w6 ⟨lb,S2,rfl,ni,Hw,hZ2⟩;refine⟨_,rfl,ab ?_⟩;have hp:=hp.below ni;have hB:=U hB ni;refine go ?_;have hW:W.heap.size≤w6.heap.size:=hB.size;have Zv:¬O g1:=fun h=>by have:=xM _ h;have:=ai;omega
 have hJ:=fB _ _ _ _ h0 (eD.aW hB);refine ka Hw (Below.refl _ _) (fun i' O' w'=>J (ue (fun e:(Int×Int)×cZ=>decide (Pm P e.1.2=t)) (V.filter fun e=>decide (e.1.1=a)) i') O' w'∧Hp w' [(g1,#[.func (.yield l) #[] #[]],262),(b3,#[pA g.vp 0],t3),(b4,#[i6 a],t4),(b5,#[i6 t],t5),(g.vp,arr,160)]∧¬O' g1∧¬O' b3∧¬O' b4∧¬O' b5∧¬O' g.vp) (fun c' w'=>c'=.ret∧Jx w') O (fun b hb=>by have:=xM b hb;omega) (fun b hb=>by rcases hZ2 b hb with⟨q1,q2⟩|⟨⟨q1,q2⟩,q3⟩;exact⟨fun q=>by have:=xM b q;omega,q2⟩;exact⟨(hS b (.inr (.inr (.inr (.inr ⟨q1,q2⟩))))).1,by have:=ni.size;omega⟩) (fun i O A B ⟨h1,h2,h3⟩ k=>⟨fB _ _ _ _ h1 (k.mono hW),h2.eH k,h3⟩) (fun c A B ⟨h1,h2⟩ k=>⟨h1,jy _ _ h2 (k.mono hW)⟩) ⟨by rw[sE];exact hJ,hp.sub ((.cons_cons _ (.cons_cons _ (.cons_cons _ (.cons_cons _ (.cons_cons _ .slnil)))))),Zv,hS3,hS4,hS5,hSv⟩ ?_ ?_ ?_ Tryz.func245 (fN fun _=>rfl)
 ·rintro l' i' O' A EU Jk jU u0 Jl ⟨hJ,hp,Hg,Hf,hn4,hn5,hnv⟩;have hR:=au.refl O' A;obtain⟨e,he⟩:∃e,(V.filter fun e=>decide (e.1.1=a))[i']?=some e:=⟨_,ayq jU⟩;have hB:=Below.refl A.heap.size A;have heV:e∈V:=(aAj.1 (ayw he)).1;obtain⟨p0,eF⟩:=ayA.1 (XK e heV);obtain⟨Pg,hpi⟩:=i5 eF;have Pg:e.1.2.toNat<12:=by have:=dC.1 Pg;omega
  refine ye (a':=(fR #[.func (.yield l) #[] #[],pA b3 0,pA b4 0,pA b5 0,pA g1 0,undef,undef,pA g.vp 0,.bool false,pA g.vp 0,pA g.vp 0,pA g.vp 12,pA g.vg 0,i6 a,.func (.func 245) #[] lb,i6 e.1.2,.agg #[i6 e.2.kind,.bool e.2.jP,i6 e.2.level,i6 e.2.a,i6 e.2.n,i6 e.2.s],undef,undef,undef,undef,undef,undef,undef,undef,undef,undef,undef,undef,undef,undef,undef])) ?_ (by rw[cY he];simp);refine go ?_;refine jJ fun g7 w8 n9 hp bj hB=>?_;have Po:=ayo hR.size n9.fresh;have hR:=hR.step n9.below;refine gG bj fun ot KU hp hB=>?_;have hR:=hR.put KU (.inr Po);refine⟨hR,fun pW k13=>?_⟩;have hp:=hp.eH k13;have hJ:=fB _ _ _ _ (fB _ _ _ _ hJ (eD.aW hB)) (k13.mono hW);have hB:=Below.refl pW.heap.size pW;have hsA:A.heap.size≤pW.heap.size:=ayo hR.size k13.size;obtain⟨p1,htr,yL⟩:=hRJ _ _ _ hJ _ _ Pg hpi;have hR:=au.refl O' pW;refine go ?_;refine gu 12 ?_;refine gq ?_;refine qc (fun w' h'=>dJ h' (TO ((hp.at 5).below h') ha eF)) ?_;refine gq ?_;refine qs (i6 p1.aa) (fun w' h'=>ay (yL.below h') rfl U3 rfl) ?_;refine gq ?_;by_cases oE:p1.aa=t
  ·have Hh:(fun e:(Int×Int)×cZ=>decide (Pm P e.1.2=t)) e=true:=by show decide (Pm P e.1.2=t)=_;rw[show Pm P e.1.2=p1.aa by unfold Pm;rw[eF,htr];rfl];exact decide_eq_true oE
   refine gq ?_;refine nB fun pb jx hp hB=>?_;have yL:=yL.below jx;have hR:=hR.step jx;have hJ:=fB _ _ _ _ hJ (eD.aW hB);have TD:=hB.size;have hf:=uX (p:=(fun e:(Int×Int)×cZ=>decide (Pm P e.1.2=t))) he Hh;have hy:=hY _ O' _ (ays.1 hf.2).1 hJ;rw[cY (L:=bX P V a t) hf.2]at hy;have hp:=hp.sub ((.cons _ (.cons_cons _ (.cons_cons _ (.cons_cons _ (.cons_cons _ (.cons_cons _ .slnil)))))));have Zw:=(hp.at 0).lt;have Zx:=(hp.at 1).lt;have Zy:=(hp.at 2).lt;have arS:=(hp.at 3).lt;have arT:=(hp.at 4).lt;refine qd hy (fun bb s6 zb=>ab ?_) rfl;obtain⟨O2,hk,zb⟩:=zb;have hp:=hp.Jd hk (by simp only[ayE,ayx,or_false];rintro x (rfl|rfl|rfl|rfl|rfl)<;>assumption);have ZB:¬O2 g1:=fun h=>(hk.own _ h).elim Hg (fun q=>by omega);have ZA:¬O2 b3:=fun h=>(hk.own _ h).elim Hf (fun q=>by omega);have hm4:¬O2 b4:=fun h=>(hk.own _ h).elim hn4 (fun q=>by omega);have hm5:¬O2 b5:=fun h=>(hk.own _ h).elim hn5 (fun q=>by omega);have hmv:¬O2 g.vp:=fun h=>(hk.own _ h).elim hnv (fun q=>by omega);have hR:=hR.Jd hk (fun b _ h=>h);have hB:=Below.refl s6.heap.size s6;rcases zb with⟨rfl,hJ⟩|⟨rfl,KW⟩;·refine go ?_;exact⟨O2,⟨by rw[hf.1];exact fB _ _ _ _ hJ (eD.aW hB),hp,ZB,ZA,hm4,hm5,hmv⟩,hR,fun b hb=>(hk.own b hb).imp id fun q=>⟨by have:=TD;omega,ayu q.2 hB.size⟩⟩
   ·refine go ?_;exact⟨⟨rfl,jy _ _ KW (eD.aW hB)⟩,hR⟩
  have Hh:(fun e:(Int×Int)×cZ=>decide (Pm P e.1.2=t)) e=false:=by show decide (Pm P e.1.2=t)=_;rw[show Pm P e.1.2=p1.aa by unfold Pm;rw[eF,htr];rfl];exact decide_eq_false oE
  refine gq ?_;refine nB fun s7 lz hp hB=>?_;have yL:=yL.below lz;have hR:=hR.step lz;refine go ?_;exact⟨O',⟨by rw[yH he Hh];exact fB _ _ _ _ hJ (eD.aW hB),hp.tail,Hg,Hf,hn4,hn5,hnv⟩,hR,fun b hb=>.inl hb⟩
 ·rintro D O' A kC yY ⟨hJ,hp,Hg,Hf,hn4,hn5,hnv⟩ hD;rw[uW]at hJ;exact uV hD fun w2 k=>⟨⟨_,rfl⟩,.inl ⟨O',fB _ _ _ _ hJ (k.mono (ayo hW kC))⟩⟩
 ·rintro D c' A kC hx hD;obtain⟨rfl,hx⟩:=hx;refine uR ?_;refine(C5 ?_);exact xK hD fun w2 k=>⟨⟨_,rfl⟩,.inr (jy _ _ hx (k.mono (ayo hW kC)))⟩
end
section
open Go.RowKit
variable{w A B:World}{col:Nat→Nat}{g:VG}{P:Nat→Option cH}{V:List ((Int×Int)×cZ)}{R:kF}{α:Type}{N lp ap gp:Nat}{fs:List (Int×Int)}{K:List ((Int×Int)×Int)}
theorem VC.vr(h:VC w col g P V R):VR g P w:=fun i p hi hp=>⟨p,rfl,h.pv i p hi hp⟩
theorem HF(P:Nat→Option cH)(V:List ((Int×Int)×cZ))(a t:Int):(bX P V a t).length≤V.length:=ayo (azl _ _) (azl _ _)
def rF(K:List ((Int×Int)×Int))(a t n:Int):List ((Int×Int)×Int):=if(K.filter fun e=>decide (e.1.1=a)).any (fun e=>decide (e.1.2=t)&&decide (n≤e.2))=true then K else mR K a t n
theorem zu(hv:VC w col g P V R)(XK:∀e∈V,(cM P e.1.2).isSome=true)(a t:Int):CP 106 #[.pointer (some ⟨g.vp,0,none⟩),.int .i64 a,.int .i64 t] w fun e w'=>∃lb S,e=.returned (.func (.func 161) #[] lb)∧Bw w w'∧qq 161 lb w' S (VR g P) (bX P V a t).length (fS tO (bX P V a t))∧∀b,S b→(w.heap.size≤b∧b<w'.heap.size)∨b=g.vp∨(col b=0∧b<w.heap.size):=by
 have hp:=Hp.nil w;have hB:=Below.refl w.heap.size w;refine fe Tryz.func106 Tryz.ntmps106 ?_;refine go ?_;refine ic fun g1 w2 n3 hp ai hB=>?_;refine ic fun g4 w5 n6 hp aL hB=>?_;refine ic fun g7 w8 n9 hp bj hB=>?_;refine ak (.func (.func 161) #[] #[pA g1 0,pA g4 0,pA g7 0]) kr ?_;refine p1 ?_;obtain⟨arr,yL,ha⟩:=(hv.below hB).vp;have l0:g.vp<w.heap.size:=by obtain⟨_,q,_⟩:=hv.vp;exact q.lt
 have Tb:=hp.1;simp only[ayC,ayB,ay3,ayE,ayx,or_false,not_or,not_false_eq_true,aAp,and_true]at Tb;have h4:Hp _ [(g1,#[.pointer (some ⟨g.vp,0,none⟩)],57),(g4,#[.int .i64 a],3),(g7,#[.int .i64 t],3),(g.vp,arr,160)]:=((((Hp.nil _).cons yL (by simp)).cons (hp.at 0) (by simp;omega)).cons (hp.at 1) (by simp;omega)).cons (hp.at 2) (by simp;omega);refine⟨_,_,rfl,hB,Pn (Z:=fun b=>col b=0∧b<w.heap.size) h4 ha (hv.dm.bound.below hB) XK,fun b hb=>?_⟩;have q3:=(hp.at 2).lt;have q4:=(hp.at 1).lt;have q5:=(hp.at 0).lt;rcases hb with rfl|rfl|rfl|rfl|⟨h1,_⟩;·exact .inl ⟨ai,q3⟩
 ·exact .inl ⟨aL,q4⟩
 ·exact .inl ⟨bj,q5⟩
 ·exact .inr (.inl rfl)
 ·exact .inr (.inr h1)
theorem Pp(hv:VC w col g P V R)(bG:rB col w)(XK:∀e∈V,(cM P e.1.2).isSome=true)(hvs:V.length<900000)(a t:Int):CB 130 #[pA g.vp 0,i6 a,i6 t] w (.int .i64 ((bX P V a t).length:Int)):=by
 have hp:=Hp.nil w;have hB:=Below.refl w.heap.size w;refine BF Tryz.func130 Tryz.ntmps130 ?_;refine go ?_;refine jJ fun g1 w2 n3 hp ai hB=>?_;refine gG ai fun w5 p4 hp hB=>?_;have hg1:=(hp.at 0).lt;have arX:=hB.size;refine ce (zu ((hv.ew (col':=fun b=>if b=g1 then 99 else col b) (fun b hb=>if_neg om)).below hB) XK a t) ?_;rintro _ w6 ⟨lb,S,rfl,ni,hg,hZ⟩;refine⟨_,rfl,ab ?_⟩;have hp:=hp.below ni;have hB:=U hB ni;refine go ?_;have lq:=hB.size;have Hw:=(hp.at 0).lt;have hvl:g.vp<w.heap.size:=by obtain⟨_,q,_⟩:=hv.vp;exact q.lt
 refine rE hg (Below.refl _ _) (fun i' O' w'=>∃(m:Nat),O'=(fun b=>b=g1)∧Hp w' [(g1,#[.int .i64 (m:Int)],3)]∧m=i'∧Bw w w') (fun c' w'=>False) (fun b=>b=g1) (fun b hb=>by subst hb;exact Hw) (fun b hb=>⟨fun e=>by subst e;rcases hZ _ hb with q|q|q;omega;omega;simp at q,by rcases hZ b hb with q|q|q;omega;omega;exact ayu q.2 ni.size⟩) (fun i O A B ⟨m,h1,h2,h3,h4⟩ k=>⟨m,h1,h2.eH k,h3,eL h4 k lq⟩) (fun c A B h k=>h) ⟨0,rfl,hp,rfl,hB⟩ (fun i O A ⟨_,_,_,_,h4⟩=>(hv.below h4).vr) ?_ ?_ ?_ Tryz.func161 (fN fun _=>rfl);·rintro l' i' O' A EU Jk jU u0 Jl ⟨m,hO,hp,hm,hB⟩;have hR:=au.refl O' A;obtain⟨e,he⟩:∃e,(bX P V a t)[i']?=some e:=⟨_,ayq jU⟩;have arY:=HF P V a t;refine ye (a':=(fR #[pA g.vp 0,i6 a,i6 t,undef,undef,undef,i6 0,pA g1 0,pA g.vp 0,i6 a,i6 t,.func (.func 161) #[] lb,i6 e.1.2,.agg #[i6 e.2.kind,.bool e.2.jP,i6 e.2.level,i6 e.2.a,i6 e.2.n,i6 e.2.s],undef,undef,undef])) ?_ (by rw[cY he];simp[tO]);refine go ?_;refine⟨hR,fun w7 k8=>?_⟩;have hp:=hp.eH k8;have hB:=eL hB k8 lq;have hR:=au.refl O' w7;refine go ?_;refine ak (i6 ((m+1:Nat):Int)) (aC (m:=(m:Int)) (n:=1) (s:=((m+1:Nat):Int)) rfl rfl (by unfold wrap64;omega)) ?_;refine gG ai fun o2 p9 hp hB=>?_;have hR:=hR.put p9 (.inl (by rw[hO]));exact⟨O',⟨m+1,hO,hp,by rw[hm],hB⟩,hR,fun b hb=>.inl hb⟩
 ·rintro D O' A kC yY ⟨m,hO,hp,hm,hB⟩ hD;refine go ?_;exact xJ hD fun w2 k=>⟨_,fL (t:=6),by rw[hm];rfl,eL hB k (ayo lq kC)⟩
 ·rintro D c' A kC hx hD;exact hx.elim
theorem bq.eH{gb k:Nat}{Z:Nat→Prop}{enc:α→Array Value}{L:List α}(h:bq A gb Z k enc L)(q:eD N A B):bq B gb Z k enc L:=by
 rcases h with⟨t,r,cap,arr,t',hZ,hp,h⟩|⟨e,t,hp⟩;·exact .inl ⟨t,r,cap,arr,t',hZ,hp.eH q,h⟩
 ·exact .inr ⟨e,t,hp.eH q⟩
theorem LC.eH(h:LC A col lp ap gp fs K)(q:eD N A B):LC B col lp ap gp fs K:=⟨let⟨c,a,hp,ha⟩:=h.ij;⟨c,a,hp.eH q,ha⟩,h.k5.eH q,h.cl,h.ca,h.cg,h.ne⟩
theorem tP(f:α→Bool){l:List α}{i:Nat}{x:α}(h:l[i]?=some x):(l.take (i+1)).any f=((l.take i).any f||f x):=by rw[ay1,h];simp
theorem Pq(hl:LC w col lp ap gp fs K)(bG:rB col w)(hK:K.length<999000)(a t n:Int):CP 133 #[pA lp 0,i6 a,i6 t,i6 n] w fun e w'=>e=.returned (.tuple #[])∧LC w' col lp ap gp fs (rF K a t n)∧au (fun b=>b=gp) w w':=by
 have hp:=Hp.nil w;have hB:=Below.refl w.heap.size w;refine BF Tryz.func133 Tryz.ntmps133 ?_;refine go ?_;refine ic fun g1 w2 n3 hp ai hB=>?_;refine ic fun g4 w5 n6 hp aL hB=>?_;refine ce (Fa (hl.below hB).la a) ?_;rintro _ w7 ⟨lb,S,rfl,ni,hg,hZ⟩;refine⟨_,rfl,ab ?_⟩;have hp:=hp.below ni;have hB:=U hB ni;refine go ?_;have lq:=hB.size;refine ka hg (Below.refl _ _) (fun i' O' w'=>O'=(fun _=>False)∧Hp w' [(g4,#[i6 n],3),(g1,#[i6 t],3)]∧((K.filter fun e=>decide (e.1.1=a)).take i').any (fun e:(Int×Int)×Int=>decide (e.1.2=t)&&decide (n≤e.2))=false∧Bw w w') (fun c' w'=>c'=.ret∧Bw w w'∧(K.filter fun e=>decide (e.1.1=a)).any (fun e:(Int×Int)×Int=>decide (e.1.2=t)&&decide (n≤e.2))=true) (fun _=>False) (fun b hb=>hb.elim) (fun b hb=>⟨fun e=>e,by rcases hZ b hb with q|q;exact q.2;exact ayu q.2 ni.size⟩) (fun i O A B ⟨h1,h2,h3,h4⟩ k=>⟨h1,h2.eH k,h3,eL h4 k lq⟩) (fun c A B ⟨h1,h2,h3⟩ k=>⟨h1,eL h2 k lq,h3⟩) ⟨rfl,hp,by simp,hB⟩ ?_ ?_ ?_ Tryz.func270 (fN fun _=>rfl)
 ·rintro l' i' O' A EU Jk jU u0 Jl ⟨hO,hp,hm,hB⟩;have hR:=au.refl O' A;obtain⟨e,he⟩:∃e,(K.filter fun e=>decide (e.1.1=a))[i']?=some e:=⟨_,ayq jU⟩;refine ye (a':=(fR #[pA lp 0,i6 a,i6 t,i6 n,undef,undef,pA g1 0,pA g4 0,undef,undef,pA lp 0,i6 a,.func (.func 270) #[] lb,i6 e.1.2,i6 e.2,undef,undef,undef,undef,undef,undef,undef,undef,undef,undef,undef,undef,undef])) ?_ (by rw[cY he];simp);refine go ?_;refine⟨hR,fun w8 k9=>?_⟩;have hp:=hp.eH k9;have hB:=eL hB k9 lq;have hR:=au.refl O' w8;refine go ?_;by_cases dv:e.1.2=t
  ·refine go ?_;by_cases gA:n≤e.2;·refine go ?_;exact⟨⟨rfl,hB,List.any_eq_true.2 ⟨e,ayw he,by simp[dv,gA]⟩⟩,hR⟩
   refine go ?_;exact⟨O',⟨hO,hp,by rw[tP _ he,hm];simp[dv,gA],hB⟩,hR,fun b hb=>.inl hb⟩
  refine go ?_;exact⟨O',⟨hO,hp,by rw[tP _ he,hm];simp[dv],hB⟩,hR,fun b hb=>.inl hb⟩
 ·rintro D O' A kC yY ⟨hO,hp,hm,hB⟩ hD;rw[azq]at hm;refine go ?_;refine ce (Jz (hl.below hB) (bG.mono hB.size) hK a t n) ?_;rintro _ pW ⟨rfl,v8,yi⟩;refine⟨_,rfl,ab ?_⟩;have hlg:gp<w.heap.size:=hl.k5.lt;have hD:=(yi.block D (ayv.1 hD).1 (fun e=>by omega)).trans hD;have hT:=(au.aW hB).trans (yi.mono fun b _ e=>.inl e);refine go ?_;exact uV hD fun w2 k=>⟨rfl,by rw[show rF K a t n=mR K a t n from if_neg (by rw[hm];decide)];exact v8.eH k,hT.eH k (ayo lq kC)⟩
 ·rintro D c' A kC hx hD;obtain⟨rfl,hB,hx⟩:=hx;refine uR ?_;refine(C5 (aeA ?_));exact xK hD fun w2 k=>⟨rfl,by rw[show rF K a t n=K from if_pos hx];exact(hl.below hB).eH k,(au.aW hB).eH k (ayo lq kC)⟩
end
section
open Go.RowKit
variable{w w2:World}{col:Nat→Nat}{rp rl:Nat}{ts:List jY}{L:List ((Int×Int)×aY)}{i:Int}
structure RC(w:World)(col:Nat→Nat)(rp rl:Nat)(ts:List jY)(L:List ((Int×Int)×aY)):Prop where
 rp:∃tb cap arr t,Hp w [(rp,#[.slice (some ⟨tb,0,none⟩) ts.length cap,.pointer (some ⟨rl,0,none⟩)],103),(tb,arr,t)]∧bE arr 18 lA ts∧col rp=0∧col tb=0
 k5:bq w rl (fun b=>col b=0) 47 ep L
 cg:col rl=3
 few:ts.length<1000
theorem RC.below(h:RC w col rp rl ts L)(hb:Bw w w2):RC w2 col rp rl ts L:=⟨let⟨tb,c,a,t,hp,h2⟩:=h.rp;⟨tb,c,a,t,hp.below hb,h2⟩,h.k5.below hb,h.cg,h.few⟩
theorem RC.turns{S:Nat→Prop}(h:RC w col rp rl ts L)(ht:au S w w2)(hS:∀b,S b→col b≠0∧col b≠3):RC w2 col rp rl ts L:=⟨let⟨tb,c,a,t,hp,h2,h3,h4⟩:=h.rp;⟨tb,c,a,t,hp.turns ht (by simp only[ayK,ayx,false_implies,implies_true,and_true];exact⟨fun q=>(hS _ q).1 h3,fun q=>(hS _ q).1 h4⟩),h2,h3,h4⟩,h.k5.turns ht (fun q=>(hS _ q).2 h.cg) (fun b q s=>(hS _ s).1 q),h.cg,h.few⟩
theorem RC.ew{col':Nat→Nat}(h:RC w col rp rl ts L)(hc:∀b,b<w.heap.size→col' b=col b):RC w col' rp rl ts L:=⟨let⟨tb,c,a,t,hp,h2,h3,h4⟩:=h.rp;⟨tb,c,a,t,hp,h2,by rw[hc _ (hp.at 0).lt];exact h3,by rw[hc _ (hp.at 1).lt];exact h4⟩,h.k5.ew hc,by rw[hc _ h.k5.lt];exact h.cg,h.few⟩
theorem RC.set{L':List ((Int×Int)×aY)}(h:RC w col rp rl ts L)(ht:au (fun b=>b=rl) w w2)(hg:bq w2 rl (fun b=>col b=0) 47 ep L'):RC w2 col rp rl ts L':=by have ne:∀b,col b≠3→b≠rl:=fun b q e=>q (by rw[e,h.cg]);obtain⟨tb,c,a,t,hp,h2,h3,h4⟩:=h.rp;exact⟨⟨tb,c,a,t,hp.turns ht (by simp only[ayK,ayx,false_implies,implies_true,and_true];exact⟨ne _ (by rw[h3];omega),ne _ (by rw[h4];omega)⟩),h2,h3,h4⟩,hg,h.cg,h.few⟩
theorem rG(hr:RC w col rp rl ts L){t:jY}(h0:0≤i)(hx:ts[i.toNat]?=some t):CB 88 #[pA rp 0,i6 i] w (.tuple #[.agg (lA t),.bool true]):=by obtain⟨tb,cap,arr,t0,hp,row,_⟩:=hr.rp;have hB:=Below.refl w.heap.size w;have gD:=(ays.1 hx).1;have al8:arr.extract (i.toNat*18) (i.toNat*18+18)=lA t:=row.ext _ _ hx;have mz:=row.le gD;have d0:decide (i<0)=false:=decide_eq_false om;have d1:decide ((ts.length:Int)≤i)=false:=decide_eq_false om;refine fe Tryz.func88 Tryz.ntmps88 ?_;refine go ?_;refine jJ fun g1 w2 n3 hp ai hB=>?_;refine ak (.bool false) (tH (m:=i) (n:=0) rfl rfl d0) ?_;refine ak (.bool false) (BE (m:=i) (n:=(ts.length:Int)) rfl rfl d1) ?_;refine ak (pA tb (i.toNat*18)) (cX (l:=ts.length) (j:=i) (off:=0) (sz:=18) U76 kr rfl rfl om om om) ?_;refine ak (.agg #[i6 t.oM,i6 t.cU,i6 t.kc,i6 t.decision,i6 t.cm,i6 t.mQ,i6 1,i6 t.dz,i6 t.dz,i6 1,i6 0,i6 1,i6 t.support,i6 t.support,i6 1,i6 0,i6 t.cap,i6 t.uh]) (aQ (i:=i.toNat*18) (n:=18) (hp.at 2) al8 mz U121 kr rfl) ?_;refine gG ai fun w5 p4 hp hB=>?_;refine jV (el (s:=4) (ty:=121) (cs:=#[i6 t.oM,i6 t.cU,i6 t.kc,i6 t.decision,i6 t.cm,i6 t.mQ,i6 1,i6 t.dz,i6 t.dz,i6 1,i6 0,i6 1,i6 t.support,i6 t.support,i6 1,i6 0,i6 t.cap,i6 t.uh]) (hp.at 0) U121 kr) (fL (t:=5) (v:=.bool true)) ?_;exact⟨rfl,hB⟩
theorem BW(hr:RC w col rp rl ts L)(h0:¬(0≤i∧i<ts.length)):CB 88 #[pA rp 0,i6 i] w (.tuple #[.agg #[i6 0,i6 0,i6 0,i6 0,i6 0,i6 0,i6 0,i6 0,i6 0,i6 0,i6 0,i6 0,i6 0,i6 0,i6 0,i6 0,i6 0,i6 0],.bool false]):=by
 obtain⟨tb,cap,arr,t0,hp,row,_⟩:=hr.rp;have hB:=Below.refl w.heap.size w;refine fe Tryz.func88 Tryz.ntmps88 ?_;refine go ?_;refine jJ fun g1 w2 n3 hp ai hB=>?_;by_cases c4:i<0;·refine go ?_;refine ak (.agg #[i6 0,i6 0,i6 0,i6 0,i6 0,i6 0,i6 0,i6 0,i6 0,i6 0,i6 0,i6 0,i6 0,i6 0,i6 0,i6 0,i6 0,i6 0]) kr ?_;refine gG ai fun w6 p5 hp hB=>?_;refine jV (el (s:=4) (ty:=121) (cs:=#[i6 0,i6 0,i6 0,i6 0,i6 0,i6 0,i6 0,i6 0,i6 0,i6 0,i6 0,i6 0,i6 0,i6 0,i6 0,i6 0,i6 0,i6 0]) (hp.at 0) U121 kr) (fL (t:=5) (v:=.bool false)) ?_;exact⟨rfl,hB⟩
 refine go ?_;refine ak (.bool true) (BE (m:=i) (n:=(ts.length:Int)) rfl rfl (decide_eq_true om)) ?_;refine ak (.agg #[i6 0,i6 0,i6 0,i6 0,i6 0,i6 0,i6 0,i6 0,i6 0,i6 0,i6 0,i6 0,i6 0,i6 0,i6 0,i6 0,i6 0,i6 0]) kr ?_;refine gG ai fun w8 p7 hp hB=>?_;refine jV (el (s:=4) (ty:=121) (cs:=#[i6 0,i6 0,i6 0,i6 0,i6 0,i6 0,i6 0,i6 0,i6 0,i6 0,i6 0,i6 0,i6 0,i6 0,i6 0,i6 0,i6 0,i6 0]) (hp.at 0) U121 kr) (fL (t:=5) (v:=.bool false)) ?_;exact⟨rfl,hB⟩
theorem jC(hr:RC w col rp rl ts L){x:aY}(hx:bS L 0 i=some x):CB 23 #[pA rp 0,i6 i] w (.tuple #[.agg (ae x),.bool true]):=by obtain⟨tb,cap,arr,t0,hp,row,_⟩:=hr.rp;have hB:=Below.refl w.heap.size w;refine fe Tryz.func23 Tryz.ntmps23 ?_;refine go ?_;refine jJ fun g1 w2 n3 hp ai hB=>?_;refine cC (afi (hr.k5.below hB) 0 i hx) fun w4 qH hp hB=>?_;refine sf (bL x) (ao _) rfl fun w7 p6 hp=>?_;have hB:=aN hB p6 ai;refine jV (el (s:=4) (ty:=62) (cs:=(ae x)) (hp.at 0) U62 (by rw[ao];kernel_rfl)) (fL (t:=5) (v:=.bool true)) ?_;exact⟨rfl,hB⟩
theorem oG(hr:RC w col rp rl ts L)(hx:bS L 0 i=none):CB 23 #[pA rp 0,i6 i] w (.tuple #[.agg #[i6 0,i6 0,.int .u8 0,.int .u8 0,.int .u8 0,.int .u8 0,.int .u8 0,.int .u8 0,.int .u8 0,.int .u8 0,.int .u8 0,.int .u8 0,.int .u8 0,.int .u8 0,.int .u8 0,.int .u8 0,.int .u8 0,.int .u8 0,.int .u8 0,.int .u8 0,.int .u8 0,.int .u8 0,.int .u8 0,.int .u8 0,.int .u8 0,.int .u8 0,.int .u8 0,.int .u8 0,.int .u8 0,.int .u8 0,.int .u8 0,.int .u8 0,.int .u8 0,.int .u8 0,i6 0,i6 0,i6 0,.bool false,i6 0,i6 0,i6 0,i6 0,i6 0,i6 0,i6 0],.bool false]):=by obtain⟨tb,cap,arr,t0,hp,row,_⟩:=hr.rp;have hB:=Below.refl w.heap.size w;refine fe Tryz.func23 Tryz.ntmps23 ?_;refine go ?_;refine jJ fun g1 w2 n3 hp ai hB=>?_;refine cC (K6 (hr.k5.below hB) 0 i hx) fun w4 qH hp hB=>?_;refine gG ai fun w7 p6 hp hB=>?_;refine jV (el (s:=4) (ty:=62) (cs:=#[i6 0,i6 0,.int .u8 0,.int .u8 0,.int .u8 0,.int .u8 0,.int .u8 0,.int .u8 0,.int .u8 0,.int .u8 0,.int .u8 0,.int .u8 0,.int .u8 0,.int .u8 0,.int .u8 0,.int .u8 0,.int .u8 0,.int .u8 0,.int .u8 0,.int .u8 0,.int .u8 0,.int .u8 0,.int .u8 0,.int .u8 0,.int .u8 0,.int .u8 0,.int .u8 0,.int .u8 0,.int .u8 0,.int .u8 0,.int .u8 0,.int .u8 0,.int .u8 0,.int .u8 0,i6 0,i6 0,i6 0,.bool false,i6 0,i6 0,i6 0,i6 0,i6 0,i6 0,i6 0]) (hp.at 0) U62 kr) (fL (t:=5) (v:=.bool false)) ?_;exact⟨rfl,hB⟩
theorem Fq(hr:RC w col rp rl ts L):CP 59 #[pA rp 0] w fun e w'=>∃lb S,e=.returned (.func (.func 205) #[] lb)∧Bw w w'∧iK 205 lb w' S (L.filter fun e=>decide (e.1.1=0)).length (fS (fun e:(Int×Int)×aY=>#[.int .i64 e.1.2,.agg (ae e.2)]) (L.filter fun e=>decide (e.1.1=0)))∧∀b,S b→((w.heap.size≤b∧b<w'.heap.size)∨(col b=0∧b<w.heap.size)):=by
 obtain⟨tb,cap,arr,t0,hp,row,_⟩:=hr.rp;have hB:=Below.refl w.heap.size w;refine fe Tryz.func59 Tryz.ntmps59 ?_;refine go ?_;have jv:=hB.size;refine ce (afa (hr.k5.below hB) 0) ?_;rintro _ w1 ⟨lb,S,rfl,ni,hg,hZ⟩;refine⟨_,rfl,ab ?_⟩;have hp:=hp.below ni;have hB:=U hB ni;refine go ?_;refine p1 ?_;refine⟨_,S,rfl,hB,hg,fun b hb=>?_⟩;have h2:=hB.size;rcases hZ b hb with⟨q1,q2⟩|⟨q1,q2⟩;·exact .inl ⟨ayo jv q1,q2⟩
 ·by_cases r:b<w.heap.size;·exact .inr ⟨q1,r⟩
  ·exact .inl ⟨by omega,by omega⟩
end
section
open Go.RowKit
variable{T:Nat→Prop}{w1 w2:World}
def own(c:Nat):Prop:=c≠0∧c≠7∧c≠8
theorem au.own{w:World}{eU col:Nat→Nat}(hT:au (fun b=>own (eU b)) w w1)(fp:∀b,b<w.heap.size→col b=eU b)(yi:au T w1 w2)(hS:∀b,T b→own (col b)):au (fun b=>own (eU b)) w w2:=hT.trans (yi.mono fun b hb q=>by
 by_cases h:b<w.heap.size;·exact .inl (by rw[←fp b h];exact hS b q)
 ·exact .inr om)
theorem au.bound(ht:au T w1 w2):au (fun b=>T b∧b<w1.heap.size) w1 w2:=ht.mono fun b hb q=>⟨q,hb⟩
def ke(t:j3)(old:Option cZ)(v:cZ)(g:Wt):j3:=dU (match old with|some x=>cE t (aI x g)|none=>t) (aI v g)
end
section
open Go.RowKit
variable{h:bU}{k t e:TypeId}{i s:Nat}
theorem bU.ext'{k:bU}(e:h.bs=k.bs):h=k:=by cases h;cases k;cases e;rfl
instance:DecidableEq bU:=fun h k=>if e:h.bs=k.bs then .isTrue (bU.ext' e)else .isFalse fun q=>e (by rw[q])
def dS(h:bU):Value:=.agg (aJ h)
structure Dz(k:TypeId):Prop where out:∃u,Tryz.prog.underlying k=some (.array 32 u)∧Tryz.prog.underlying u=some (.int .u8)∧(Tryz.prog.info? u).map (·.size)=some 1
theorem Fs{u:TypeId}(h:(Tryz.prog.info? u).map (·.size)=some 1)(w:World):(sizeOf u).run Tryz.prog w=.ok 1 w:=by
 cases hq:Tryz.prog.info? u with
 |none=>simp[hq]at h
 |some i=>simp only[hq,ay9,ay8]at h;simp[sizeOf,typeInfo,hq,h]
theorem zv(K:Dz k)(w:World)(h h':bU):(Op.equal k (dS h) (dS h')).run Tryz.prog w=.ok (decide (h=h')) w:=by
 obtain⟨u,h1,h2,h3⟩:=K.out;have:=run_equalIn_bytes (P:=Tryz.prog) w 9998 k u 32 h1 h2 (Fs h3) h.bs h'.bs h.len h'.len;show(Op.equalIn (9998+2) k _ _).run _ _=_;have e:(h.bs==h'.bs)=decide (h=h'):=by rw[azS];simp only[beq_iff_eq,decide_eq_true_eq];exact⟨bU.ext',fun q=>by rw[q]⟩
 rw[←e];exact this
theorem rH{k:TypeId}(K:Dz k)(w:World)(h:bU):∀(L:List MapEntry) (X:List bU) (i:Nat),L.map (·.key)=X.map dS→(Instr.findAsking k (dS h) L i).run Tryz.prog w=.ok ((X.findIdx? fun x=>decide (h=x)).map fun j=>(i+j,((L[j]?).map (·.val)).getD undef)) w
 |[],X,i,e=>by
  have:X=[]:=by cases X with|nil=>rfl|cons a l=>cases e
  subst this;rfl
 |a::L,[],i,e=>by cases e
 |a::L,x::X,i,e=>by
  simp only[ayC,List.cons.injEq]at e;have ih:=rH K w h L X (i+1) e.2;unfold Instr.findAsking;rw[e.1];simp only[Sem.run_bind,zv K w h x,Result.andThen_ok,List.findIdx?_cons];by_cases q:h=x;·subst q;simp
  ·simp only[q,decide_false,Bool.false_eq_true,if_false,ih];cases X.findIdx? fun x=>decide (h=x)with
   |none=>rfl
   |some j=>simp only[ay9,az1];congr 3;omega
theorem nj(K:Dz k)(w:World)(h:bU)(L:List MapEntry)(X:List bU)(e:L.map (·.key)=X.map dS):(Instr.findKey k (dS h) L).run Tryz.prog w=.ok ((X.findIdx? fun x=>decide (h=x)).map fun j=>(j,((L[j]?).map (·.val)).getD undef)) w:=by
 obtain⟨u,h1,h2,h3⟩:=K.out;have hf:=rH K w h L X 0 e;simp only[ayR]at hf;unfold Instr.findKey;simp only[Sem.run_bind,run_underlying h1,Result.andThen_ok];cases L with
 |nil=>
  have:X=[]:=by cases X with|nil=>rfl|cons a l=>cases e
  subst this;rfl
 |cons a L=>
  have:Instr.findNow (.array 32 u) (dS h) (a::L) 0=none:=by simp[Instr.findNow,Instr.sameNow]
  rw[this];exact hf
theorem Ft(w:World)(em:Bool){d D:Nat}(hD:D=d+2){k u n:Nat}(h1:Tryz.prog.underlying k=some (.array n u))(h2:Tryz.prog.underlying u=some (.int .u8))(jv:∀w,(sizeOf u).run Tryz.prog w=.ok 1 w)(bs:List UInt8)(hb:bs.length=n):(Instr.checkKey em D k (.agg (bs.map fun b=>Value.int .u8 b.toNat).toArray)).run Tryz.prog w=.ok () w:=by
 subst hD;rw[Instr.checkKey];simp only[Sem.run_bind,run_underlying h1,Result.andThen_ok,jv,Std.Legacy.Range.forIn_eq_forIn_range',Std.Legacy.Range.size,Nat.sub_zero,az2,Nat.div_one];have hl:∀i∈List.range' 0 n 1,i<n:=fun i hi=>by simpa using(List.mem_range'_1.1 hi).2
 generalize List.range' 0 n 1=l at hl ⊢;induction l with
 |nil=>simp
 |cons i l ih=>
  have hi:i<n:=hl i (by simp);have hlen:i<bs.length:=by omega
  have px:(part u (bs.map fun b=>Value.int .u8 b.toNat).toArray (i*1)).run Tryz.prog w=.ok (.int .u8 (bs[i]).toNat) w:=by simp[part,isAgg,run_underlying h2,ayq hlen]
  have pc:(Instr.checkKey em (d+1) u (.int .u8 (bs[i]).toNat)).run Tryz.prog w=.ok () w:=by simp[Instr.checkKey,run_underlying h2]
  have ih:=ih fun j hj=>hl j (by simp[hj]);simp only[Sem.run_pure]at ih;simp only[List.forIn_cons,Sem.run_bind,jv,px,pc,Result.andThen_ok,Sem.run_pure];exact ih
theorem jD(K:Dz k)(w:World)(em:Bool)(h:bU):(Instr.checkKey em 10000 k (dS h)).run Tryz.prog w=.ok () w:=by obtain⟨u,h1,h2,h3⟩:=K.out;exact Ft w em (d:=9998) (D:=10000) dd h1 h2 (Fs h3) h.bs h.len
structure fV{α:Type}(w:World)(b:Nat)(R:α→Value→Prop)(L:List (bU×α)):Prop where out:∃es clock,w.heap[b]?=some (.map es clock)∧es.toList.map (·.key)=L.map (fun x=>dS x.1)∧(∀(i:Nat) e x,es[i]?=some e→L[i]?=some x→R x.2 e.val)∧(∀(i:Nat) e,es[i]?=some e→e.born<clock)∧∀(i j:Nat) e e',es[i]?=some e→es[j]?=some e'→e.born=e'.born→i=j
section
variable{α:Type}{w w2:World}{b:Nat}{R R':α→Value→Prop}{L:List (bU×α)}
def jR(L:List (bU×α))(h:bU):Option Nat:=(L.map (·.1)).findIdx? fun x=>decide (h=x)
def kO(L:List (bU×α))(h:bU):Option α:=(jR L h).bind fun i=>(L[i]?).map (·.2)
def tf(L:List (bU×α))(h:bU)(v:α):List (bU×α):=match jR L h with|some i=>L.set i (h,v)|none=>L++[(h,v)]
def Fu(L:List (bU×α))(h:bU):List (bU×α):=match jR L h with|some i=>L.eraseIdx i|none=>L
theorem fV.lt(h:fV w b R L):b<w.heap.size:=by obtain⟨es,c,hb,_⟩:=h.out;exact(ayv.1 hb).1
theorem fV.mono(h:fV w b R L)(hR:∀x v,R x v→R' x v):fV w b R' L:=by obtain⟨es,c,hb,hk,hr,h1,h2⟩:=h.out;exact⟨es,c,hb,hk,fun i e x q1 q2=>hR _ _ (hr i e x q1 q2),h1,h2⟩
theorem fV.same(h:fV w b R L)(hb:w2.heap[b]?=w.heap[b]?):fV w2 b R L:=by obtain⟨es,c,hb',rest⟩:=h.out;exact⟨es,c,hb.trans hb',rest⟩
theorem lD(hf:jR L h=some i):∃v,L[i]?=some (h,v):=by unfold jR at hf;rw[List.findIdx?_eq_some_iff_getElem]at hf;obtain⟨hi,h1,_⟩:=hf;simp only[azV]at hi;simp only[List.getElem_map,decide_eq_true_eq]at h1;exact⟨(L[i]).2,by rw[ayq hi];rw[h1]⟩
theorem lE{es es':Array MapEntry}{c c':Nat}(hb:w.heap[b]?=some (.map es c)):au (fun i=>i=b) w {w with heap:=w.heap.setIfInBounds b (.map es' c')}∧({w with heap:=w.heap.setIfInBounds b (.map es' c')}:World).heap[b]?=some (.map es' c'):=by have gD:=(ayv.1 hb).1;refine⟨⟨rfl,rfl,rfl,by simp,fun k hk hn=>?_⟩,by simp[gD]⟩;simp only;rw[az7 (fun e=>hn e.symm)]
theorem Bn(h:bU):∀n,Instr.sameBits (n+2) (dS h) (dS h)=true:=by
 intro n;simp only[dS,Instr.sameBits,beq_self_eq_true,Bool.true_and,ayS];intro p hp;obtain⟨x,y⟩:=p;have:x=y∧x∈(aJ h).toList:=by rw[ayX]at hp;obtain⟨i,hi⟩:=hp;rw[List.getElem?_zip_eq_some]at hi;have:=hi.1.symm.trans hi.2;cases this;exact⟨rfl,ayw hi.1⟩
 obtain⟨rfl,hx⟩:=this;simp only[aJ,eT,ayM]at hx;obtain⟨u,_,rfl⟩:=hx;simp[Instr.sameBits]
theorem tQ(h:bU)(w:World):(Instr.keyThatStays (dS h) (dS h)).run Tryz.prog w=.ok (dS h) w:=by unfold Instr.keyThatStays;rw[show(10000:Nat)=9998+2 from rfl,Bn];rfl
theorem fV.upd(h:fV w b R L)(K:Dz k)(ht:Tryz.prog.underlying t=some (.map k e))(x:bU){v:Value}{a:α}(hv:R a v):∃w2,(Instr.mapUpdate t (.map (some b)) (dS x) v).run Tryz.prog w=.ok () w2∧au (fun i=>i=b) w w2∧w2.heap.size=w.heap.size∧fV w2 b R (tf L x a):=by
 obtain⟨es,c,hb,hk,hr,hc,hu⟩:=h.out;have pX:es.toList.map (·.key)=(L.map (·.1)).map dS:=by rw[hk,azU];rfl
 have hf:=nj K w x es.toList (L.map (·.1)) pX;have hlen:es.size=L.length:=by have:=congrArg List.length hk;simpa using this
 rw[show((L.map (·.1)).findIdx? fun y=>decide (x=y))=jR L x from rfl]at hf;unfold tf;cases hq:jR L x with
 |none=>
  rw[hq]at hf;have hT:=lE (es':=es.push {key:=dS x,val:=v,born:=c}) (c':=c+1) hb;refine⟨_,?_,hT.1,by simp,⟨_,_,hT.2,by simp[hk],fun i e' y h1 h2=>?_,fun i e' h1=>?_,fun i j e1 e2 h1 h2 h3=>?_⟩⟩;·simp[Instr.mapUpdate,run_underlying ht,MapKept.run_getObj_map hb,jD K,hf,MapKept.run_setObj_map _ hb]
  ·rw[azm]at h1;split at h1;·rename_i q;subst q;rw[hlen,ayO (ayp _),aAn]at h2;cases h1;cases h2;exact hv
   ·rename_i q;have hi:=(ayv.1 h1).1;rw[ayV om]at h2;exact hr i _ _ h1 h2
  ·rw[azm]at h1;split at h1;·cases h1;exact aAd _
   ·exact Nat.lt_succ_of_lt (hc _ _ h1)
  ·rw[azm]at h1 h2;split at h1<;>split at h2;·omega
   ·cases h1;have:=hc _ _ h2;simp only at h3;omega
   ·cases h2;have:=hc _ _ h1;simp only at h3;omega
   ·exact hu _ _ _ _ h1 h2 h3
 |some i=>
  rw[hq]at hf;obtain⟨a0,ha⟩:=lD hq;have hi:i<es.size:=by rw[hlen];exact(ays.1 ha).1
  have he:es[i]?=some es[i]:=azw hi
  have TP:(es[i]).key=dS x:=by
   have h1:(es.toList.map (·.key))[i]?=some (es[i]).key:=by rw[ayL,ayt,he];rfl
   rw[hk,ayL,ha]at h1;exact(aAh h1).symm
  have hT:=lE (es':=es.modify i fun e=>{e with key:=dS x,val:=v}) (c':=c) hb;have DA:∀j,(es.modify i fun e=>{e with key:=dS x,val:=v})[j]?=if i=j then(es[j]?).map (fun e=>{e with key:=dS x,val:=v})else es[j]?:=fun j=>by rw[aAb]
  refine⟨_,?_,hT.1,by simp,⟨_,_,hT.2,?_,fun j e' y h1 h2=>?_,fun j e' h1=>?_,fun j l e1 e2 h1 h2 h3=>?_⟩⟩;·simp[Instr.mapUpdate,run_underlying ht,MapKept.run_getObj_map hb,jD K,hf,he,TP,tQ,MapKept.run_setObj_map _ hb]
  ·apply azC;intro j;rw[ayL,ayt,DA,ayL,aze];have hj:(es[j]?).map (·.key)=(L[j]?).map (fun x=>dS x.1):=by have:=congrArg (fun l=>l[j]?) hk;simpa[ayL,ayt]using this
   split;·rename_i q;subst q;rw[if_pos om,he];rfl
   ·exact hj
  ·rw[DA]at h1;rw[aze]at h2;split at h1;·rename_i q;subst q;rw[he]at h1;cases h1;rw[if_pos rfl,if_pos om]at h2;cases h2;exact hv
   ·rename_i q;rw[if_neg q]at h2;exact hr j _ _ h1 h2
  ·rw[DA]at h1;split at h1;·rename_i q;subst q;rw[he]at h1;cases h1;have:=hc i _ he;exact this
   ·exact hc _ _ h1
  ·have st:∀(j:Nat) e',(es.modify i fun e=>{e with key:=dS x,val:=v})[j]?=some e'→∃e0,es[j]?=some e0∧e0.born=e'.born:=fun j e' q=>by
    rw[DA]at q;split at q;·rename_i z;subst z;rw[he]at q;cases q;exact⟨_,he,rfl⟩
    ·exact⟨_,q,rfl⟩
   obtain⟨a1,b1,c1⟩:=st _ _ h1;obtain⟨a2,b2,c2⟩:=st _ _ h2;exact hu _ _ _ _ b1 b2 (by rw[c1,c2,h3])
theorem iW{β:Type}(es:Array β)(hi:i<es.size)(j:Nat):(es.eraseIdxIfInBounds i)[j]?=if j<i then es[j]? else es[j+1]?:=by unfold Array.eraseIdxIfInBounds;rw[dif_pos hi,Array.getElem?_eraseIdx]
theorem fV.del(h:fV w b R L)(K:Dz k)(ht:Tryz.prog.underlying t=some (.map k e))(x:bU)(ty:TypeId):∃w2,(Builtin.delete_ #[t,k] ty #[.map (some b),dS x]).run Tryz.prog w=.ok (.tuple #[]) w2∧au (fun i=>i=b) w w2∧w2.heap.size=w.heap.size∧fV w2 b R (Fu L x):=by
 obtain⟨es,c,hb,hk,hr,hc,hu⟩:=h.out;have pX:es.toList.map (·.key)=(L.map (·.1)).map dS:=by rw[hk,azU];rfl
 have hf:=nj K w x es.toList (L.map (·.1)) pX;have hlen:es.size=L.length:=by have:=congrArg List.length hk;simpa using this
 rw[show((L.map (·.1)).findIdx? fun y=>decide (x=y))=jR L x from rfl]at hf;unfold Fu;cases hq:jR L x with
 |none=>rw[hq]at hf;have hT:=lE (es':=es) (c':=c) hb;refine⟨_,?_,hT.1,by simp,⟨_,_,hT.2,hk,hr,hc,hu⟩⟩;simp[Builtin.delete_,run_underlying ht,MapKept.run_getObj_map hb,jD K,hf,MapKept.run_setObj_map _ hb]
 |some i=>
  rw[hq]at hf;obtain⟨a0,ha⟩:=lD hq;have hi:i<es.size:=by rw[hlen];exact(ays.1 ha).1
  have hT:=lE (es':=es.eraseIdxIfInBounds i) (c':=c) hb;refine⟨_,?_,hT.1,by simp,⟨_,_,hT.2,?_,fun j e' y h1 h2=>?_,fun j e' h1=>?_,fun j l e1 e2 h1 h2 h3=>?_⟩⟩;·simp[Builtin.delete_,run_underlying ht,MapKept.run_getObj_map hb,jD K,hf,MapKept.run_setObj_map _ hb]
  ·apply azC;intro j;have hj:∀j:Nat,(es[j]?).map (·.key)=(L[j]?).map (fun x=>dS x.1):=fun j=>by have:=congrArg (fun l=>l[j]?) hk;simpa[ayL,ayt]using this
   rw[ayL,ayt,iW es hi,ayL,List.getElem?_eraseIdx];split<;>exact hj _
  ·rw[iW es hi]at h1;rw[List.getElem?_eraseIdx]at h2;split at h1;·rename_i q;rw[if_pos q]at h2;exact hr _ _ _ h1 h2
   ·rename_i q;rw[if_neg q]at h2;exact hr _ _ _ h1 h2
  ·rw[iW es hi]at h1;split at h1<;>exact hc _ _ h1
  ·rw[iW es hi]at h1 h2;split at h1<;>split at h2<;>have:=hu _ _ _ _ h1 h2 h3<;>omega
theorem fV.len(h:fV w b R L)(ht:Tryz.prog.underlying t=some (.map k e))(ty:TypeId):(Builtin.len_ #[t] ty #[.map (some b)]).run Tryz.prog w=.ok (.int .i64 L.length) w:=by
 obtain⟨es,c,hb,hk,_⟩:=h.out;have hlen:es.size=L.length:=by have:=congrArg List.length hk;simpa using this
 simp[Builtin.len_,run_underlying ht,MapKept.run_getObj_map hb,goInt,hlen]
structure DC(w:World)(b:Nat)(R:α→Value→Prop)(L:List (bU×α))(i s:Nat):Prop where out:∃es clock,w.heap[b]?=some (.map es clock)∧es.toList.map (·.key)=L.map (fun x=>dS x.1)∧(∀(i:Nat) e x,es[i]?=some e→L[i]?=some x→R x.2 e.val)∧(∀(i:Nat) e,es[i]?=some e→e.born<clock)∧(∀(i j:Nat) e e',es[i]?=some e→es[j]?=some e'→e.born=e'.born→i=j)∧∃e,es[i]?=some e∧e.born=s
theorem DC.same(h:DC w b R L i s)(hb:w2.heap[b]?=w.heap[b]?):DC w2 b R L i s:=by obtain⟨es,c,hb',rest⟩:=h.out;exact⟨es,c,hb.trans hb',rest⟩
theorem DC.lt(h:DC w b R L i s):b<w.heap.size:=by obtain⟨es,c,hb,_⟩:=h.out;exact(ayv.1 hb).1
def th(L:List (bU×α))(x:bU)(a0:α):List (bU×α):=match jR L x with|some _=>L|none=>L++[(x,a0)]
def zw(L:List (bU×α))(x:bU):Nat:=(jR L x).getD L.length
theorem Pr(L:List (bU×α))(x:bU)(a0 a:α):(th L x a0).set (zw L x) (x,a)=tf L x a:=by
 unfold th zw tf;cases jR L x with
 |some i=>rfl
 |none=>simp
theorem fV.ent(h:fV w b R L)(K:Dz k)(ht:Tryz.prog.underlying t=some (.map k e)){z:Value}(hz:(zeroValue e).run Tryz.prog w=.ok z w){a0:α}(xL:R a0 z)(x:bU):∃w2 v s,(Instr.mapEntry t (.map (some b)) (dS x)).run Tryz.prog w=.ok (.tuple #[v,.int .i64 (s:Nat)]) w2∧au (fun i=>i=b) w w2∧w2.heap.size=w.heap.size∧R ((kO L x).getD a0) v∧DC w2 b R (th L x a0) (zw L x) s:=by
 obtain⟨es,c,hb,hk,hr,hc,hu⟩:=h.out;have pX:es.toList.map (·.key)=(L.map (·.1)).map dS:=by rw[hk,azU];rfl
 have hf:=nj K w x es.toList (L.map (·.1)) pX;have hlen:es.size=L.length:=by have:=congrArg List.length hk;simpa using this
 rw[show((L.map (·.1)).findIdx? fun y=>decide (x=y))=jR L x from rfl]at hf;unfold th zw kO;cases hq:jR L x with
 |none=>
  rw[hq]at hf;have hT:=lE (es':=es.push {key:=dS x,val:=z,born:=c}) (c':=c+1) hb;refine⟨_,z,c,?_,hT.1,by simp,xL,⟨_,_,hT.2,by simp[hk],fun i e' y h1 h2=>?_,fun i e' h1=>?_,fun i j e1 e2 h1 h2 h3=>?_,{key:=dS x,val:=z,born:=c},?_,rfl⟩⟩;·simp[Instr.mapEntry,run_underlying ht,MapKept.run_getObj_map hb,jD K,hf,hz,MapKept.run_setObj_map _ hb,goInt]
  ·rw[azm]at h1;split at h1;·rename_i q;subst q;rw[hlen]at h2;simp only[ayO (ayp _),aAn]at h2;cases h1;cases h2;exact xL
   ·rename_i q;have hi:=(ayv.1 h1).1;simp only at h2;rw[ayV om]at h2;exact hr i _ _ h1 h2
  ·rw[azm]at h1;split at h1;·cases h1;exact aAd _
   ·exact Nat.lt_succ_of_lt (hc _ _ h1)
  ·rw[azm]at h1 h2;split at h1<;>split at h2;·omega
   ·cases h1;have:=hc _ _ h2;simp only at h3;omega
   ·cases h2;have:=hc _ _ h1;simp only at h3;omega
   ·exact hu _ _ _ _ h1 h2 h3
  ·simp only[Option.getD_none];rw[←hlen];simp
 |some i=>
  rw[hq]at hf;obtain⟨a1,ha⟩:=lD hq;have hi:i<es.size:=by rw[hlen];exact(ays.1 ha).1
  have he:es[i]?=some es[i]:=azw hi
  have TP:(es[i]).key=dS x:=by
   have h1:(es.toList.map (·.key))[i]?=some (es[i]).key:=by rw[ayL,ayt,he];rfl
   rw[hk,ayL,ha]at h1;exact(aAh h1).symm
  have hT:=lE (es':=es.modify i fun e=>{e with key:=dS x}) (c':=c) hb
  have hes:(es.modify i fun e=>{e with key:=dS x})=es:=by
   apply ayW;intro j;rw[aAb];split;·rename_i q;subst q;rw[he,ay9,←TP]
   ·rfl
  refine⟨_,(es[i]).val,(es[i]).born,?_,hT.1,by simp,?_,⟨_,_,hT.2.trans (by rw[hes]),hk,hr,hc,hu,_,he,rfl⟩⟩;·simp[Instr.mapEntry,run_underlying ht,MapKept.run_getObj_map hb,jD K,hf,he,TP,tQ,MapKept.run_setObj_map _ hb,goInt]
  ·simp only[aAy,ha,ay9,aAv];exact hr i _ _ he ha
theorem DC.store(h:DC w b R L i s){x:bU}{a0 a:α}(hx:L[i]?=some (x,a0)){u:Value}(hu':R a u)(t:TypeId):∃w2,(Instr.entryStore t (.map (some b)) (.int .i64 (s:Nat)) u).run Tryz.prog w=.ok () w2∧au (fun i=>i=b) w w2∧w2.heap.size=w.heap.size∧fV w2 b R (L.set i (x,a)):=by
 obtain⟨es,c,hb,hk,hr,hc,hu,e0,Ps,hs⟩:=h.out;have hi:=(ayv.1 Ps).1;have hlen:es.size=L.length:=by have:=congrArg List.length hk;simpa using this
 have hfi:es.findIdx? (fun e=>(e.born:Int)==(s:Int))=some i:=by
  rw[Array.findIdx?_eq_some_iff_getElem];have hg:es[i]=e0:=by rw[azw hi]at Ps;exact aAh Ps
  refine⟨hi,by rw[hg];simp[hs],fun j hj=>?_⟩;have hj2:j<es.size:=Nat.lt_trans hj hi;simp only[beq_iff_eq];intro q;have:=hu j i _ _ (azw hj2) Ps om;omega
 have hT:=lE (es':=es.modify i fun e=>{e with val:=u}) (c':=c) hb;have DA:∀j,(es.modify i fun e=>{e with val:=u})[j]?=if i=j then(es[j]?).map (fun e=>{e with val:=u})else es[j]?:=fun j=>by rw[aAb]
 refine⟨_,?_,hT.1,by simp,⟨_,_,hT.2,?_,fun j e' y h1 h2=>?_,fun j e' h1=>?_,fun j l e1 e2 h1 h2 h3=>?_⟩⟩;·simp[Instr.entryStore,MapKept.run_getObj_map hb,asInt,asIntOf,hfi,MapKept.run_setObj_map _ hb]
 ·apply azC;intro j;rw[ayL,ayt,DA,ayL,aze];have hj:(es[j]?).map (·.key)=(L[j]?).map (fun x=>dS x.1):=by have:=congrArg (fun l=>l[j]?) hk;simpa[ayL,ayt]using this
  split;·rename_i q;subst q;rw[if_pos om];rw[hx,Ps]at hj;rw[Ps];exact hj
  ·exact hj
 ·rw[DA]at h1;rw[aze]at h2;split at h1;·rename_i q;subst q;rw[Ps]at h1;cases h1;rw[if_pos rfl,if_pos om]at h2;cases h2;exact hu'
  ·rename_i q;rw[if_neg q]at h2;exact hr j _ _ h1 h2
 ·rw[DA]at h1;split at h1;·rename_i q;subst q;rw[Ps]at h1;cases h1;have:=hc i _ Ps;exact this
  ·exact hc _ _ h1
 ·have st:∀(j:Nat) e',(es.modify i fun e=>{e with val:=u})[j]?=some e'→∃e0,es[j]?=some e0∧e0.born=e'.born:=fun j e' q=>by
   rw[DA]at q;split at q;·rename_i z;subst z;rw[Ps]at q;cases q;exact⟨_,Ps,rfl⟩
   ·exact⟨_,q,rfl⟩
  obtain⟨a1,b1,c1⟩:=st _ _ h1;obtain⟨a2,b2,c2⟩:=st _ _ h2;exact hu _ _ _ _ b1 b2 (by rw[c1,c2,h3])
end
end
section
open Go.RowKit
variable{i n:Nat}{ty:TypeId}{d:TypeDesc}{vs:Array Value}
def j0(w:World)(g:Nat)(cs:Array Value)(t:TypeId):Prop:=∃fz,w.heap[g]?=some (.cells cs t fz)
section
variable{w w1:World}{g:Nat}{cs:Array Value}{t:TypeId}
theorem bH.r(h:bH w g cs t):j0 w g cs t:=⟨_,h⟩
theorem j0.lt(h:j0 w g cs t):g<w.heap.size:=by obtain⟨fz,h⟩:=h;exact(ayv.1 h).1
theorem j0.cell(h:j0 w g cs t)(i:Nat):w.cell? ⟨g,i,none⟩=cs[i]?:=by obtain⟨fz,h⟩:=h;simp[World.cell?,h]
theorem j0.same(h:j0 w g cs t)(e:w1.heap[g]?=w.heap[g]?):j0 w1 g cs t:=by obtain⟨fz,h⟩:=h;exact⟨fz,e.trans h⟩
theorem j0.below(h:j0 w g cs t)(hb:Bw w w1):j0 w1 g cs t:=h.same (hb.block g h.lt)
theorem j0.turns{S:Nat→Prop}(h:j0 w g cs t)(hb:au S w w1)(hn:¬S g):j0 w1 g cs t:=h.same (hb.block g h.lt hn)
theorem j0.eH{N:Nat}(h:j0 w g cs t)(k:eD N w w1):j0 w1 g cs t:=by have hl:=h.lt;obtain⟨fz,h⟩:=h;exact⟨fz,(k.block g hl (.inr fun o ho=>by rw[h]at ho;cases ho;rfl)).trans h⟩
theorem Bo{src:Array Value}{h:Nat}(hB:j0 w h src t)(off k:Nat):∀j v,(src.extract off (off+k)).toList[j]?=some v→w.cell? ((⟨h,off,none⟩:Addr).add j)=some v:=by
 intro j v hv;rw[Addr.add_lit,hB.cell];rw[ayt,ayz]at hv;split at hv;·exact hv
 ·cases hv
theorem apW{v:Value}(hB:j0 w g cs t)(hv:cs[i]?=some v)(hu:Tryz.prog.underlying ty=some d)(hd:(match d with|.struct _|.array _ _=>true|_=>false)=false):(loadVar ty ⟨g,i,none⟩).run Tryz.prog w=.ok v w:=by
 have hc:w.cell? ⟨g,i,none⟩=some v:=(hB.cell i).trans hv;have wh:(isAgg ty).run Tryz.prog w=.ok false w:=by unfold isAgg;rw[Sem.run_bind,run_underlying hu w];cases d<;>simp_all
 simp[Sem.run_bind,Result.andThen_ok,loadVar,wh,load,Sem.run,hc]
theorem afI(hB:j0 w g cs t)(hv:cs.extract i (i+n)=vs)(hn:i+n≤cs.size)(hu:Tryz.prog.underlying ty=some d)(jv:(Tryz.prog.info? ty).map (·.size)=some n)(hd:(match d with|.struct _|.array _ _=>true|_=>false)=true):(loadVar ty ⟨g,i,none⟩).run Tryz.prog w=.ok (.agg vs) w:=by
 subst hv
 have hl:(loadCells ⟨g,i,none⟩ (cs.extract i (i+n)).toList.length).run Tryz.prog w=.ok (cs.extract i (i+n)).toList.toArray w:=run_loadCells_list (P:=Tryz.prog) w ⟨g,i,none⟩ (cs.extract i (i+n)).toList (fun j v hv=>by
  have yV:(⟨g,i,none⟩:Addr).add j=⟨g,i+j,none⟩:=by unfold Addr.add;by_cases hj:j=0<;>simp[hj]
  rw[yV,hB.cell];have Tq:(cs.extract i (i+n))[j]?=some v:=by rw[ayt]at hv;exact hv
  rw[ayz]at Tq;split at Tq;·exact Tq
  ·cases Tq)
 have hlen:(cs.extract i (i+n)).size=n:=by simp;omega
 cases hq:Tryz.prog.info? ty with
 |none=>simp[hq]at jv
 |some z=>
  have hs:z.size=n:=by simpa[hq]using jv
  have wh:(isAgg ty).run Tryz.prog w=.ok true w:=by unfold isAgg;rw[Sem.run_bind,run_underlying hu w];cases d<;>simp_all
  simp only[ayy,hlen,azH]at hl;simp[loadVar,Sem.run_bind,wh,sizeOf,typeInfo,hq,hs,hl]
theorem qt{a:Act}{o:Oper}{x:Operand}(hB:j0 w g cs t)(hv:cs.extract i (i+n)=vs)(hn:i+n≤cs.size)(hu:Tryz.prog.underlying ty=some d)(jv:(Tryz.prog.info? ty).map (·.size)=some n)(hx:a.eval x=.pointer (some ⟨g,i,none⟩))(hd:(match d with|.struct _|.array _ _=>true|_=>false)=true:=by rfl)(ho:o.op=.load ty x:=by rfl):(execOp a.eval o).run Tryz.prog w=.ok (.value (.agg vs)) w:=by unfold execOp;simp only[ho,hx,Instr.loadAt,Instr.sureAddr,Sem.run_bind,Sem.run_pure,Result.andThen_ok,afI hB hv hn hu jv hd]
end
end
end Go.Proofs.YtdkpbpjcbkibiaaGreatDoor.B
