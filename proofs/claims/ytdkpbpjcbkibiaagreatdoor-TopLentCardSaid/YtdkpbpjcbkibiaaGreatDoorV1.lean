/- Range S Dy Dz Dw X2 Df Kd Dg -/
import Derived.Test.YtdkpbpjcbkibiaaGreatDoorV0
set_option linter.all false
set_option maxRecDepth 100000
set_option maxHeartbeats 4000000
namespace Go.Proofs.YtdkpbpjcbkibiaaGreatDoor.B
open Go.RowKit
section
open Go.RowKit
variable{N l g n D i:Nat}{A B w w2:World}{cs args:Array Value}{t:TypeId}{L:List (Nat×Array Value×TypeId)}{S O O':Nat→Prop}{R:Bool→World→Prop}{r:Option Nat}{Q:Exit→Act→World→Prop}{a:Act}{x y z u:Nat×Array Value×TypeId}{α:Type}
def Ow:Obj→Bool
 |.loop _=>true
 |.deferred _=>true
 |_=>false
structure eD(N:Nat)(A B:World):Prop where
 os:B.os=A.os
 tape:B.tape=A.tape
 output:B.output=A.output
 size:A.heap.size≤B.heap.size
 block:∀b,b<A.heap.size→(b<N∨∀o,A.heap[b]?=some o→Ow o=false)→B.heap[b]?=A.heap[b]?
theorem eD.refl(N:Nat)(A:World):eD N A A:=⟨rfl,rfl,rfl,ayp _,fun _ _ _=>rfl⟩
theorem eD.trans{C:World}(h:eD N A B)(k:eD N B C):eD N A C:=⟨k.os.trans h.os,k.tape.trans h.tape,k.output.trans h.output,ayo h.size k.size,fun b hb hn=>by have e:=h.block b hb hn;exact(k.block b (ayu hb h.size) (hn.imp id fun q o ho=>q o (e▸ho))).trans e⟩
theorem eD.mono{N':Nat}(h:eD N' A B)(hN:N≤N'):eD N A B:=⟨h.os,h.tape,h.output,h.size,fun b hb hn=>h.block b hb (hn.imp (fun q=>ayu q hN) id)⟩
theorem eD.aW(h:Bw A B):eD N A B:=⟨h.os,h.tape,h.output,h.size,fun b hb _=>h.block b hb⟩
theorem eD.book{o o':Obj}(hl:A.heap[l]?=some o)(ho:Ow o=true)(hN:N≤l):eD N A (A.putObj l o'):=⟨rfl,rfl,rfl,by simp,fun b hb hn=>World.putObj_heap_other fun e=>by
 subst e;rcases hn with hn|hn;·omega
 ·have:=hn o hl;rw[ho]at this;cases this⟩
theorem bH.eH(h:bH A g cs t)(k:eD N A B):bH B g cs t:=(k.block g h.lt (.inr fun o ho=>by rw[show A.heap[g]?=_ from h]at ho;cases ho;rfl)).trans h
theorem Hp.eH(h:Hp A L)(k:eD N A B):Hp B L:=⟨h.1,fun x hx=>(h.2 x hx).eH k⟩
theorem KM(h:Below n w A)(k:eD N A B)(hn:n≤N)(hw:n≤A.heap.size):Below n w B:=⟨k.os.trans h.os,k.tape.trans h.tape,k.output.trans h.output,ayo h.size k.size,fun i hi=>(k.block i om (.inl om)).trans (h.block i hi)⟩
theorem eL(h:Bw w A)(k:eD N A B)(hn:w.heap.size≤N):Bw w B:=KM h k hn h.size
theorem au.eH(h:au S w A)(k:eD N A B)(hn:w.heap.size≤N):au S w B:=⟨k.os.trans h.os,k.tape.trans h.tape,k.output.trans h.output,ayo h.size k.size,fun i hi hs=>(k.block i (ayu hi h.size) (.inl om)).trans (h.block i hi hs)⟩
def Zg(l:Nat)(args:Array Value)(A:World)(R:Bool→World→Prop):Prop:=∃fn tmps assign body,(Instr.yield l args).run Tryz.prog A=.ok (.round l fn tmps assign body) A∧RoundIn (FW none) 0 Tryz.prog l fn tmps assign body A fun e B=>∃b,e=.returned (.bool b)∧R b B
theorem Zg.mono{R':Bool→World→Prop}(h:Zg l args A R)(hr:∀b B,R b B→R' b B):Zg l args A R':=by obtain⟨fn,tmps,assign,body,h1,h2⟩:=h;exact⟨fn,tmps,assign,body,h1,h2.mono fun e B ⟨b,he,hb⟩=>⟨b,he,hr b B hb⟩⟩
theorem qd{ops:Array Oper}{rest:List Oper}{o:Oper}{x:Operand}{xs:Array Operand}{ts:Array TypeId}(hy:Zg l args w R)(h:∀b w',R b w'→WL r ops Q rest (a.put o.dst (.bool b)) w')(hx:a.eval x=.func (.yield l) #[] #[])(kg:o.op=.call {callee:=.value x,args:=xs,argTypes:=ts}:=by rfl)(ft:xs.map a.eval=args:=by(simp only[ayH,ayC,ayB];rfl))(hw:Region.wanted o (yielded ops a.tmps)=true:=by rfl):WL r ops Q (o::rest) a w:=by
 obtain⟨fn,tmps,assign,body,h1,h2⟩:=hy;refine⟨wpListIn_step fun K hK=>?_⟩;rw[if_pos hw];refine⟨fun _ _=>trivial,?_⟩;rw[Oper.semAt_eq _ _ _ (fun c hc=>by rw[kg]at hc;cases hc)];have hr:(execOp a.eval o).run Tryz.prog w=.ok (.round l fn tmps assign body) w:=by unfold execOp;simp[kg,hx,resolve,Deferred.ofValue,invoke,ft,h1]
 rw[hr];refine⟨fun h=>(by cases h),RoundIn.mono (show RoundIn (FW r) (0-1) Tryz.prog l fn tmps assign body w _ from h2) fun e B hB=>?_⟩;obtain⟨b,rfl,hb⟩:=hB;exact hK _ _ (h b B hb).out
structure Kps(O O':Nat→Prop)(A B:World):Prop where
 os:B.os=A.os
 tape:B.tape=A.tape
 output:B.output=A.output
 size:A.heap.size≤B.heap.size
 block:∀b,b<A.heap.size→¬O b→B.heap[b]?=A.heap[b]?
 own:∀b,O' b→O b∨(A.heap.size≤b∧b<B.heap.size)
def iK(gf:FuncId)(lb:Array Value)(W0:World)(S:Nat→Prop)(n:Nat)(enc:Nat→Array Value):Prop:=∀(l:Nat) (J:Nat→(Nat→Prop)→World→Prop) (Jx:World→Prop) (W:World) (O:Nat→Prop),Bw W0 W→(∀b,O b→b<W.heap.size)→(∀i O A B,J i O A→eD W.heap.size A B→J i O B)→(∀A B,Jx A→eD W.heap.size A B→Jx B)→(∀b,S b→¬O b∧b<W0.heap.size)→(∀i O A,i<n→J i O A→Zg l (enc i) A fun t B=>∃O',Kps O O' A B∧((t=true∧J (i+1) O' B)∨(t=false∧Jx B)))→J 0 O W→CP gf (#[.func (.yield l) #[] #[]]++lb) W fun e B=>(∃v,e=.returned v)∧((∃O',J n O' B)∨Jx B)
def Zh(I:Nat→(Nat→Prop)→World→Prop)(X:Code→World→Prop)(i:Nat)(O:Nat→Prop)(A A2:World):Exit→Act→World→Prop
 |.normal,_,B=>∃O',I (i+1) O' B∧au O A2 B∧∀b,O' b→O b∨(A.heap.size≤b∧b<B.heap.size)
 |.ret,_,B=>X .ret B∧au O A2 B
 |.exit id,_,B=>X (.exit id) B∧au O A2 B
 |_,_,_=>False
def Zi(N:Nat)(l:Nat)(body:Code)(I:Nat→(Nat→Prop)→World→Prop)(X:Code→World→Prop)(i:Nat)(O:Nat→Prop)(A:World)(a1:Act)(A1:World):Prop:=au O A A1∧∀A2,eD N A1 A2→WC (some l) body (Zh I X i O A A2) a1 A2
section
variable{g:Operand}{ps:Array Tmp}{assign body:Code}{Q:Exit→Act→World→Prop}{a:Act}{w:World}
theorem ET{df:Nat}{od:Obj}{rec:LoopState→Option Code→Loop}{fn:FuncId}{ps:Array Tmp}{I:Nat→(Nat→Prop)→World→Prop}{X:Code→World→Prop}{tmps:Array Value}(qX:rec=fun st pe=>{state:=st,pending:=pe,fn,tmps,params:=ps,assign,body,defers:=df})(hl:A.heap[l]?=some (.loop (rec .ready none)))(hk:A.heap[D]?=some od)(EU:N≤l)(hlD:l≠D)(hlO:¬O l)(yY:¬O D)(qG:args.size=ps.size)(hI:∀i O A B,I i O A→eD N A B→I i O B)(hX:∀c A B,X c A→eD N A B→X c B)(h:WC (some l) assign (Exit.then (Zi N l body I X i O A) (fun _ _ _=>False)) {tmps:=(ps.zip args).foldl (fun t (p,v)=>t.setIfInBounds p v) tmps,defers:=[]} A):Zg l args A fun t B=>∃O',Kps (fun b=>O b∨b=l) (fun b=>O' b∨b=l) A B∧((t=true∧I (i+1) O' B∧B.heap[l]?=some (.loop (rec .ready none))∧B.heap[D]?=some od∧∀b,O' b→O b∨(A.heap.size≤b∧b<B.heap.size))∨(t=false∧∃c,X c B∧B.heap[l]?=some (.loop (rec .done (some c)))∧B.heap[D]?=some od)):=by
 have hy:=run_yield (P:=Tryz.prog) (args:=args) hl (by rw[qX];exact qG);rw[qX]at hy;refine⟨fn,_,assign,body,hy,?_⟩;refine roundIn_of_wpIn (F:=FW none) trivial (wpIn_mono (F:=(FW none).inRound l) h.out fun e a1 A1 q=>?_);cases e with
 |normal=>
  obtain⟨ht,yZ⟩:=q;have gD:l<A.heap.size:=(ayv.1 hl).1;have alL:D<A.heap.size:=(ayv.1 hk).1;have wi:A1.heap[l]?=some (.loop (rec .ready none)):=(ht.block l gD hlO).trans hl;have Zd:A1.heap[D]?=some od:=(ht.block D alL yY).trans hk;have alM:l<A1.heap.size:=(ayv.1 wi).1;refine⟨_,run_beginRound wi (by rw[qX]),?_⟩;have hit:eD N A1 (A1.putObj l (.loop {rec .ready none with state:=.busy})):=eD.book wi rfl EU;have v8:(A1.putObj l (.loop {rec .ready none with state:=.busy})).heap[l]?=some (.loop {rec .ready none with state:=.busy}):=World.putObj_heap_same alM;have KJ:(A1.putObj l (.loop {rec .ready none with state:=.busy})).heap[D]?=some od:=(World.putObj_heap_other (azR hlD)).trans Zd;have jv:(A1.putObj l (.loop {rec .ready none with state:=.busy})).heap.size=A1.heap.size:=World.putObj_size;have aeV:∀b,b≠l→(A1.putObj l (.loop {rec .ready none with state:=.busy})).heap[b]?=A1.heap[b]?:=fun b hb=>World.putObj_heap_other hb;generalize A1.putObj l (.loop {rec .ready none with state:=.busy})=A2 at hit v8 KJ jv aeV ⊢;refine wpIn_mono (F:=(FW none).inRound l) (yZ A2 hit).out fun e3 a3 A3 p=>?_;have fin:∀(jump:Option Code),au O A2 A3→(Instr.endRound l jump).run Tryz.prog A3=.ok (.bool jump.isNone) (A3.putObj l (.loop (rec (if jump.isNone then .ready else .done) jump)))∧eD N A3 (A3.putObj l (.loop (rec (if jump.isNone then .ready else .done) jump)))∧(A3.putObj l (.loop (rec (if jump.isNone then .ready else .done) jump))).heap[l]?=some (.loop (rec (if jump.isNone then .ready else .done) jump))∧(A3.putObj l (.loop (rec (if jump.isNone then .ready else .done) jump))).heap[D]?=some od∧(∀b,b<A.heap.size→¬(O b∨b=l)→(A3.putObj l (.loop (rec (if jump.isNone then .ready else .done) jump))).heap[b]?=A.heap[b]?)∧A.heap.size≤(A3.putObj l (.loop (rec (if jump.isNone then .ready else .done) jump))).heap.size∧(A3.putObj l (.loop (rec (if jump.isNone then .ready else .done) jump))).heap.size=A3.heap.size:=fun jump C7=>by have hl3:A3.heap[l]?=some (.loop {rec .ready none with state:=.busy}):=(C7.block l om hlO).trans v8;have hk3:A3.heap[D]?=some od:=(C7.block D (by have:=(ayv.1 KJ).1;exact this) yY).trans KJ;have hr:=run_endRound (P:=Tryz.prog) jump hl3;rw[qX]at hr ⊢;refine⟨hr,eD.book hl3 rfl EU,World.putObj_heap_same (ayv.1 hl3).1,(World.putObj_heap_other (azR hlD)).trans hk3,fun b hb hn=>?_,by have:=ht.size;have:=C7.size;simp;omega,by simp⟩;have Zj:b≠l:=fun e=>hn (.inr e);have hbO:¬O b:=fun e=>hn (.inl e);have h1:=ht.size;exact(World.putObj_heap_other Zj).trans ((C7.block b om hbO).trans ((aeV b Zj).trans (ht.block b hb hbO)))
  cases e3 with
  |normal=>obtain⟨O',hi,C7,aeW⟩:=p;obtain⟨hr,uU,hl4,hk4,xI,hs4,hz4⟩:=fin none C7;exact⟨_,_,hr,true,rfl,O',⟨uU.os.trans (C7.os.trans (hit.os.trans ht.os)),uU.tape.trans (C7.tape.trans (hit.tape.trans ht.tape)),uU.output.trans (C7.output.trans (hit.output.trans ht.output)),hs4,xI,fun b hb=>hb.elim (fun q=>(aeW b q).imp .inl fun r=>⟨r.1,by omega⟩) (fun q=>.inl (.inr q))⟩,.inl ⟨rfl,hI _ _ _ _ hi uU,hl4,hk4,fun b hb=>(aeW b hb).imp id fun r=>⟨r.1,by omega⟩⟩⟩
  |ret=>obtain⟨hx,C7⟩:=p;obtain⟨hr,uU,hl4,hk4,xI,hs4,hz4⟩:=fin (some .ret) C7;exact⟨_,_,hr,false,rfl,O,⟨uU.os.trans (C7.os.trans (hit.os.trans ht.os)),uU.tape.trans (C7.tape.trans (hit.tape.trans ht.tape)),uU.output.trans (C7.output.trans (hit.output.trans ht.output)),hs4,xI,fun b hb=>.inl hb⟩,.inr ⟨rfl,.ret,hX _ _ _ hx uU,hl4,hk4⟩⟩
  |exit id=>obtain⟨hx,C7⟩:=p;obtain⟨hr,uU,hl4,hk4,xI,hs4,hz4⟩:=fin (some (.exit id)) C7;exact⟨_,_,hr,false,rfl,O,⟨uU.os.trans (C7.os.trans (hit.os.trans ht.os)),uU.tape.trans (C7.tape.trans (hit.tape.trans ht.tape)),uU.output.trans (C7.output.trans (hit.output.trans ht.output)),hs4,xI,fun b hb=>.inl hb⟩,.inr ⟨rfl,.exit id,hX _ _ _ hx uU,hl4,hk4⟩⟩
  |goto _=>exact p.elim
  |panic _=>exact p.elim
  |outgrown=>exact p.elim
 |exit _=>exact q.elim
 |ret=>exact q.elim
 |goto _=>exact q.elim
 |panic _=>exact q.elim
 |outgrown=>exact q.elim
theorem ka{gf:FuncId}{lb:Array Value}{G6:Func}{W0:World}{enc:Nat→Array Value}(hit:iK gf lb W0 S n enc)(oq:Bw W0 w)(I:Nat→(Nat→Prop)→World→Prop)(X:Code→World→Prop)(O:Nat→Prop)(hO:∀b,O b→b<w.heap.size)(hS:∀b,S b→¬O b∧b<W0.heap.size)(hI:∀i O A B,I i O A→eD w.heap.size A B→I i O B)(hX:∀c A B,X c A→eD w.heap.size A B→X c B)(h0:I 0 O w)(G7:∀l i O A,w.heap.size≤l→l<A.heap.size→i<n→(∀b,O b→b<A.heap.size)→¬O l→I i O A→WC (some l) assign (Exit.then (Zi w.heap.size l body I X i O A) (fun _ _ _=>False)) {tmps:=(ps.zip (enc i)).foldl (fun t (p,v)=>t.setIfInBounds p v) a.tmps,defers:=[]} A)(EL:∀D O A,w.heap.size≤D→¬O D→I n O A→A.heap[D]?=some (.deferred (some []))→Q .normal {a with defers:={target:=.collected D,args:=#[]}::a.defers} A)(Ox:∀D c A,w.heap.size≤D→X c A→A.heap[D]?=some (.deferred (some []))→WC none c Q {a with defers:={target:=.collected D,args:=#[]}::a.defers} A)(hf:Tryz.prog.funcs[gf]?=some G6)(qG:∀i,i<n→(enc i).size=ps.size)(hg:a.eval g=.func (.func gf) #[] lb:=by rfl)(fQ:(G6.name== "runtime.NumGoroutine")=false:=by kernel_rfl)(hb:G6.body.isSome=true:=by rfl):WC none (.rangeFunc g ps assign body) Q a w:=by
 have eg:=fun args w=>oA hf fQ hb args w;refine⟨wpIn_rangeFunc (F:=FW none) fun fn hfn=>?_⟩;obtain⟨rec,qX⟩:∃rec:LoopState→Option Code→Loop,rec=fun st pe=>{state:=st,pending:=pe,fn,tmps:=a.tmps,params:=ps,assign,body,defers:=w.heap.size}:=⟨_,rfl⟩;obtain⟨W1,Oy⟩:∃W1,(w.alloc (.deferred (some []))).alloc (.loop (rec .ready none))=W1:=⟨_,rfl⟩;have hL1:W1.heap[w.heap.size+1]?=some (.loop (rec .ready none)):=by rw[←Oy];have:=World.alloc_heap_new (w.alloc (.deferred (some []))) (.loop (rec .ready none));rwa[World.size_alloc]at this
 have hK1:W1.heap[w.heap.size]?=some (.deferred (some [])):=by rw[←Oy];exact(Below.heap_alloc _ _ _ (by simp)).trans (World.alloc_heap_new w _)
 have gV:Bw w W1:=by rw[←Oy];exact((Below.refl _ w).alloc (ayp _) _).alloc (by simp) _
 have hs1:W1.heap.size=w.heap.size+1+1:=by rw[←Oy];simp
 have hI1:I 0 O W1:=hI _ _ _ _ h0 (eD.aW gV);refine⟨w.heap.size+1,[{target:=.collected w.heap.size,args:=#[]}],W1,{target:=.fn (.func gf) lb,args:=#[.func (.yield (w.heap.size+1)) #[] #[]]},W1,gf,#[.func (.yield (w.heap.size+1)) #[] #[]]++lb,W1,?_,?_,?_,?_,fun h=>(by cases h),?_⟩;·rw[←Oy,qX];exact run_enterLoop_outer _ _ _ _ _
 ·simp only[resolve,hg];simp[go_sem]
 ·intro f' hf';trivial
 ·simp[invoke,go_sem,eg]
 ·refine sD ((hit (w.heap.size+1) (fun i O' A=>∃Oc:Nat→Prop,O'=(fun b=>Oc b∨b=w.heap.size+1)∧(∀b,Oc b→b<A.heap.size)∧¬Oc (w.heap.size+1)∧¬Oc w.heap.size∧I i Oc A∧A.heap[w.heap.size+1]?=some (.loop (rec .ready none))∧A.heap[w.heap.size]?=some (.deferred (some []))) (fun A=>∃c,X c A∧A.heap[w.heap.size+1]?=some (.loop (rec .done (some c)))∧A.heap[w.heap.size]?=some (.deferred (some []))) W1 (fun b=>O b∨b=w.heap.size+1) (U oq gV) (fun b hb=>hb.elim (fun q=>by have:=hO b q;omega) (fun q=>by omega)) ?_ ?_ (fun b hb=>⟨fun q=>q.elim (hS b hb).1 (fun e=>by have:=(hS b hb).2;have:=oq.size;omega),(hS b hb).2⟩) ?_ ⟨O,rfl,fun b hb=>by have:=hO b hb;omega,fun h=>by have:=hO _ h;omega,fun h=>by have:=hO _ h;omega,hI1,hL1,hK1⟩).mono ?_);·rintro i O' A B ⟨Oc,rfl,Tv,KO,KP,hi,hl,hk⟩ hit;refine⟨Oc,rfl,fun b hb=>ayu (Tv b hb) hit.size,KO,KP,hI _ _ _ _ hi (hit.mono om),(hit.block _ (ayv.1 hl).1 (.inl om)).trans hl,(hit.block _ (ayv.1 hk).1 (.inl om)).trans hk⟩
  ·rintro A B ⟨c,hx,hl,hk⟩ hit;exact⟨c,hX _ _ _ hx (hit.mono om),(hit.block _ (ayv.1 hl).1 (.inl om)).trans hl,(hit.block _ (ayv.1 hk).1 (.inl om)).trans hk⟩
  ·rintro i O' A jU ⟨Oc,rfl,Tv,KO,KP,hi,hl,hk⟩;refine(ET qX hl hk (N:=w.heap.size) om om KO KP (qG i jU) hI hX (G7 _ i Oc A om (ayv.1 hl).1 jU Tv KO hi)).mono fun t B hB=>?_;obtain⟨O2,Zk,(⟨ht,h1,h2,h3,h4⟩|⟨ht,c,h1,h2,h3⟩)⟩:=hB;·have g1:=(ayv.1 hl).1;have g2:=(ayv.1 hk).1;have g3:=Zk.size;exact⟨_,Zk,.inl ⟨ht,O2,rfl,fun b hb=>(h4 b hb).elim (fun q=>by have:=Tv b q;omega) (fun q=>q.2),fun hb=>(h4 _ hb).elim KO (fun q=>by omega),fun hb=>(h4 _ hb).elim KP (fun q=>by omega),h1,h2,h3⟩⟩
   ·exact⟨_,Zk,.inr ⟨ht,c,h1,h2,h3⟩⟩
  ·rintro e W2 ⟨⟨v,rfl⟩,(⟨O',Oc,rfl,_,_,KP,hi,hl,hk⟩|⟨c,hx,hl,hk⟩)⟩;·refine⟨none,_,by have:=run_endLoop (P:=Tryz.prog) hl (by rw[qX];simp);rw[qX]at this;exact this,?_⟩;exact EL _ Oc _ (ayp _) KP (hI _ _ _ _ hi (eD.book hl rfl om)) ((World.putObj_heap_other om).trans hk)
   ·refine⟨some c,_,by have:=run_endLoop (P:=Tryz.prog) hl (by rw[qX];simp);rw[qX]at this;exact this,?_⟩;exact(Ox _ c _ (ayp _) (hX _ _ _ hx (eD.book hl rfl om)) ((World.putObj_heap_other om).trans hk)).out
end
theorem bH.Jd(h:bH A g cs t)(k:Kps O O' A B)(hn:¬O g):bH B g cs t:=(k.block g h.lt hn).trans h
theorem Hp.Jd(h:Hp A L)(k:Kps O O' A B)(hn:∀x∈L,¬O x.1):Hp B L:=⟨h.1,fun x hx=>(h.2 x hx).Jd k (hn x hx)⟩
theorem Hp.sub{L':List (Nat×Array Value×TypeId)}(h:Hp w L)(hs:L'.Sublist L):Hp w L':=⟨h.1.sublist (hs.map _),fun x hx=>h.2 x (hs.subset hx)⟩
theorem Hp.one(b:bH w g cs t):Hp w [(g,cs,t)]:=(Hp.nil w).cons b (by simp)
theorem Je{fn:Func}{R:Ending→World→Prop}(hD:w.heap[D]?=some (.deferred (some [])))(hd:a.defers=[{target:=.collected D,args:=#[]}])(h:∀w2,eD D w w2→∃v,(results fn a.tmps).run Tryz.prog w2=.ok v w2∧R (.returned v) w2):o8 fn R .ret a w∧o8 fn R .normal a w:=by
 have key:LeavesInM (FW none) 0 Tryz.prog fn a.tmps R a.defers .returning w:=by rw[hd];refine⟨by simp,.inl ⟨_,_,rfl,run_takeDeferred hD,?_⟩⟩;exact h _ (eD.book hD rfl (ayp _))
 exact⟨key,key⟩
section
variable{fn:Func}{R:Ending→World→Prop}{a:Act}{w:World}{x y:ResultVar}{D:Nat}
theorem xJ(hD:w.heap[D]?=some (.deferred (some [])))(h:∀w2,eD D w w2→∃v,RV a w2 x v∧R (.returned v) w2)(hr:fn.results=#[x]:=by rfl)(hd:a.defers=[{target:=.collected D,args:=#[]}]:=by rfl):o8 fn R .ret a w:=(Je hD hd fun w2 k=>let⟨v,h1,h2⟩:=h w2 k;⟨v,by rw[jw,hr];simp[Sem.run_bind,h1.out],h2⟩).1
theorem ae1(hD:w.heap[D]?=some (.deferred (some [])))(h:∀w2,eD D w w2→∃v v',RV a w2 x v∧RV a w2 y v'∧R (.returned (.tuple #[v,v'])) w2)(hr:fn.results=#[x,y]:=by rfl)(hd:a.defers=[{target:=.collected D,args:=#[]}]:=by rfl):o8 fn R .ret a w:=(Je hD hd fun w2 k=>let⟨v,v',h1,h2,h3⟩:=h w2 k;⟨_,by rw[jw,hr];simp[Sem.run_bind,h1.out,h2.out],h3⟩).1
theorem xK(hD:w.heap[D]?=some (.deferred (some [])))(h:∀w2,eD D w w2→R (.returned (.tuple #[])) w2)(hr:fn.results=#[]:=by rfl)(hd:a.defers=[{target:=.collected D,args:=#[]}]:=by rfl):o8 fn R .ret a w:=(Je hD hd fun w2 k=>⟨_,results_none hr _ _ _,h w2 k⟩).1
theorem uV(hD:w.heap[D]?=some (.deferred (some [])))(h:∀w2,eD D w w2→R (.returned (.tuple #[])) w2)(hr:fn.results=#[]:=by rfl)(hd:a.defers=[{target:=.collected D,args:=#[]}]:=by rfl):o8 fn R .normal a w:=(Je hD hd fun w2 k=>⟨_,results_none hr _ _ _,h w2 k⟩).2
theorem Xq{v:Value}(h1:RV a w x v)(h:R (.returned v) w)(hr:fn.results=#[x]:=by rfl)(hd:a.defers=[]:=by rfl):o8 fn R .ret a w:=by show LeavesInM (FW none) 0 Tryz.prog fn a.tmps R a.defers .returning w;rw[hd];exact⟨v,by rw[jw,hr];simp[Sem.run_bind,h1.out],h⟩
end
theorem ye{c:Code}{a':Act}(h:WC r c Q a' w)(ha:a=a'):WC r c Q a w:=ha▸h
structure bE{α:Type}(arr:Array Value)(k:Nat)(enc:α→Array Value)(L:List α):Prop where
 ext:∀i x,L[i]?=some x→arr.extract (i*k) (i*k+k)=enc x
 fit:L.length*k≤arr.size
theorem bE.le{arr:Array Value}{k:Nat}{enc:α→Array Value}{L:List α}(h:bE arr k enc L)(hi:i<L.length):i*k+k≤arr.size:=by have:=h.fit;have:(i+1)*k≤L.length*k:=ayD k hi;rw[ay0]at this;omega
def fS(f:α→Array Value)(L:List α)(i:Nat):Array Value:=(L[i]?.map f).getD #[]
theorem cY{f:α→Array Value}{L:List α}{x:α}(h:L[i]?=some x):fS f L i=f x:=by unfold fS;rw[h];rfl
theorem fN{f:α→Array Value}{L:List α}(h:∀x,(f x).size=n)(i:Nat)(hi:i<L.length):(fS f L i).size=n:=by rw[cY (ayq hi)];exact h _
theorem au.Jd(h:au S w A)(k:Kps O O' A B)(hs:∀b,b<w.heap.size→O b→S b):au S w B:=⟨k.os.trans h.os,k.tape.trans h.tape,k.output.trans h.output,ayo h.size k.size,fun i hi hn=>(k.block i (ayu hi h.size) fun q=>hn (hs i hi q)).trans (h.block i hi hn)⟩
def Df(w:World)(D:Nat):Prop:=w.heap[D]?=some (.deferred (some []))
theorem Df.lt(h:Df w D):D<w.heap.size:=(ayv.1 h).1
theorem Df.below(h:Df w D)(hb:Bw w w2):Df w2 D:=(hb.block D h.lt).trans h
theorem Df.put{cs':Array Value}(h:Df w D)(hb:bH w g cs t)(p:o1 w w2 g cs' t):Df w2 D:=(p.turns.block D h.lt fun e=>by subst e;unfold bH at hb;unfold Df at h;rw[h]at hb;simp at hb).trans h
theorem Df.turns(h:Df w D)(hb:au S w w2)(hn:¬S D):Df w2 D:=(hb.block D h.lt hn).trans h
def ue(p:α→Bool)(L:List α)(i:Nat):Nat:=((L.take i).filter p).length
theorem sE(p:α→Bool)(L:List α):ue p L 0=0:=by simp[ue]
theorem uW(p:α→Bool)(L:List α):ue p L L.length=(L.filter p).length:=by simp[ue]
theorem uX{p:α→Bool}{L:List α}{x:α}(h:L[i]?=some x)(hp:p x=true):ue p L (i+1)=ue p L i+1∧(L.filter p)[ue p L i]?=some x:=by
 unfold ue;refine⟨by rw[ay1,h];simp[hp],?_⟩;have hl:L=L.take i++x::L.drop (i+1):=by have hi:=(ays.1 h);obtain⟨gD,hx⟩:=hi;rw[←hx,←azZ gD,aAa]
 conv=>lhs;arg 1;rw[hl]
 rw[List.filter_append,List.filter_cons_of_pos hp,ayO (ayp _),aAn];rfl
theorem yH{p:α→Bool}{L:List α}{x:α}(h:L[i]?=some x)(hp:p x=false):ue p L (i+1)=ue p L i:=by unfold ue;rw[ay1,h];simp[hp]
theorem Hp.Zl(h:Hp w [z,y,x]):Hp w [x,y,z]:=by obtain⟨h1,h2⟩:=h;refine⟨?_,fun u hu=>h2 u (by simp at hu ⊢;rcases hu with rfl|rfl|rfl<;>simp)⟩;simp at h1 ⊢;exact⟨⟨fun e=>h1.2 e.symm,fun e=>h1.1.2 e.symm⟩,fun e=>h1.1.1 e.symm⟩
theorem Hp.Zm(h:Hp w [x,y,z])(k:Hp w [u])(h1:x.1≠u.1)(h2:y.1≠u.1)(h3:z.1≠u.1):Hp w [x,y,z,u]:=by
 obtain⟨a1,a2⟩:=h;obtain⟨b1,b2⟩:=k;refine⟨?_,fun v hv=>?_⟩;·simp at a1 ⊢;exact⟨⟨a1.1.1,a1.1.2,h1⟩,⟨a1.2,h2⟩,h3⟩
 ·simp at hv;rcases hv with rfl|rfl|rfl|rfl;·exact a2 _ (by simp)
  ·exact a2 _ (by simp)
  ·exact a2 _ (by simp)
  ·exact b2 _ (by simp)
theorem Hp.Zn{v:Nat×Array Value×TypeId}(h:Hp w [x,y,z])(k:Hp w [u,v])(h1:x.1≠u.1)(h2:y.1≠u.1)(h3:z.1≠u.1)(h4:x.1≠v.1)(h5:y.1≠v.1)(h6:z.1≠v.1):Hp w [x,y,z,u,v]:=by
 obtain⟨a1,a2⟩:=h;obtain⟨b1,b2⟩:=k;refine⟨?_,fun s hs=>?_⟩;·simp at a1 b1 ⊢;exact⟨⟨a1.1.1,a1.1.2,h1,h4⟩,⟨a1.2,h2,h5⟩,⟨h3,h6⟩,b1⟩
 ·simp at hs;rcases hs with rfl|rfl|rfl|rfl|rfl;·exact a2 _ (by simp)
  ·exact a2 _ (by simp)
  ·exact a2 _ (by simp)
  ·exact b2 _ (by simp)
  ·exact b2 _ (by simp)
end
section
open Go.RowKit
variable{cs src cur:Array Value}{P:Program}{len cap l n h m g off sz d c bytes c2 N:Nat}{k:Int}{T e t t2:TypeId}{x s:Operand}{lo hi mx:Option Operand}{og:Option Nat}{news:List Value}{z:Value}{ad:Addr}{W:World}{L:List (Nat×Array Value×TypeId)}
theorem KQ{i:Nat}{vs:List Value}(j:Nat)(hi:i+vs.length≤cs.size):(bt cs i vs)[j]?=if i≤j∧j<i+vs.length then vs[j-i]? else cs[j]?:=by
 split;·exact cy (k:=j-i) om om om
 ·exact aV om hi
section
variable{r:Option Nat}{ops:Array Oper}{Q:Exit→Act→World→Prop}{a:Act}{w:World}{rest:List Oper}{o:Oper}
theorem fl{n:Int}(e:n=(l:Int))(h:l≤len):(Instr.sliceBounds true len cap (some (.int .i64 n)) none none).run P w=.ok (l,len,cap) w:=by subst e;simp[Instr.sliceBounds,Instr.sliceBound,asIntOf,h]
theorem mY{n:Int}(e:n=(h:Int))(hc:h≤cap):(Instr.sliceBounds true len cap none (some (.int .i64 n)) none).run P w=.ok (0,h,cap) w:=by subst e;simp[Instr.sliceBounds,Instr.sliceBound,asIntOf,hc]
theorem Jf{m n:Int}(e:m=(l:Int))(e':n=(h:Int))(hl:l≤h)(hc:h≤cap):(Instr.sliceBounds true len cap (some (.int .i64 m)) (some (.int .i64 n)) none).run P w=.ok (l,h,cap) w:=by subst e;subst e';simp[Instr.sliceBounds,Instr.sliceBound,asIntOf,hc,hl]
theorem C8{i j:Int}(e:i=(l:Int))(e':j=(h:Int))(e'':k=(m:Int))(hl:l≤h)(hm:h≤m)(hc:m≤cap):(Instr.sliceBounds true len cap (some (.int .i64 i)) (some (.int .i64 j)) (some (.int .i64 k))).run P w=.ok (l,h,m) w:=by subst e;subst e';subst e'';simp[Instr.sliceBounds,Instr.sliceBound,asIntOf,hc,hl,hm]
theorem dD(hu:Tryz.prog.underlying T=some (.slice e))(hz:(Tryz.prog.info? e).map (·.size)=some sz)(hx:a.eval x=.slice (some ⟨g,off,none⟩) len cap)(hb:(Instr.sliceBounds true len cap (lo.map a.eval) (hi.map a.eval) (mx.map a.eval)).run Tryz.prog w=.ok (l,h,m) w)(hd:(m=l∧d=off)∨(m≠l∧d=off+l*sz))(hn:h-l=n)(hc:m-l=c)(ho:o.op=.slice T x lo hi mx:=by rfl):(execOp a.eval o).run Tryz.prog w=.ok (.value (.slice (some ⟨g,d,none⟩) n c)) w:=by
 subst hn;subst hc;unfold execOp;cases hq:Tryz.prog.info? e with
 |none=>simp[hq]at hz
 |some i=>
  have hi:i.size=sz:=by simpa[hq]using hz
  rcases hd with⟨h1,rfl⟩|⟨h1,rfl⟩;·simp[ho,Instr.sliceAt,Instr.slice,hx,run_underlying hu,hb,sizeOf,typeInfo,hq,h1]
  ·simp[ho,Instr.sliceAt,Instr.slice,hx,run_underlying hu,hb,sizeOf,typeInfo,hq,h1,hi,Addr.add_lit]
theorem tL(hu:Tryz.prog.underlying T=some (.slice e))(hz:((Tryz.prog.info? e).map (·.size)).isSome=true)(hx:a.eval x=.slice none 0 0)(hb:(Instr.sliceBounds true 0 0 (lo.map a.eval) (hi.map a.eval) (mx.map a.eval)).run Tryz.prog w=.ok (0,0,0) w)(ho:o.op=.slice T x lo hi mx:=by rfl):(execOp a.eval o).run Tryz.prog w=.ok (.value (.slice none 0 0)) w:=by
 unfold execOp;cases hq:Tryz.prog.info? e with
 |none=>simp[hq]at hz
 |some i=>simp[ho,Instr.sliceAt,Instr.slice,hx,run_underlying hu,hb,sizeOf,typeInfo,hq]
theorem y4{s:Option Addr}(hu:Tryz.prog.underlying T=some (.slice e))(hx:a.eval x=.slice s l c)(ho:o.op=.call {callee:=.builtin .cap,args:=#[x],argTypes:=#[T]}:=by rfl):(execOp a.eval o).run Tryz.prog w=.ok (.value (.int .i64 c)) w:=by unfold execOp;simp[ho,hx,resolve,invoke,builtin,Builtin.cap_,goInt,run_underlying hu]
theorem jW{t':TypeId}{s:Option Addr}{b:Bool}{y:Operand}(hu:Tryz.prog.underlying t=some (.slice e))(hx:a.eval x=.slice s l c)(hy:a.eval y=.slice none 0 0)(h:s.isNone=b)(ho:o.op=.binOp .eql t x y t':=by rfl):(execOp a.eval o).run Tryz.prog w=.ok (.value (.bool b)) w:=by subst h;unfold execOp;simp only[ho,hx,hy];simp[eqGuard,Lib.run_eql_slice_nil w t e s l c 0 0 hu,Sem.run_bind]
theorem bA(hB:bH w h src t)(off k:Nat):∀j v,(src.extract off (off+k)).toList[j]?=some v→w.cell? ((⟨h,off,none⟩:Addr).add j)=some v:=by
 intro j v hv;rw[Addr.add_lit,hB.cell];rw[ayt,ayz]at hv;split at hv;·exact hv
 ·cases hv
structure App(w w2:World)(og:Option Nat)(n sz:Nat)(cur:Array Value)(news:List Value)(m g c:Nat)(arr:Array Value)(e:TypeId):Prop where
 fA:bH w2 g arr e
 old:∀j,j<n*sz→arr[j]?=cur[j]?
 new:∀j,j<news.length→arr[n*sz+j]?=news[j]?
 size:arr.size=c*sz
 fit:n+m≤c
 src:(og=some g∧w2.heap.size=w.heap.size)∨w.heap.size≤g
 turns:au (fun b=>og=some b) w w2
def ny(w:World)(og:Option Nat)(n c sz:Nat)(cur:Array Value)(e:TypeId)(v:Value):Prop:=(og=none∧v=.slice none 0 0∧n=0)∨∃g,og=some g∧v=.slice (some ⟨g,0,none⟩) n c∧bH w g cur e∧cur.size=c*sz∧n≤c
theorem ny.of(hB:bH w g cur e)(hs:cur.size=c*sz)(hn:n≤c):ny w (some g) n c sz cur e (.slice (some ⟨g,0,none⟩) n c):=.inr ⟨g,rfl,rfl,hB,hs,hn⟩
theorem ny.nil:ny w none 0 0 sz #[] e (.slice none 0 0):=.inl ⟨rfl,rfl,rfl⟩
theorem EV{need old:Nat}{olds:List Value}{z:Array Value}(hz:z.size=sz)(ho:olds.length=n*sz)(KO:∀j,j<n*sz→olds[j]?=cur[j]?)(hm:news.length=m*sz)(ae2:need=n+m):App w (w.drew.alloc (.cells (olds.toArray++news.toArray++Builtin.zeroCells z (grownCap w need old e-need)) e)) og n sz cur news m w.heap.size (grownCap w need old e) (olds.toArray++news.toArray++Builtin.zeroCells z (grownCap w need old e-need)) e:=by
 have C9:=grownCap_ge w need old e;subst ae2;refine⟨heap_alloc_new w.drew _,fun j hj=>?_,fun j hj=>?_,?_,C9,.inr (ayp _),⟨rfl,rfl,rfl,by simp,fun k hk _=>heap_alloc_old w.drew _ hk⟩⟩;·rw[←KO j hj,az0,azg (by simpa[ho]using hj)];simp
 ·rw[az0,azF (by simp[ho]),azg (by simpa[ho]using hj)];simp[ho]
 ·simp only[az6,azL,size_zeroCells,hz,ho,hm,←ay0];congr 1;omega
theorem ek{v:Value}(hB:ny w og n c sz cur e v)(hs:a.eval s=v)(hx:a.eval x=.slice (some ad) m c2)(hu:Tryz.prog.underlying t=some (.slice e))(rj:(Tryz.prog.info? e).map (fun i=>(i.zero,i.size,i.bytes))=some (some z,sz,bytes))(Zo:z.cells.size=sz)(hl:news.length=m*sz)(mP:∀j u,news[j]?=some u→w.cell? (ad.add j)=some u)(h1:∀u∈news,u.oneCell'=true)(Da:n+m<10000000)(hby:bytes≤1000)(h:∀g' c' arr w2,App w w2 og n sz cur news m g' c' arr e→WL r ops Q rest (a.put o.dst (.slice (some ⟨g',0,none⟩) (n+m) c')) w2)(hm:og=none→0<m)(ho:o.op=.call {callee:=.builtin .append,args:=#[s,x],argTypes:=#[t,t]}:=by rfl)(hw:Region.wanted o (yielded ops a.tmps)=true:=by rfl):WL r ops Q (o::rest) a w:=by
 obtain⟨i,hi,xL,Oz,Tw⟩:∃i,Tryz.prog.info? e=some i∧i.zero=some z∧i.size=sz∧i.bytes=bytes:=by
  cases hq:Tryz.prog.info? e with
  |none=>simp[hq]at rj
  |some i=>simp only[hq,ay9,ay8,azX]at rj;exact⟨i,rfl,rj.1,rj.2.1,rj.2.2⟩
 subst Oz;have G8:(n+m)*i.bytes≤140737488355328:=ayo (aAH (Nat.le_of_lt Da) (Tw▸hby)) om;have go:∀{v' w2},(Builtin.append_ #[t,t] o.type #[v,.slice (some ad) m c2]).run Tryz.prog w=.ok v' w2→WL r ops Q rest (a.put o.dst v') w2→WL r ops Q (o::rest) a w:=fun hr hk=>by refine qb (v:=_) (w2:=_) ?_ hk (fun c hc=>by rw[ho]at hc;cases hc) hw;unfold execOp;simp[ho,resolve,invoke,builtin,hs,hx,hr]
 rcases hB with⟨rfl,rfl,rfl⟩|⟨g,rfl,rfl,hB,hU,Xr⟩;·have hr:=run_append_nil (P:=Tryz.prog) w t o.type e i z hu hi xL ad m c2 news hl mP (hm rfl) om (by simp only[ayR]at G8;omega);have:=EV (w:=w) (og:=none) (cur:=cur) (n:=0) (old:=0) (olds:=[]) (news:=news) (e:=e) (m:=m) Zo (by simp) (by simp) hl (ayR m).symm;simp only[Array.empty_append]at this;have k:=h _ _ _ _ this;rw[ayR]at k;exact go hr k
 ·by_cases mz:n+m≤c
  ·have hle:n*i.size+news.length≤cur.size:=by rw[hl,hU,←ay0];exact ayD _ mz
   have hf:=run_firstCells_some (P:=Tryz.prog) w i.size m ad m c2 news hl mP;have fB:=run_storeCells_at Tryz.prog g (n*i.size) e news 0 cur w hB (by simpa using hle) h1;simp only[azt]at fB;have hr:(Builtin.append_ #[t,t] o.type #[.slice (some ⟨g,0,none⟩) n c,.slice (some ad) m c2]).run Tryz.prog w=.ok (.slice (some ⟨g,0,none⟩) (n+m) c) (w.setRow g (bt cur (n*i.size) news)):=by simp[Builtin.append_,run_underlying hu,sizeOf,typeInfo,hi,Builtin.lenOf,mz,hf,Addr.add_lit,fB,bt]
   have p:=o1.yU (vs:=news) (i:=n*i.size) hB;refine go hr (h g c _ _ ⟨p.fA,fun j hj=>aV (.inl hj) hle,fun j hj=>cy rfl hj om,by rw[bp hle,hU],mz,.inl ⟨rfl,p.size⟩,p.turns.mono fun b _ e=>e▸rfl⟩)
  ·have hle:n*i.size≤cur.size:=by rw[hU];exact ayD _ Xr
   have Zp:(cur.extract 0 (0+n*i.size)).toList.length=n*i.size:=by simp;omega
   have hr:=run_append_grow (P:=Tryz.prog) w t o.type e i z hu hi xL ⟨g,0,none⟩ n c _ Zp (bA hB 0 (n*i.size)) ad m c2 news hl mP om om (growslice_fits om G8);refine go hr (h _ _ _ _ (EV Zo Zp (fun j hj=>?_) hl rfl));rw[ayt,ayz,if_pos om];simp
theorem y5{ty:TypeId}(hB:bH w g cur e)(hU:n*sz≤cur.size)(hgr:c<n+m)(hs:a.eval s=.slice (some ⟨g,0,none⟩) n c)(hx:a.eval x=.int .i64 k)(hk:k=(m:Int))(sF:Tryz.prog.underlying ty=some (.int .i64))(hu:Tryz.prog.underlying t=some (.slice e))(rj:(Tryz.prog.info? e).map (fun i=>(i.zero,i.size,i.bytes))=some (some z,sz,bytes))(Zo:z.cells.size=sz)(Da:n+m<10000000)(hby:bytes≤1000)(h:∀c' arr w2 g',jr w w2 g' arr e→(∀j,j<n*sz→arr[j]?=cur[j]?)→arr.size=c'*sz→n+m≤c'→WL r ops Q rest (a.put o.dst (.slice (some ⟨g',0,none⟩) (n+m) c')) w2)(ho:o.op=.call {callee:=.builtin .append,args:=#[s,x],argTypes:=#[t,ty]}:=by rfl)(hw:Region.wanted o (yielded ops a.tmps)=true:=by rfl):WL r ops Q (o::rest) a w:=by
 obtain⟨i,hi,xL,Oz,Tw⟩:∃i,Tryz.prog.info? e=some i∧i.zero=some z∧i.size=sz∧i.bytes=bytes:=by
  cases hq:Tryz.prog.info? e with
  |none=>simp[hq]at rj
  |some i=>simp only[hq,ay9,ay8,azX]at rj;exact⟨i,rfl,rj.1,rj.2.1,rj.2.2⟩
 subst Oz;subst hk;have G8:(n+m)*i.bytes≤140737488355328:=ayo (aAH (Nat.le_of_lt Da) (Tw▸hby)) om;have Zp:(cur.extract 0 (0+n*i.size)).toList.length=n*i.size:=by simp;omega
 have hfo:=run_firstCells_some (P:=Tryz.prog) w.drew i.size n ⟨g,0,none⟩ n c _ Zp (bA (w:=w) hB 0 (n*i.size));have hn:¬(n+m≤c):=by omega
 have Tx:IntKind.i64.wrap (m:Int)=m:=by rw[IntKind.wrap_i64];omega
 have hm0:¬((m:Int)<0):=by omega
 have h48:¬(281474976710656<(m:Int)*i.bytes):=by
  have:m*i.bytes≤(n+m)*i.bytes:=ayD _ om;have h2:((m*i.bytes:Nat):Int)≤140737488355328:=by omega
  rw[Int.natCast_mul]at h2;omega
 have Ty:¬(9223372036854775807<((n:Int)+(m:Int))):=by omega
 have Xs:=growslice_fits (need:=n+m) (old:=c) (bytes:=i.bytes) om G8;have Tz:¬(281474976710656<Builtin.nextslicecap (n+m) c*i.bytes):=by omega
 have C9:=grownCap_ge w (n+m) c e;by_cases hmz:m*i.size=0
 ·refine qb (v:=.slice (some ⟨w.heap.size,0,none⟩) (n+m) (grownCap w (n+m) c e)) (w2:=w.drew.alloc (.cells ((cur.toList.take (n*i.size)).toArray++#[]++Builtin.zeroCells z.cells (grownCap w (n+m) c e-(n+m))) e)) ?_ (h _ _ _ _ ⟨heap_alloc_new w.drew _,⟨rfl,rfl,rfl,by simp,fun k hk=>heap_alloc_old w.drew _ hk⟩,ayp _,by simp⟩ ?_ ?_ C9) (fun c hc=>by rw[ho]at hc;cases hc) hw;·unfold execOp;simp[ho,resolve,invoke,builtin,hs,hx,Builtin.append_,run_underlying hu,run_underlying sF,sizeOf,typeInfo,zeroValue,hi,xL,asInt,asIntOf,Tx,hm0,h48,hn,Ty,Tz,Question.forced,hfo,hmz,newRow,grownCap]
  ·intro j hj;rw[az0,azg (by simp;omega)];simp[azz hj]
  ·simp only[az6,size_zeroCells,Zo,azL,ayZ,ayy];have e1:min (n*i.size) cur.size=n*i.size:=by omega
   have e2:([]:List Value).length=m*i.size:=by simp[hmz]
   rw[e1,e2,←ay0,←ay0];congr 1;omega
 ·refine qb (v:=.slice (some ⟨w.heap.size,0,none⟩) (n+m) (grownCap w (n+m) c e)) (w2:=w.drew.alloc (.cells ((cur.toList.take (n*i.size)).toArray++Builtin.zeroCells z.cells m++Builtin.zeroCells z.cells (grownCap w (n+m) c e-(n+m))) e)) ?_ (h _ _ _ _ ⟨heap_alloc_new w.drew _,⟨rfl,rfl,rfl,by simp,fun k hk=>heap_alloc_old w.drew _ hk⟩,ayp _,by simp⟩ ?_ ?_ C9) (fun c hc=>by rw[ho]at hc;cases hc) hw;·unfold execOp;simp[ho,resolve,invoke,builtin,hs,hx,Builtin.append_,run_underlying hu,run_underlying sF,sizeOf,typeInfo,zeroValue,hi,xL,asInt,asIntOf,Tx,hm0,h48,hn,Ty,Tz,Question.forced,hfo,hmz,newRow,grownCap]
  ·intro j hj;rw[az0,azg (by simp;omega)];simp[azz hj]
  ·simp only[az6,size_zeroCells,Zo,azL,ayZ,ayy];have e1:min (n*i.size) cur.size=n*i.size:=by omega
   rw[e1,←ay0,←ay0];congr 1;omega
theorem fu{dl dc sl sc k:Nat}{cs:List Value}{d:Operand}(hB:bH w g cur t2)(hd:a.eval d=.slice (some ⟨g,off,none⟩) dl dc)(hs:a.eval s=.slice (some ad) sl sc)(hu:Tryz.prog.underlying t=some (.slice e))(hz:(Tryz.prog.info? e).map (·.size)=some sz)(hk:min sl dl=k)(hn:cs.length=k*sz)(Zq:∀j u,cs[j]?=some u→w.cell? (ad.add j)=some u)(mz:off+cs.length≤cur.size)(h1:∀u∈cs,u.oneCell'=true)(h:∀w2,o1 w w2 g (bt cur off cs) t2→WL r ops Q rest (a.put o.dst (.int .i64 k)) w2)(ho:o.op=.call {callee:=.builtin .copy,args:=#[d,s],argTypes:=#[t,t]}:=by rfl)(hw:Region.wanted o (yielded ops a.tmps)=true:=by rfl):WL r ops Q (o::rest) a w:=by
 subst hk;refine qb (v:=.int .i64 (min sl dl:Nat)) (w2:=w.setRow g (bt cur off cs)) ?_ (h _ (o1.yU hB)) (fun c hc=>by rw[ho]at hc;cases hc) hw;have hf:=run_firstCells_some (P:=Tryz.prog) w sz (min sl dl) ad sl sc cs hn Zq;have fB:=run_storeCells_at Tryz.prog g off t2 cs 0 cur w hB (by simpa using mz) h1;simp only[azt]at fB;unfold execOp;cases hq:Tryz.prog.info? e with
 |none=>simp[hq]at hz
 |some i=>
  have hi:i.size=sz:=by simpa[hq]using hz
  simp[ho,resolve,invoke,builtin,hd,hs,Builtin.copy_,run_underlying hu,Builtin.lenOf,sizeOf,typeInfo,hq,hi,hf,fB,bt,goInt]
theorem Jg(hB:bH w g cur t2)(hs:a.eval s=.slice (some ⟨g,off,none⟩) (n+1) c)(hu:Tryz.prog.underlying t=some (.slice e))(hz:(Tryz.prog.info? e).map (·.zero)=some (some z))(mz:off+(Builtin.zeroCells z.cells (n+1)).toList.length≤cur.size)(h1:∀u∈(Builtin.zeroCells z.cells (n+1)).toList,u.oneCell'=true)(h:∀w2,o1 w w2 g (bt cur off (Builtin.zeroCells z.cells (n+1)).toList) t2→WL r ops Q rest (a.put o.dst (.tuple #[])) w2)(ho:o.op=.call {callee:=.builtin .clear,args:=#[s],argTypes:=#[t]}:=by rfl)(hw:Region.wanted o (yielded ops a.tmps)=true:=by rfl):WL r ops Q (o::rest) a w:=by
 refine qb (v:=.tuple #[]) (w2:=w.setRow g (bt cur off (Builtin.zeroCells z.cells (n+1)).toList)) ?_ (h _ (o1.yU hB)) (fun c hc=>by rw[ho]at hc;cases hc) hw;have fB:=run_storeCells_at Tryz.prog g off t2 (Builtin.zeroCells z.cells (n+1)).toList 0 cur w hB (by simpa using mz) h1;simp only[azt]at fB
 have hz':∀w,(zeroValue e).run Tryz.prog w=.ok z w:=fun w=>by
  cases hq:Tryz.prog.info? e with
  |none=>simp[hq]at hz
  |some i=>simp only[hq,ay9,ay8]at hz;simp[zeroValue,typeInfo,hq,hz]
 unfold execOp;simp[ho,resolve,invoke,builtin,hs,Builtin.clear_,run_underlying hu,hz',fB,bt]
end
theorem wj:(m=0∧d=d)∨(m≠0∧d=d+0*sz):=by
 by_cases h:m=0;·exact .inl ⟨h,rfl⟩
 ·exact .inr ⟨h,by omega⟩
theorem a8{w:World}(hB:bH w h src t):∀j v,src.toList[j]?=some v→w.cell? ((⟨h,0,none⟩:Addr).add j)=some v:=by intro j v hv;rw[Addr.add_lit,hB.cell,ayR];rwa[ayt]at hv
section
variable{r:Option Nat}{ops:Array Oper}{Q:Exit→Act→World→Prop}{a:Act}{w:World}{rest:List Oper}{o:Oper}
theorem dT{cells:Array Value}(hr:(execOp a.eval o).run Tryz.prog w=.ok (.value (.slice (some ⟨w.heap.size,0,none⟩) n n)) (w.alloc (.cells cells e (0,0))))(h:∀g w2,jr w w2 g cells e→WL r ops Q rest (a.put o.dst (.slice (some ⟨g,0,none⟩) n n)) w2)(hd:∀c,o.op≠.defer c:=by(intro c hc;cases hc))(hw:Region.wanted o (yielded ops a.tmps)=true:=by rfl):WL r ops Q (o::rest) a w:=qb hr (h _ _ (jr.uS _ _ _)) hd hw
end
section
variable{w w2:World}{og:Option Nat}{n sz m g c:Nat}{cur arr:Array Value}{news:List Value}{e:TypeId}
theorem App.fr(h:App w w2 og n sz cur news m g c arr e)(hN:N≤w.heap.size)(hg:∀b,og=some b→N≤b):N≤g:=by
 rcases h.src with⟨q,_⟩|q;·exact hg _ q
 ·omega
theorem App.below(h:App w w2 og n sz cur news m g c arr e)(hb:Below N W w)(hN:N≤w.heap.size)(hg:∀b,og=some b→N≤b):Below N W w2:=⟨h.turns.os.trans hb.os,h.turns.tape.trans hb.tape,h.turns.output.trans hb.output,ayo hb.size h.turns.size,fun i hi=>(h.turns.block i om (fun q=>by have:=hg _ q;omega)).trans (hb.block i hi)⟩
theorem App.y6{S:Nat→Prop}(h:App w w2 og n sz cur news m g c arr e)(hb:au S W w)(hg:∀b,og=some b→S b∨W.heap.size≤b):au S W w2:=hb.trans (h.turns.mono fun b _ q=>hg b q)
theorem Hp.G9(hp:Hp w L)(h:App w w2 none n sz cur news m g c arr e):Hp w2 ((g,arr,e)::L):=by
 have hg:w.heap.size≤g:=by rcases h.src with⟨q,_⟩|q;cases q;exact q
 refine(hp.turns h.turns fun x hx q=>by cases q).cons h.fA fun hm=>?_;obtain⟨x,hx,e⟩:=ayM.1 hm;have:=(hp.2 x hx).lt;omega
theorem BG:∀{l:List Nat} {k v:Nat},l.Nodup→v∉l→(l.set k v).Nodup
 |[],_,_,h,_=>h
 |x::l,0,v,h,hv=>ay3.2 ⟨fun m=>hv (ay6 _ m),(ay3.1 h).2⟩
 |x::l,k+1,v,h,hv=>ay3.2 ⟨fun m=>(azp m).elim (ay3.1 h).1 (fun e=>hv (e▸azs)),BG (ay3.1 h).2 fun m=>hv (ay6 _ m)⟩
theorem y7{y:Nat×Array Value×TypeId}:∀{L:List (Nat×Array Value×TypeId)} {k:Nat} {z x:Nat×Array Value×TypeId},(L.map (·.1)).Nodup→L[k]?=some z→x∈L.set k y→x=y∨(x∈L∧x.1≠z.1)
 |[],_,_,_,_,he,_=>by cases he
 |a::l,0,z,x,h,he,hx=>by
  obtain rfl:a=z:=by simpa using he
  rcases ayE.1 hx with hx|hx;·exact .inl hx
  ·exact .inr ⟨ay6 _ hx,fun e=>(ay3.1 h).1 (ayM.2 ⟨x,hx,e⟩)⟩
 |a::l,k+1,z,x,h,he,hx=>by
  have he':l[k]?=some z:=by simpa using he
  rcases ayE.1 hx with hx|hx;·subst hx;exact .inr ⟨azs,fun e=>(ay3.1 h).1 (ayM.2 ⟨z,ayw he',e.symm⟩)⟩
  ·exact(y7 (ay3.1 h).2 he' hx).imp id fun q=>⟨ay6 _ q.1,q.2⟩
theorem Hp.app(hp:Hp w L)(k:Nat){b:Nat}(h:App w w2 (some b) n sz cur news m g c arr e)(he:L[k]?=some (b,cs,e):=by rfl):Hp w2 (L.set k (g,arr,e)):=by
 rcases h.src with⟨q,jv⟩|q;·cases q;exact hp.put k ⟨h.fA,h.turns.mono fun i _ e=>by cases e;rfl,jv⟩ he
 ·refine⟨?_,fun x hx=>?_⟩;·rw[List.map_set];exact BG hp.1 fun hm=>by obtain⟨x,hx,e⟩:=ayM.1 hm;have:=(hp.2 x hx).lt;simp only at e;omega
  ·rcases y7 hp.1 he hx with rfl|⟨h1,h2⟩;·exact h.fA
   ·exact(hp.2 x h1).turns h.turns fun q=>h2 (by cases q;rfl)
end
section
variable{r:Option Nat}{ops:Array Oper}{Q:Exit→Act→World→Prop}{a:Act}{w:World}{rest:List Oper}{o:Oper}
theorem Db(hB:bH w g cur e)(hs:a.eval s=.slice (some ⟨g,0,none⟩) n c)(hx:a.eval x=.slice (some ad) m c2)(hu:Tryz.prog.underlying t=some (.slice e))(hz:(Tryz.prog.info? e).map (·.size)=some sz)(hl:news.length=m*sz)(mP:∀j u,news[j]?=some u→w.cell? (ad.add j)=some u)(h1:∀u∈news,u.oneCell'=true)(mz:n+m≤c)(hle:n*sz+news.length≤cur.size)(h:∀w2,o1 w w2 g (bt cur (n*sz) news) e→WL r ops Q rest (a.put o.dst (.slice (some ⟨g,0,none⟩) (n+m) c)) w2)(ho:o.op=.call {callee:=.builtin .append,args:=#[s,x],argTypes:=#[t,t]}:=by rfl)(hw:Region.wanted o (yielded ops a.tmps)=true:=by rfl):WL r ops Q (o::rest) a w:=by
 cases hq:Tryz.prog.info? e with
 |none=>simp[hq]at hz
 |some i=>
  have hi:i.size=sz:=by simpa[hq]using hz
  subst hi;have hf:=run_firstCells_some (P:=Tryz.prog) w i.size m ad m c2 news hl mP;have fB:=run_storeCells_at Tryz.prog g (n*i.size) e news 0 cur w hB (by simpa using hle) h1;simp only[azt]at fB;refine qb (v:=_) (w2:=_) ?_ (h _ (o1.yU hB)) (fun c hc=>by rw[ho]at hc;cases hc) hw;unfold execOp;simp[ho,resolve,invoke,builtin,hs,hx,Builtin.append_,run_underlying hu,sizeOf,typeInfo,hq,Builtin.lenOf,mz,hf,Addr.add_lit,fB,bt]
end
end
section
open Go.RowKit
variable{ops:Array Oper}{aj l bN:Array Bool}{fuel n sz m g c:Nat}{a a':Act}{v:Value}{oi:Oper}{w w2:World}{cur arr:Array Value}{news:List Value}{e:TypeId}
def uo(ops:Array Oper):Nat→Nat→Nat→Bool
 |0,_,_=>false
 |n+1,s,i=>match ops[s]? with
  |some o=>o.after.any fun e=>Region.binds .any e&&(e.on==i||uo ops n e.on i)
  |none=>false
def clB(ops:Array Oper)(aj:Array Bool):Bool:=(List.range ops.size).all fun j=>!aj.getD j false||match ops[j]? with
 |some o=>o.after.all fun e=>!Region.binds .any e||aj.getD e.on false
 |none=>true
theorem pC(h:clB ops aj=true):Cl ops aj:=by intro j oj ho hl e he hb;unfold clB at h;rw[ayS]at h;have h1:=h j (aCR.2 (ayv.1 ho).1);simp only[ho,hl,Bool.not_true,Bool.false_or,Array.all_eq_true']at h1;have h2:=h1 e he;simpa[hb]using h2
theorem jM{ops:Array Oper}{aj:Array Bool}(hc:Cl ops aj):∀(n s i:Nat),uo ops n s i=true→aj.getD s false=true→aj.getD i false=true
 |0,_,_,h,_=>by cases h
 |n+1,s,i,h,hl=>by
  unfold uo at h;split at h
  ·rename_i o ho;rw[Array.any_eq_true']at h;obtain⟨e,he,h1⟩:=h;simp only[ayF,azy,beq_iff_eq]at h1;have h2:=hc s o ho hl e he h1.1;rcases h1.2 with q|q;·rw[←q];exact h2
   ·exact jM hc n _ _ q h2
  ·cases h
theorem vC{i:Nat}(h:l.getD i true=false):l.getD i false=false:=by
 simp only[azT]at*;cases hq:l[i]? with
 |none=>rfl
 |some b=>rw[hq]at h;exact h
def DW:Option Nat→World→Array Bool→World→Prop
 |none,W=>fun _ w=>Bw W w
 |some s,W=>fun l w=>l.getD s false=false→Bw W w
def DH:Option Nat→List (Nat×Array Value×TypeId)→Array Bool→World→Prop
 |none,L=>fun _ w=>Hp w L
 |some t,L=>fun l w=>l.getD t false=false→Hp w L
def DX(s t:Option Nat)(W:World)(L:List (Nat×Array Value×TypeId))(l:Array Bool)(w:World):Prop:=DW s W l w∧DH t L l w
def Fy(ops:Array Oper)(aj:Array Bool)(i:Nat)(s t:Option Nat):Bool:=Region.noSelect ops&&jl ops&&Region.free .any ops aj i&&(Region.ready .any ops aj).contains i&&clB ops aj&&(match s with|none=>true|some s=>decide (s≠i)&&uo ops ops.size s i)&&(match t with|none=>true|some t=>decide (t≠i))
def Fz(ops:Array Oper)(aj:Array Bool)(i:Nat)(s t:Option Nat):Bool:=Region.noSelect ops&&jl ops&&Region.free .any ops aj i&&(Region.ready .any ops aj).contains i&&clB ops aj&&(match s with|none=>true|some s=>decide (s≠i))&&(match t with|none=>true|some t=>decide (t≠i)&&uo ops ops.size t i)
section
variable{r:Option Nat}{ops:Array Oper}{Q:Act→World→Prop}{W w:World}{s t:Option Nat}{L:List (Nat×Array Value×TypeId)}
theorem a_f{l:List Oper}(i:Nat)(mv:(l.drop i).head?=some oi)(hy:YC l.toArray (fun w=>Bw W w) oi v a)(h:dP r l.toArray Q (DX s t W L) fuel bN a' w)(hc:Fy l.toArray aj i s t=true:=by kernel_rfl)(hl:aj.setIfInBounds i true=bN:=by kernel_rfl)(ha:a.put oi.dst v=a':=by(simp only[Act.put,ayI,ayU,ayT];rfl)):dP r l.toArray Q (DX s t W L) (fuel+1) aj a w:=by
 have hi:l.toArray[i]?=some oi:=by rw[azf]at mv;simpa using mv
 simp only[Fy,ayF,azy,decide_eq_true_eq]at hc;obtain⟨⟨⟨⟨⟨⟨h1,h2⟩,h3⟩,h4⟩,h5⟩,h6⟩,h7⟩:=hc;refine a_q hi h1 h2 h3 h4 (pC h5) (fun l' w A7 Tc hD=>?_) hy hl ha h;obtain⟨hD,hL⟩:=hD
 replace hL:DH t L l' w:=by
  cases t with
  |none=>exact hL
  |some t=>simp only[decide_eq_true_eq]at h7;exact fun q=>hL (by rw[getD_set_ne false (azR h7)];exact q)
 cases s with
 |none=>exact⟨⟨hD,hL⟩,hD⟩
 |some s=>
  simp only[ayF,decide_eq_true_eq]at h6;have key:l'.getD s false=false→Bw W w:=fun q=>hD (by rw[getD_set_ne false (azR h6.1)];exact q);refine⟨⟨key,hL⟩,key ?_⟩;cases q:l'.getD s false with
  |false=>rfl
  |true=>have:=jM A7 _ _ _ h6.2 q;rw[vC Tc]at this;cases this
theorem a_h{l:List Oper}(i:Nat)(mv:(l.drop i).head?=some oi)(hy:YC l.toArray (fun w=>Hp w L) oi v a)(h:dP r l.toArray Q (DX s t W L) fuel bN a' w)(hc:Fz l.toArray aj i s t=true:=by kernel_rfl)(hl:aj.setIfInBounds i true=bN:=by kernel_rfl)(ha:a.put oi.dst v=a':=by(simp only[Act.put,ayI,ayU,ayT];rfl)):dP r l.toArray Q (DX s t W L) (fuel+1) aj a w:=by
 have hi:l.toArray[i]?=some oi:=by rw[azf]at mv;simpa using mv
 simp only[Fz,ayF,azy,decide_eq_true_eq]at hc;obtain⟨⟨⟨⟨⟨⟨h1,h2⟩,h3⟩,h4⟩,h5⟩,h6⟩,h7⟩:=hc;refine a_q hi h1 h2 h3 h4 (pC h5) (fun l' w A7 Tc hD=>?_) hy hl ha h;obtain⟨hD,hL⟩:=hD
 have TQ:Hp w L:=by
  cases t with
  |none=>exact hL
  |some t=>
   simp only[ayF,decide_eq_true_eq]at h7;refine hL ?_;rw[getD_set_ne false (azR h7.1)];cases q:l'.getD t false with
   |false=>rfl
   |true=>have:=jM A7 _ _ _ h7.2 q;rw[vC Tc]at this;cases this
 replace hL:DH t L l' w:=by
  cases t with
  |none=>exact TQ
  |some t=>exact fun _=>TQ
 cases s with
 |none=>exact⟨⟨hD,hL⟩,TQ⟩
 |some s=>simp only[decide_eq_true_eq]at h6;exact⟨⟨fun q=>hD (by rw[getD_set_ne false (azR h6)];exact q),hL⟩,TQ⟩
def HH(ops:Array Oper)(aj:Array Bool)(i:Nat)(s t:Option Nat):Bool:=Region.noSelect ops&&jl ops&&Region.free .any ops aj i&&(Region.ready .any ops aj).contains i&&clB ops aj&&(match s with|none=>true|some s=>decide (s≠i))&&(match t with|none=>true|some t=>decide (t≠i))
theorem a_p{l:List Oper}(i:Nat)(mv:(l.drop i).head?=some oi)(hy:YC l.toArray (fun _=>True) oi v a)(h:dP r l.toArray Q (DX s t W L) fuel bN a' w)(hc:HH l.toArray aj i s t=true:=by kernel_rfl)(hl:aj.setIfInBounds i true=bN:=by kernel_rfl)(ha:a.put oi.dst v=a':=by(simp only[Act.put,ayI,ayU,ayT];rfl)):dP r l.toArray Q (DX s t W L) (fuel+1) aj a w:=by
 have hi:l.toArray[i]?=some oi:=by rw[azf]at mv;simpa using mv
 simp only[HH,ayF,azy,decide_eq_true_eq]at hc;obtain⟨⟨⟨⟨⟨⟨h1,h2⟩,h3⟩,h4⟩,h5⟩,h6⟩,h7⟩:=hc;refine a_q hi h1 h2 h3 h4 (pC h5) (fun l' w A7 Tc hD=>?_) hy hl ha h;obtain⟨hD,hL⟩:=hD;refine⟨⟨?_,?_⟩,trivial⟩
 ·cases s with
  |none=>exact hD
  |some s=>simp only[decide_eq_true_eq]at h6;exact fun q=>hD (by rw[getD_set_ne false (azR h6)];exact q)
 ·cases t with
  |none=>exact hL
  |some t=>simp only[decide_eq_true_eq]at h7;exact fun q=>hL (by rw[getD_set_ne false (azR h7)];exact q)
theorem afL{id:Nat}{l:List Oper}{Q:Exit→Act→World→Prop}(s t:Option Nat)(L:List (Nat×Array Value×TypeId))(h:dP r l.toArray (fun a w=>Q .normal a w) (DX s t w L) n aj a w.drew)(hn:l.length=n:=by rfl)(hl:Array.replicate n false=aj:=by rfl):WC r (.region id l.toArray true) Q a w:=by subst hn;subst hl;exact XN _ h
theorem br(h:Bw W w):DW s W l w:=by
 cases s with
 |none=>exact h
 |some s=>exact fun _=>h
theorem aR{s:Nat}(h:l.getD s false=true):DW (some s) W l w:=fun q=>by rw[h]at q;cases q
theorem az(h:Hp w L):DH t L l w:=by
 cases t with
 |none=>exact h
 |some t=>exact fun _=>h
theorem yN{t:Nat}(h:l.getD t false=true):DH (some t) L l w:=fun q=>by rw[h]at q;cases q
end
section
variable{ops:Array Oper}{C:World→Prop}{o:Oper}{v:Value}{a:Act}
theorem yq(hr:∀w,C w→(execOp a.eval o).run Tryz.prog w=.ok (.value v) w)(hw:Region.wanted o (yielded ops a.tmps)=true:=by rfl):YC ops C o v a:=.inl ⟨hw,fun w hC=>.inl (hr w hC)⟩
theorem ysk(hw:Region.wanted o (yielded ops a.tmps)=false:=by rfl):YC ops C o undef a:=.inr ⟨hw,rfl⟩
theorem yca{f:FuncId}{fn:Func}{xs:Array Operand}{ts:Array TypeId}(hf:Tryz.prog.funcs[f]?=some fn)(args:Array Value)(hc:∀w,C w→CP f args w fun e w'=>e=.returned v∧Bw w w')(fQ:(fn.name== "runtime.NumGoroutine")=false:=by kernel_rfl)(hb:fn.body.isSome=true:=by rfl)(kg:o.op=.call {callee:=.value (.func f),args:=xs,argTypes:=ts}:=by rfl)(ft:xs.map a.eval=args:=by(simp only[ayH,ayC,ayB];rfl))(hw:Region.wanted o (yielded ops a.tmps)=true:=by rfl):YC ops C o v a:=.inl ⟨hw,fun w hC=>.inr ⟨f,args,by have he:=oA hf fQ hb args w;unfold execOp;simp[kg,resolve,Deferred.ofValue,invoke,Act.eval,ft,he],hc w hC⟩⟩
end
theorem cd(h:Below w.drew.heap.size w.drew w2):Bw w w2:=⟨h.os,h.tape,h.output,h.size,h.block⟩
theorem Hp.ne{L:List (Nat×Array Value×TypeId)}(h:Hp w L)(i j:Nat)(S9:i≠j){x y:Nat×Array Value×TypeId}(hx:L[i]?=some x:=by rfl)(hy:L[j]?=some y:=by rfl):x.1≠y.1:=by
 obtain⟨p1,q1⟩:=ays.1 (show(L.map (·.1))[i]?=some x.1 by rw[ayL,hx];rfl);obtain⟨p2,q2⟩:=ays.1 (show(L.map (·.1))[j]?=some y.1 by rw[ayL,hy];rfl);intro e;have nd:=azv.1 h.1;rcases azJ i j with gD|heq|hgt;·exact nd i j p1 p2 gD (q1.trans (e.trans q2.symm))
 ·exact S9 heq
 ·exact nd j i p2 p1 hgt (q2.trans (e.symm.trans q1.symm))
theorem App.ne{og:Nat}(A:App w w2 (some og) n sz cur news m g c arr e){b:Nat}(h:b≠og)(hb:b<w.heap.size):b≠g:=by
 intro q;subst q;rcases A.src with⟨q,_⟩|q;·cases q;exact h rfl
 ·omega
theorem App.lt{og:Option Nat}(A:App w w2 og n sz cur news m g c arr e):g<w2.heap.size:=A.fA.lt
end
section
open Go.RowKit
variable{a a':Act}{l:List Oper}{Q:Act→World→Prop}{fuel:Nat}{aj bN:Array Bool}{w:World}{oi:Oper}{v:Value}
theorem TW{i j:Tmp}(h:i≠j)(x y:Value):(a.put (some i) x).put (some j) y=(a.put (some j) y).put (some i) x:=by simp only[Act.put];rw[azI _ _ h]
theorem PD{r:Option Nat}{D:Array Bool→World→Prop}{listed2:Array Bool}{a':Nat→Nat→Act}{a0:Act}{oj:Oper}{di dj:Tmp}{ti tj:TypeId}{zi zj:Value}(i j:Nat)(hoi:(l.drop i).head?=some oi)(GI:(l.drop j).head?=some oj)(hzi:(Tryz.prog.info? ti).map (·.zero)=some (some zi))(hzj:(Tryz.prog.info? tj).map (·.zero)=some (some zj))(hD:∀l' w',Bw w w'→D l' w')(h:∀g g' w2,Bw w w2→w.heap.size≤g→w.heap.size≤g'→g≠g'→bH w2 g zi.cells ti→bH w2 g' zj.cells tj→dP r l.toArray Q D fuel listed2 (a' g g') w2)(ha:∀g g',(a0.put (some di) (.pointer (some ⟨g,0,none⟩))).put (some dj) (.pointer (some ⟨g',0,none⟩))=a' g g':=by(intro g g';simp only[Act.put,ayI,ayU,ayT];rfl))(hr:Region.ready .any l.toArray aj=[i,j]:=by kernel_rfl)(hri:Region.ready .any l.toArray (aj.setIfInBounds i true)=[j]:=by kernel_rfl)(hrj:Region.ready .any l.toArray (aj.setIfInBounds j true)=[i]:=by kernel_rfl)(hl:(aj.setIfInBounds i true).setIfInBounds j true=listed2:=by kernel_rfl)(S9:(i==j)=false:=by rfl)(hdd:(di==dj)=false:=by rfl)(h1:oi.op=.alloc ti:=by rfl)(h2:oj.op=.alloc tj:=by rfl)(h3:oi.dst=some di:=by rfl)(h4:oj.dst=some dj:=by rfl)(hwi:∀a,Region.wanted oi (yielded l.toArray a)=true:=by intro a;rfl)(hwj:∀a,Region.wanted oj (yielded l.toArray a)=true:=by intro a;rfl):dP r l.toArray Q D (fuel+1+1) aj a0 w:=by
 have TX:l.toArray[i]?=some oi:=by rw[azf]at hoi;simpa using hoi
 have TY:l.toArray[j]?=some oj:=by rw[azf]at GI;simpa using GI
 have aml:i≠j:=by simpa using S9
 have amm:di≠dj:=by simpa using hdd
 subst hl;intro w' hb;refine⟨hD _ _ hb,fun q=>(by rw[hr]at q;cases q),fun k hk=>?_⟩;rw[hr]at hk;have KJ:k=i∨k=j:=by simpa using hk
 rcases KJ with rfl|rfl;·refine pB TX (eK hzi (fun g w1 n=>EP ?_) h1 (hwi _));show dP r l.toArray Q D (fuel+1) _ _ _;have gV:=U hb n.below;refine wH TY hri rfl fun w2 er=>⟨hD _ _ (U gV er),eK hzj (fun g' w3 n'=>EP ?_) h2 (hwj _)⟩;have:=h g g' w3 (U (U gV er) n'.below) (ayo hb.size n.fresh) (ayo (ayo gV.size er.size) n'.fresh) (by have:=n.lt;have:=n'.fresh;have:=er.size;omega) ((n.fA.below er).below n'.below) n'.fA;rw[←ha g g']at this;rw[h3,h4];exact this
 ·refine pB TY (eK hzj (fun g' w1 n=>EP ?_) h2 (hwj _));show dP r l.toArray Q D (fuel+1) _ _ _;have gV:=U hb n.below;refine wH TX hrj rfl fun w2 er=>⟨hD _ _ (U gV er),eK hzi (fun g w3 n'=>EP ?_) h1 (hwi _)⟩;have:=h g g' w3 (U (U gV er) n'.below) (ayo (ayo gV.size er.size) n'.fresh) (ayo hb.size n.fresh) (by have:=n.lt;have:=n'.fresh;have:=er.size;omega) n'.fA ((n.fA.below er).below n'.below);rw[←ha g g',TW amm,azI _ _ aml]at this;rw[h3,h4];exact this
def D3(s t:Option Nat)(W:World)(L:List (Nat×Array Value×TypeId))(u:Nat)(K:World→Prop)(l:Array Bool)(w:World):Prop:=DX s t W L l w∧(l.getD u false=false→K w)
theorem BZ{p k c:Prop}(hk:k)(h:p∧c):(p∧k)∧c:=⟨⟨h.1,hk⟩,h.2⟩
section
variable{r:Option Nat}{ops:Array Oper}{Q:Act→World→Prop}{W w:World}{s t:Option Nat}{L:List (Nat×Array Value×TypeId)}{u:Nat}{K:World→Prop}
theorem b_f(i:Nat)(mv:(l.drop i).head?=some oi)(hy:YC l.toArray (fun w=>Bw W w) oi v a)(h:dP r l.toArray Q (D3 s t W L u K) fuel bN a' w)(hu:(u==i)=false:=by rfl)(hc:Fy l.toArray aj i s t=true:=by kernel_rfl)(hl:aj.setIfInBounds i true=bN:=by kernel_rfl)(ha:a.put oi.dst v=a':=by(simp only[Act.put,ayI,ayU,ayT];rfl)):dP r l.toArray Q (D3 s t W L u K) (fuel+1) aj a w:=by
 have hi:l.toArray[i]?=some oi:=by rw[azf]at mv;simpa using mv
 simp only[Fy,ayF,azy,decide_eq_true_eq]at hc;obtain⟨⟨⟨⟨⟨⟨h1,h2⟩,h3⟩,h4⟩,h5⟩,h6⟩,h7⟩:=hc;refine a_q hi h1 h2 h3 h4 (pC h5) (fun l' w A7 Tc hD3=>?_) hy hl ha h;obtain⟨⟨hD,hL⟩,hK3⟩:=hD3;have hK:l'.getD u false=false→K w:=fun q=>hK3 (by rw[getD_set_ne false (by intro e;subst e;simp at hu)];exact q);refine BZ hK ?_
 replace hL:DH t L l' w:=by
  cases t with
  |none=>exact hL
  |some t=>simp only[decide_eq_true_eq]at h7;exact fun q=>hL (by rw[getD_set_ne false (azR h7)];exact q)
 cases s with
 |none=>exact⟨⟨hD,hL⟩,hD⟩
 |some s=>
  simp only[ayF,decide_eq_true_eq]at h6;have key:l'.getD s false=false→Bw W w:=fun q=>hD (by rw[getD_set_ne false (azR h6.1)];exact q);refine⟨⟨key,hL⟩,key ?_⟩;cases q:l'.getD s false with
  |false=>rfl
  |true=>have:=jM A7 _ _ _ h6.2 q;rw[vC Tc]at this;cases this
theorem b_h(i:Nat)(mv:(l.drop i).head?=some oi)(hy:YC l.toArray (fun w=>Hp w L) oi v a)(h:dP r l.toArray Q (D3 s t W L u K) fuel bN a' w)(hu:(u==i)=false:=by rfl)(hc:Fz l.toArray aj i s t=true:=by kernel_rfl)(hl:aj.setIfInBounds i true=bN:=by kernel_rfl)(ha:a.put oi.dst v=a':=by(simp only[Act.put,ayI,ayU,ayT];rfl)):dP r l.toArray Q (D3 s t W L u K) (fuel+1) aj a w:=by
 have hi:l.toArray[i]?=some oi:=by rw[azf]at mv;simpa using mv
 simp only[Fz,ayF,azy,decide_eq_true_eq]at hc;obtain⟨⟨⟨⟨⟨⟨h1,h2⟩,h3⟩,h4⟩,h5⟩,h6⟩,h7⟩:=hc;refine a_q hi h1 h2 h3 h4 (pC h5) (fun l' w A7 Tc hD3=>?_) hy hl ha h;obtain⟨⟨hD,hL⟩,hK3⟩:=hD3;have hK:l'.getD u false=false→K w:=fun q=>hK3 (by rw[getD_set_ne false (by intro e;subst e;simp at hu)];exact q);refine BZ hK ?_
 have TQ:Hp w L:=by
  cases t with
  |none=>exact hL
  |some t=>
   simp only[ayF,decide_eq_true_eq]at h7;refine hL ?_;rw[getD_set_ne false (azR h7.1)];cases q:l'.getD t false with
   |false=>rfl
   |true=>have:=jM A7 _ _ _ h7.2 q;rw[vC Tc]at this;cases this
 replace hL:DH t L l' w:=by
  cases t with
  |none=>exact TQ
  |some t=>exact fun _=>TQ
 cases s with
 |none=>exact⟨⟨hD,hL⟩,TQ⟩
 |some s=>simp only[decide_eq_true_eq]at h6;exact⟨⟨fun q=>hD (by rw[getD_set_ne false (azR h6)];exact q),hL⟩,TQ⟩
theorem b_k(i:Nat)(mv:(l.drop i).head?=some oi)(hy:YC l.toArray K oi v a)(h:dP r l.toArray Q (D3 s t W L u K) fuel bN a' w)(hu:(u==i)=false:=by rfl)(hru:uo l.toArray l.length u i=true:=by kernel_rfl)(hc:HH l.toArray aj i s t=true:=by kernel_rfl)(hl:aj.setIfInBounds i true=bN:=by kernel_rfl)(ha:a.put oi.dst v=a':=by(simp only[Act.put,ayI,ayU,ayT];rfl)):dP r l.toArray Q (D3 s t W L u K) (fuel+1) aj a w:=by
 have hi:l.toArray[i]?=some oi:=by rw[azf]at mv;simpa using mv
 simp only[HH,ayF,azy,decide_eq_true_eq]at hc;obtain⟨⟨⟨⟨⟨⟨h1,h2⟩,h3⟩,h4⟩,h5⟩,h6⟩,h7⟩:=hc;have hui:u≠i:=by intro e;subst e;simp at hu
 refine a_q hi h1 h2 h3 h4 (pC h5) (fun l' w A7 Tc hD3=>?_) hy hl ha h;obtain⟨⟨hD,hL⟩,hK3⟩:=hD3;have hK:l'.getD u false=false→K w:=fun q=>hK3 (by rw[getD_set_ne false (azR hui)];exact q);refine⟨⟨⟨?_,?_⟩,hK⟩,hK ?_⟩
 ·cases s with
  |none=>exact hD
  |some s=>simp only[decide_eq_true_eq]at h6;exact fun q=>hD (by rw[getD_set_ne false (azR h6)];exact q)
 ·cases t with
  |none=>exact hL
  |some t=>simp only[decide_eq_true_eq]at h7;exact fun q=>hL (by rw[getD_set_ne false (azR h7)];exact q)
 ·cases q:l'.getD u false with
  |false=>rfl
  |true=>have:=jM A7 _ _ _ hru q;rw[vC Tc]at this;cases this
theorem amo{id:Nat}{Q:Exit→Act→World→Prop}(s t:Option Nat)(L:List (Nat×Array Value×TypeId))(u:Nat)(K:World→Prop){n:Nat}(h:dP r l.toArray (fun a w=>Q .normal a w) (D3 s t w L u K) n aj a w.drew)(hn:l.length=n:=by rfl)(hl:Array.replicate n false=aj:=by rfl):WC r (.region id l.toArray true) Q a w:=by subst hn;subst hl;exact XN _ h
end
theorem DL(h:Q a w):nW Q .normal a w:=h
end
section
open Go.RowKit
theorem XS{r:Option Nat}{l:List Oper}{Q:Act→World→Prop}{D:Array Bool→World→Prop}{fuel:Nat}{aj listed1 listed2:Array Bool}{a:Act}{w:World}{oi oj:Oper}(i j:Nat)(hoi:(l.drop i).head?=some oi)(GI:(l.drop j).head?=some oj)(h:∀w',Bw w w'→D aj w'∧WL r l.toArray (nW fun a' w'=>dP r l.toArray Q D fuel listed1 a' w') [oi] a w'∧WL r l.toArray (nW fun a' w'=>dP r l.toArray Q D fuel listed2 a' w') [oj] a w')(hr:Region.ready .any l.toArray aj=[i,j]:=by kernel_rfl)(wi:aj.setIfInBounds i true=listed1:=by kernel_rfl)(v8:aj.setIfInBounds j true=listed2:=by kernel_rfl):dP r l.toArray Q D (fuel+1) aj a w:=by
 subst wi;subst v8;have TX:l.toArray[i]?=some oi:=by rw[azf]at hoi;simpa using hoi
 have TY:l.toArray[j]?=some oj:=by rw[azf]at GI;simpa using GI
 intro w' hb;obtain⟨hD,h1,h2⟩:=h w' hb;refine⟨hD,fun q=>(by rw[hr]at q;cases q),fun k hk=>?_⟩;rw[hr]at hk;have KJ:k=i∨k=j:=by simpa using hk
 rcases KJ with rfl|rfl;·exact pB TX h1
 ·exact pB TY h2
end
section
open Go.RowKit
variable{k2:IntKind}{j:Nat}
def dM(k:IntKind)(m n:Int):Int:=k.wrap ((BitVec.ofInt k.bits m^^^BitVec.ofInt k.bits n).toNat:Int)
def Lt(k:IntKind)(m n:Int):Int:=k.wrap ((BitVec.ofInt k.bits m|||BitVec.ofInt k.bits n).toNat:Int)
def afU(k:IntKind)(m n:Int):Int:=k.wrap ((BitVec.ofInt k.bits m&&&BitVec.ofInt k.bits n).toNat:Int)
def fF(k:IntKind)(m:Int)(n:Nat):Int:=m.fdiv (2^(min n k.bits))
def nZ(k:IntKind)(m:Int)(n:Nat):Int:=k.wrap (m*2^(min n k.bits))
section
variable{w:World}{a:Act}{o:Oper}{x y:Operand}{t t':TypeId}{m n s:Int}{k:IntKind}
theorem qw(hx:a.eval x=.int k m)(hy:a.eval y=.int k n)(h:k.wrap (m+n)=s)(ho:o.op=.binOp .add t x y t':=by rfl):(execOp a.eval o).run Tryz.prog w=.ok (.value (.int k s)) w:=gK ho hx hy rfl (by subst h;simp[binOp,Op.intArith])
theorem DM(hx:a.eval x=.int k m)(hy:a.eval y=.int k n)(h:k.wrap (m-n)=s)(ho:o.op=.binOp .sub t x y t':=by rfl):(execOp a.eval o).run Tryz.prog w=.ok (.value (.int k s)) w:=gK ho hx hy rfl (by subst h;simp[binOp,Op.intArith])
theorem mc(hx:a.eval x=.int k m)(hy:a.eval y=.int k n)(h:dM k m n=s)(ho:o.op=.binOp .xor t x y t':=by rfl):(execOp a.eval o).run Tryz.prog w=.ok (.value (.int k s)) w:=gK ho hx hy rfl (by subst h;simp[binOp,Op.intBits,dM])
theorem PE(hx:a.eval x=.int k m)(hy:a.eval y=.int k n)(h:Lt k m n=s)(ho:o.op=.binOp .or t x y t':=by rfl):(execOp a.eval o).run Tryz.prog w=.ok (.value (.int k s)) w:=gK ho hx hy rfl (by subst h;simp[binOp,Op.intBits,Lt])
theorem JJ(hx:a.eval x=.int k m)(hy:a.eval y=.int k n)(h:afU k m n=s)(ho:o.op=.binOp .and t x y t':=by rfl):(execOp a.eval o).run Tryz.prog w=.ok (.value (.int k s)) w:=gK ho hx hy rfl (by subst h;simp[binOp,Op.intBits,afU])
theorem XT(hx:a.eval x=.int k m)(h:dM k (if k.signed then-1 else k.max) m=s)(ho:o.op=.unOp .xor t x:=by rfl):(execOp a.eval o).run Tryz.prog w=.ok (.value (.int k s)) w:=by subst h;unfold execOp;simp[ho,hx,Op.unary,Op.intBits,dM]
theorem mD(hx:a.eval x=.int k m)(hy:a.eval y=.int k2 n)(hn:n=(j:Int))(h:fF k m j=s)(ho:o.op=.binOp .shr t x y t':=by rfl):(execOp a.eval o).run Tryz.prog w=.ok (.value (.int k s)) w:=by
 subst h;subst hn;unfold execOp;simp only[ho,hx,hy];have hg:(eqGuard .shr t x y (.int k m) (.int k2 j)).run Tryz.prog w=.ok () w:=rfl;have hj:¬((j:Int)<0):=by omega
 simp[Sem.run_bind,hg,binOp,Op.shift,fF,hj]
theorem ur(hx:a.eval x=.int k m)(hy:a.eval y=.int k2 n)(hn:n=(j:Int))(h:nZ k m j=s)(ho:o.op=.binOp .shl t x y t':=by rfl):(execOp a.eval o).run Tryz.prog w=.ok (.value (.int k s)) w:=by
 subst h;subst hn;unfold execOp;simp only[ho,hx,hy];have hg:(eqGuard .shl t x y (.int k m) (.int k2 j)).run Tryz.prog w=.ok () w:=rfl;have hj:¬((j:Int)<0):=by omega
 simp[Sem.run_bind,hg,binOp,Op.shift,nZ,hj]
theorem dA(hx:a.eval x=.int k m)(hy:a.eval y=.int k n)(h0:n≠0)(h:m.tmod n=s)(ho:o.op=.binOp .rem t x y t':=by rfl):(execOp a.eval o).run Tryz.prog w=.ok (.value (.int k s)) w:=gK ho hx hy rfl (by subst h;simp[binOp,Op.intDiv,h0])
theorem iZ{src dst:TypeId}{d:TypeDesc}(hs:Tryz.prog.underlying src=some d)(hd:Tryz.prog.underlying dst=some (.int k))(hx:a.eval x=.int k2 m)(h:k.wrap m=s)(ho:o.op=.convert src dst x:=by rfl):(execOp a.eval o).run Tryz.prog w=.ok (.value (.int k s)) w:=by subst h;unfold execOp;simp[ho,hx,convert,run_underlying hs,run_underlying hd,Sem.run_bind,Conv.intToInt]
end
end
section
open Go.RowKit
variable{f:FuncId}{fn:Func}{args:Array Value}{w:World}{R:Ending→World→Prop}
abbrev qy(f:FuncId)(args:Array Value)(w:World)(R:Ending→World→Prop):Prop:=CallsDIn (FW none) 0 Tryz.prog f args .returning w fun e u' w'=>u'=.returning∧R e w'
theorem PF{c:Code}(hf:Tryz.prog.funcs[f]?=some fn)(h:WC none c (ud fn R) {tmps:=args++Array.replicate (fn.ntmps-args.size) undef,defers:=[]} w)(hb:fn.body=some c:=by rfl):qy f args w R:=callsDIn_of_wp (F:=FW none) (n:=0) hf hb trivial h.out
theorem qy.mono{R':Ending→World→Prop}(h:qy f args w R)(hr:∀e w',R e w'→R' e w'):qy f args w R':=CallsDIn.mono h fun e u' w' q=>⟨q.1,hr e w' q.2⟩
section
variable{ops:Array Oper}{Q:Exit→Act→World→Prop}{a:Act}{w:World}{rest:List Oper}{o:Oper}
theorem JK{xs:Array Operand}{ts:Array TypeId}(args:Array Value)(h:WL none ops Q rest ({a with defers:=⟨.fn (.func f) #[],args⟩::a.defers}.put o.dst undef) w)(kg:o.op=.defer {callee:=.value (.func f),args:=xs,argTypes:=ts}:=by rfl)(ft:xs.map a.eval=args:=by(simp only[ayH,ayC,ayB];rfl))(hw:Region.wanted o (yielded ops a.tmps)=true:=by rfl):WL none ops Q (o::rest) a w:=by
 refine⟨wpListIn_step fun K hK=>?_⟩;rw[if_pos hw];refine⟨fun _ _=>trivial,?_⟩;have hr:(o.semAt none a.eval).run Tryz.prog w=.ok (.defer ⟨.fn (.func f) #[],args⟩) w:=by unfold Oper.semAt execOp;simp[kg,resolve,Deferred.ofValue,Act.eval,ft]
 show Oper.uponIn _ _ _ _ _ _ _ ((o.semAt none a.eval).run Tryz.prog w);rw[hr];exact hK _ _ h.out
theorem pG{fd:Func}{v:Value}(hf:Tryz.prog.funcs[f]?=some fd)(hd:a.defers=[⟨.fn (.func f) #[],args⟩])(hc:qy f args w fun e w'=>(∃u,e=.returned u)∧∃v,(results fn a.tmps).run Tryz.prog w'=.ok v w'∧R (.returned v) w')(fQ:(fd.name== "runtime.NumGoroutine")=false:=by kernel_rfl)(hb:fd.body.isSome=true:=by rfl):o8 fn R .ret a w:=by
 show LeavesInM _ _ _ _ _ _ a.defers _ _;rw[hd];refine⟨by simp,.inr ⟨fun h=>(by cases h),.func f,#[],f,args,rfl,?_,fun _ _=>trivial,?_⟩⟩;·show(callFunc f (args++#[])).run Tryz.prog w=_;rw[Array.append_empty];exact oA hf fQ hb args w
 ·refine CallsDIn.mono hc fun e u' w' q=>?_;obtain⟨rfl,⟨u,rfl⟩,v,hv,hR⟩:=q;exact⟨v,hv,hR⟩
end
end
section
open Go.RowKit
variable{l:List Value}{i g n id:Nat}{y:Value}{t ty:TypeId}{x:Operand}{f:FuncId}{args:Array Value}{r:Option Nat}{a:Act}{w:World}{Q:Exit→Act→World→Prop}{aj:Array Bool}
theorem LT{l l':Array Bool}(h:l.setIfInBounds i true=l':=by(simp only[ayI,ayU,ayT];rfl)):l.setIfInBounds i true=l':=h
section
variable{ops:Array Oper}{C:World→Prop}{o:Oper}{v:Value}{a:Act}{W:World}{L:List (Nat×Array Value×TypeId)}
theorem yx(hx:XR a o v)(hw:Region.wanted o (yielded ops a.tmps)=true):YC ops C o v a:=yq (fun w _=>hx w) hw
theorem yl(ho:o.op=.load ty x)(hp:Hp W L)(hx:a.eval x=.pointer (some ⟨g,i,none⟩))(hk:Kn L g (y::l).toArray t)(hv:(s4 (y::l) i).bind nb=some v)(hu:ki ty Y4=true)(hw:Region.wanted o (yielded ops a.tmps)=true):YC ops (fun w=>Bw W w) o v a:=yq (fun w hb=>Jb ((hp.kn hk).below hb) ho hx hv hu) hw
theorem yh(ho:o.op=.load ty x)(hx:a.eval x=.pointer (some ⟨g,i,none⟩))(hk:Kn L g (y::l).toArray t)(hv:(s4 (y::l) i).bind nb=some v)(hu:ki ty Y4=true)(hw:Region.wanted o (yielded ops a.tmps)=true):YC ops (fun w=>Hp w L) o v a:=yq (fun w hp=>Jb (hp.kn hk) ho hx hv hu) hw
theorem yal{vs:List Value}(ho:o.op=.load ty x)(hu:xH ty agT=some n)(hp:Hp W L)(hx:a.eval x=.pointer (some ⟨g,i,none⟩))(hk:Kn L g (y::l).toArray t)(hn:Nat.ble (i+n) (y::l).length=true)(hv:NQ (y::l) i n=vs)(hw:Region.wanted o (yielded ops a.tmps)=true):YC ops (fun w=>Bw W w) o (.agg vs.toArray) a:=yq (fun w hb=>Oo ((hp.kn hk).below hb) ho hx hu hn hv) hw
theorem YA(h:YC ops C o v a:=by first|exact ysk (by rfl)|exact yl rfl hp rfl KN (by rfl) (by rfl) (by rfl)|exact yh rfl rfl KN (by rfl) (by rfl) (by rfl)|exact yx XRA (by rfl)|exact yal rfl (by rfl) hp rfl KN (by rfl) (by simp only[Tr,Ts,Tt];rfl) (by rfl)):YC ops C o v a:=h
theorem yc{xs:Array Operand}{ts:Array TypeId}(hc:∀w,C w→CP f args w fun e w'=>e=.returned v∧Bw w w')(kg:o.op=.call {callee:=.value (.func f),args:=xs,argTypes:=ts}:=by rfl)(hf:ki f KH=true:=by rfl)(ft:xs.map a.eval=args:=by first|(simp only[ayH,ayC,ayB];rfl)|simp only[ayH,ayB])(hw:Region.wanted o (yielded ops a.tmps)=true:=by rfl):YC ops C o v a:=by obtain⟨fn,h1,h2,h3⟩:=Ja hf;exact yca h1 args hc h2 h3 kg ft hw
end
section
variable{r:Option Nat}{l:List Oper}{Q:Act→World→Prop}{W w:World}{s t:Option Nat}{L:List (Nat×Array Value×TypeId)}{fuel:Nat}{aj bN:Array Bool}{a a':Act}{v:Value}{oi:Oper}{u:Nat}{K:World→Prop}
theorem af(i:Nat)(h:dP r l.toArray Q (DX s t W L) fuel bN a' w)(mv:(l.drop i).head?=some oi:=by rfl)(hy:YC l.toArray (fun w=>Bw W w) oi v a:=by exact YA)(hc:Fy l.toArray aj i s t=true:=by kernel_rfl)(hl:aj.setIfInBounds i true=bN:=by exact LT)(ha:a.put oi.dst v=a':=by exact PT):dP r l.toArray Q (DX s t W L) (fuel+1) aj a w:=a_f i mv hy h hc hl ha
theorem ah(i:Nat)(h:dP r l.toArray Q (DX s t W L) fuel bN a' w)(mv:(l.drop i).head?=some oi:=by rfl)(hy:YC l.toArray (fun w=>Hp w L) oi v a:=by exact YA)(hc:Fz l.toArray aj i s t=true:=by kernel_rfl)(hl:aj.setIfInBounds i true=bN:=by exact LT)(ha:a.put oi.dst v=a':=by exact PT):dP r l.toArray Q (DX s t W L) (fuel+1) aj a w:=a_h i mv hy h hc hl ha
theorem ap(i:Nat)(h:dP r l.toArray Q (DX s t W L) fuel bN a' w)(mv:(l.drop i).head?=some oi:=by rfl)(hy:YC l.toArray (fun _=>True) oi v a:=by exact YA)(hc:HH l.toArray aj i s t=true:=by kernel_rfl)(hl:aj.setIfInBounds i true=bN:=by exact LT)(ha:a.put oi.dst v=a':=by exact PT):dP r l.toArray Q (DX s t W L) (fuel+1) aj a w:=a_p i mv hy h hc hl ha
theorem gI(v:Value)(i:Nat)(mv:(l.drop i).head?=some oi)(hy:YC l.toArray (fun w=>Bw W w) oi v a)(h:dP r l.toArray Q (DX s t W L) fuel bN a' w)(hc:Fy l.toArray aj i s t=true:=by kernel_rfl)(hl:aj.setIfInBounds i true=bN:=by exact LT)(ha:a.put oi.dst v=a':=by exact PT):dP r l.toArray Q (DX s t W L) (fuel+1) aj a w:=a_f i mv hy h hc hl ha
theorem NU(v:Value)(i:Nat)(mv:(l.drop i).head?=some oi)(hy:YC l.toArray (fun w=>Hp w L) oi v a)(h:dP r l.toArray Q (DX s t W L) fuel bN a' w)(hc:Fz l.toArray aj i s t=true:=by kernel_rfl)(hl:aj.setIfInBounds i true=bN:=by exact LT)(ha:a.put oi.dst v=a':=by exact PT):dP r l.toArray Q (DX s t W L) (fuel+1) aj a w:=a_h i mv hy h hc hl ha
theorem aps(v:Value)(i:Nat)(mv:(l.drop i).head?=some oi)(hy:YC l.toArray (fun _=>True) oi v a)(h:dP r l.toArray Q (DX s t W L) fuel bN a' w)(hc:HH l.toArray aj i s t=true:=by kernel_rfl)(hl:aj.setIfInBounds i true=bN:=by exact LT)(ha:a.put oi.dst v=a':=by exact PT):dP r l.toArray Q (DX s t W L) (fuel+1) aj a w:=a_p i mv hy h hc hl ha
theorem bf(i:Nat)(h:dP r l.toArray Q (D3 s t W L u K) fuel bN a' w)(mv:(l.drop i).head?=some oi:=by rfl)(hy:YC l.toArray (fun w=>Bw W w) oi v a:=by exact YA)(hu:(u==i)=false:=by rfl)(hc:Fy l.toArray aj i s t=true:=by kernel_rfl)(hl:aj.setIfInBounds i true=bN:=by exact LT)(ha:a.put oi.dst v=a':=by exact PT):dP r l.toArray Q (D3 s t W L u K) (fuel+1) aj a w:=b_f i mv hy h hu hc hl ha
theorem bh(i:Nat)(h:dP r l.toArray Q (D3 s t W L u K) fuel bN a' w)(mv:(l.drop i).head?=some oi:=by rfl)(hy:YC l.toArray (fun w=>Hp w L) oi v a:=by exact YA)(hu:(u==i)=false:=by rfl)(hc:Fz l.toArray aj i s t=true:=by kernel_rfl)(hl:aj.setIfInBounds i true=bN:=by exact LT)(ha:a.put oi.dst v=a':=by exact PT):dP r l.toArray Q (D3 s t W L u K) (fuel+1) aj a w:=b_h i mv hy h hu hc hl ha
theorem bfs(v:Value)(i:Nat)(mv:(l.drop i).head?=some oi)(hy:YC l.toArray (fun w=>Bw W w) oi v a)(h:dP r l.toArray Q (D3 s t W L u K) fuel bN a' w)(hu:(u==i)=false:=by rfl)(hc:Fy l.toArray aj i s t=true:=by kernel_rfl)(hl:aj.setIfInBounds i true=bN:=by exact LT)(ha:a.put oi.dst v=a':=by exact PT):dP r l.toArray Q (D3 s t W L u K) (fuel+1) aj a w:=b_f i mv hy h hu hc hl ha
theorem bhs(v:Value)(i:Nat)(mv:(l.drop i).head?=some oi)(hy:YC l.toArray (fun w=>Hp w L) oi v a)(h:dP r l.toArray Q (D3 s t W L u K) fuel bN a' w)(hu:(u==i)=false:=by rfl)(hc:Fz l.toArray aj i s t=true:=by kernel_rfl)(hl:aj.setIfInBounds i true=bN:=by exact LT)(ha:a.put oi.dst v=a':=by exact PT):dP r l.toArray Q (D3 s t W L u K) (fuel+1) aj a w:=b_h i mv hy h hu hc hl ha
theorem bks(v:Value)(i:Nat)(mv:(l.drop i).head?=some oi)(hy:YC l.toArray K oi v a)(h:dP r l.toArray Q (D3 s t W L u K) fuel bN a' w)(hu:(u==i)=false:=by rfl)(hru:uo l.toArray l.length u i=true:=by kernel_rfl)(hc:HH l.toArray aj i s t=true:=by kernel_rfl)(hl:aj.setIfInBounds i true=bN:=by exact LT)(ha:a.put oi.dst v=a':=by exact PT):dP r l.toArray Q (D3 s t W L u K) (fuel+1) aj a w:=b_k i mv hy h hu hru hc hl ha
end
theorem pH{l:List Oper}(n:Nat)(s t:Option Nat)(L:List (Nat×Array Value×TypeId))(h:Bw w w→dP r l.toArray (fun a w=>Q .normal a w) (DX s t w L) n aj a w.drew)(hn:l.length=n:=by rfl)(hl:Array.replicate n false=aj:=by(simp only[azA,azB,azM,azj,azh];rfl)):WC r (.region id l.toArray true) Q a w:=afL s t L (h (Below.refl _ _)) hn hl
theorem tT{l:List Oper}(n:Nat)(s t:Option Nat){L:List (Nat×Array Value×TypeId)}(h:Bw w w→dP r l.toArray (fun a w=>Q .normal a w) (DX s t w L) n aj a w.drew)(hp:Hp w L:=by exact hp)(hn:l.length=n:=by rfl)(hl:Array.replicate n false=aj:=by(simp only[azA,azB,azM,azj,azh];rfl)):WC r (.region id l.toArray true) Q a w:=afL s t L (h (Below.refl _ _)) hn hl
theorem aaN{l:List Oper}(n:Nat)(s t:Option Nat)(L:List (Nat×Array Value×TypeId))(u:Nat)(K:World→Prop)(h:Bw w w→dP r l.toArray (fun a w=>Q .normal a w) (D3 s t w L u K) n aj a w.drew)(hn:l.length=n:=by rfl)(hl:Array.replicate n false=aj:=by(simp only[azA,azB,azM,azj,azh];rfl)):WC r (.region id l.toArray true) Q a w:=amo s t L u K (h (Below.refl _ _)) hn hl
section
variable{r:Option Nat}{l:List Oper}{Q:Act→World→Prop}{D:Array Bool→World→Prop}{W w:World}{L:List (Nat×Array Value×TypeId)}{fuel:Nat}{aj bN listed2:Array Bool}{a:Act}{o oj:Oper}
theorem aS(k:Nat)(h:∀w',Bw w w'→Hp w' L→Bw W w'→WL r l.toArray (nW fun a' w'=>dP r l.toArray Q D fuel bN a' w') [o] a w')(bl:Bw W w:=by exact bl)(hp:Hp w L:=by exact hp)(hD:∀w',Bw w w'→D aj w':=by(intro w' hb;exact⟨by first|exact aR (by rfl)|exact br (U bl hb),by first|exact yN (by rfl)|exact az (hp.below hb)⟩))(ho:(l.drop k).head?=some o:=by rfl)(hr:Region.ready .any l.toArray aj=[k]:=by kernel_rfl)(hl:aj.setIfInBounds k true=bN:=by exact LT):dP r l.toArray Q D (fuel+1) aj a w:=wH (by rw[azf]at ho;simpa using ho) hr hl fun w' hb=>⟨hD w' hb,h w' hb (hp.below hb) (U bl hb)⟩
theorem nF(k:Nat)(h:∀w',Bw w w'→Hp w' L→Bw W w'→WL r l.toArray (nW fun a' w'=>dP r l.toArray Q D fuel bN a' w') [o] a w')(bl:Bw W w:=by exact bl)(hp:Hp w L:=by exact hp)(hD:∀w',Bw w w'→D aj w':=by(intro w' hb;exact⟨by first|exact aR (by rfl)|exact br (U bl hb),by first|exact yN (by rfl)|exact az (hp.below hb)⟩))(ho:(l.drop k).head?=some o:=by rfl)(hr:Region.ready .any l.toArray aj=[k]:=by kernel_rfl)(hl:aj.setIfInBounds k true=bN:=by exact LT):dP r l.toArray Q D (fuel+1) aj a w.drew:=wH (by rw[azf]at ho;simpa using ho) hr hl fun w' hb=>have hb:=cd hb;⟨hD w' hb,h w' hb (hp.below hb) (U bl hb)⟩
theorem aD(k:Nat)(h:∀w',Bw w w'→Hp w' L→WL r l.toArray (nW fun a' w'=>dP r l.toArray Q D fuel bN a' w') [o] a w')(hp:Hp w L:=by exact hp)(hD:∀w',Bw w w'→D aj w':=by(intro w' hb;exact⟨aR (by rfl),by first|exact yN (by rfl)|exact az (hp.below hb)⟩))(ho:(l.drop k).head?=some o:=by rfl)(hr:Region.ready .any l.toArray aj=[k]:=by kernel_rfl)(hl:aj.setIfInBounds k true=bN:=by exact LT):dP r l.toArray Q D (fuel+1) aj a w:=wH (by rw[azf]at ho;simpa using ho) hr hl fun w' hb=>⟨hD w' hb,h w' hb (hp.below hb)⟩
theorem aE(h:∀w',Bw w w'→Hp w' L→Q a w')(hp:Hp w L:=by exact hp)(hD:∀w',Bw w w'→D aj w':=by(intro w' hb;exact⟨by first|exact aR (by rfl)|exact br (U bl hb),by first|exact yN (by rfl)|exact az (hp.below hb)⟩))(hr:Region.ready .any l.toArray aj=[]:=by kernel_rfl):dP r l.toArray Q D fuel aj a w:=XO hr (fun w' hb=>⟨hD w' hb,h w' hb (hp.below hb)⟩) fuel
end
theorem feD{fn:Func}{c:Code}{t:Array Value}{R:Ending→World→Prop}(hf:Tryz.prog.funcs[f]?=some fn)(hn:fn.ntmps=n)(h:WC none c (ud fn R) {tmps:=t,defers:=[]} w)(hb:fn.body=some c:=by rfl)(ht:args++Array.replicate (n-args.size) undef=t:=by(simp only[azL,ayJ,ayY,Nat.reduceAdd,Nat.reduceSub,azA,azB,azM,azO,azj,azh];rfl)):qy f args w R:=PF hf (by rw[hn,ht];exact h) hb
end
section
open Go.RowKit
variable{a:Act}{K:Act→Prop}{K':Act→World→Prop}{Q':Exit→Act→World→Prop}{w:World}
section
variable{P:Program}{ops:Array Oper}{md:Region.Mode}{C:World→Prop}{n:Nat}
theorem semAt_none(o:Oper)(ρ:Operand→Value):o.semAt none ρ=execOp ρ o:=by unfold Oper.semAt;rfl
theorem Ak{o:Oper}(hw:C w)(h:∀a w',C w'→K a→K' a w')(hh:o.quiet P a C K):o.wpIn (FW none) n P a w K' Q':=by
 obtain⟨v,h1,h2⟩:=hh;have h3:=h1 w hw;unfold Oper.quietAt at h3;unfold Oper.wpIn;refine⟨fun _ _=>trivial,?_⟩;show Oper.uponIn _ _ _ _ _ _ _ ((o.semAt none a.eval).run P w);rw[semAt_none];generalize (execOp a.eval o).run P w=res at*;cases res with
 |ok nx w'=>
  cases nx<;>simp only[Oper.quietUpon]at h3<;>simp only[Oper.uponIn];case value u=>obtain⟨e1,e2⟩:=h3;rw[e1,e2];exact h _ _ hw h2
  case skip=>obtain⟨e1,e2⟩:=h3;rw[e1,←e2];exact h _ _ hw h2
  case enter f args=>obtain⟨e1,hc⟩:=h3;rw[e1];exact⟨fun h=>(by cases h),sD (hc.mono fun e w'' ⟨he,YY⟩=>by subst he;exact h _ _ YY h2)⟩
 |halt x w'=>simp only[Oper.quietUpon]at h3
theorem Al{i:Nat}(hC:C w)(h:∀a w',C w'→K a→K' a w')(hh:qOp P ops C i K a):wpOpIn (FW none) n P ops Q' i K' a w:=by
 unfold qOp at hh;unfold wpOpIn;split;·rename_i ho;simp only[ho]at hh;exact h _ _ hC hh
 ·rename_i o ho;simp only[ho]at hh;split;·rename_i hw;simp only[hw,if_true]at hh;exact Ak hC h hh
  ·rename_i hw;simp only[hw]at hh;exact⟨fun _ _=>trivial,h _ _ hC hh⟩
theorem sq{m g:Nat}{L:Array Bool→Act→Prop}{Q':Exit→Act→World→Prop}(hL:∀aj a w,C w→L aj a→wpAnyIn (FW none) n P md ops Q' g aj a w):∀(f:Nat) (aj:Array Bool) (a:Act) (w:World),C w→pZ P md ops C m L f aj a→wpAnyIn (FW none) n P md ops Q' (f+g) aj a w
 |0,aj,a,w,hw,h=>by rw[ayR];exact hL _ _ _ hw h
 |f+1,aj,a,w,hw,h=>by rw[show f+1+g=(f+g)+1 by omega];exact⟨fun h0=>absurd h0 h.1,fun i hi=>Al hw (fun a' w' GR h'=>sq hL f _ a' w' GR h') (h.2 i hi).2⟩
end
theorem ag3{id:Nat}{l:List Oper}{Q:Exit→Act→World→Prop}(m:Nat)(C:World→Prop)(hC:C w.drew)(h:WQ Tryz.prog l.toArray C (fun a'=>∀w',C w'→WL none l.toArray Q (l.drop m) a' w') (l.take m) a)(hB:Region.lexTailB .any l.toArray m=true:=by kernel_rfl):WC none (.region id l.toArray true) Q a w:=by
 simp only[Region.lexTailB,ayF,decide_eq_true_eq]at hB;obtain⟨⟨⟨⟨uN,hn⟩,hs⟩,hc⟩,Oh⟩:=hB;have hn':m<l.length:=by simpa using hn
 have I3:(l.take m).length=m:=by simp;omega
 have KF:(l.drop m).length=l.toArray.size-m:=by simp
 have GU:HeadInv .any l.toArray m (Array.replicate l.toArray.size false):=⟨by simp,fun j oj _ hl=>(by rw[getD_replicate_false]at hl;cases hl),fun t _ ht=>getD_in (by simpa using ht) (getD_replicate_false _ _)⟩
 have H:=uO (P:=Tryz.prog) (C:=C) (md:=.any) (g:=l.toArray.size-m) uN hs hc hn (l.take m) 0 _ a (fun j hj=>by
  have NO:j<m:=by rw[I3]at hj;exact hj
  simp[NO]) (by simpa using I3) GU (by rw[I3];exact Oh) h.out
 refine⟨wpIn_region_any kr ?_⟩;have:=sq (n:=0) (Q':=Q) (g:=l.toArray.size-m) (fun aj a' w' GR hL=>by have:=nO (P:=Tryz.prog) (md:=.any) (r:=none) (n:=0) (Q':=Q) (l.drop m) m aj a' w' (fun j=>by simp[azi]) (by rw[KF];exact hL.1) (hL.2 w' GR).out;rwa[KF]at this) _ _ _ _ hC H;rw[I3,show m+(l.toArray.size-m)=l.toArray.size by omega]at this;exact this
end
end Go.Proofs.YtdkpbpjcbkibiaaGreatDoor.B
