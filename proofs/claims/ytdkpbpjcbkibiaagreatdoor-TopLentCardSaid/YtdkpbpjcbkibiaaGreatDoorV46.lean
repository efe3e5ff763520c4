/- Ra Rb Rc -/
import Derived.Test.YtdkpbpjcbkibiaaGreatDoorV1
import Derived.Test.YtdkpbpjcbkibiaaGreatDoorV42
set_option linter.all false
set_option maxRecDepth 100000
set_option maxHeartbeats 4000000
namespace Go.Proofs.YtdkpbpjcbkibiaaGreatDoor.B
open Go.RowKit
section
open Go.RowKit
variable{t ty:TypeId}{k:IntKind}{n m g:Nat}{c:Code}{v:Value}{r:Option Nat}{C G1:World→Prop}{a:Act}{o:Oper}{x:Operand}{p:Int}{L:List (Nat×Array Value×TypeId)}{cs:Array Value}{w W:World}{Q:Exit→Act→World→Prop}{G G':Prop}{S:Nat→Prop}{G2:Nat→World→Prop}{fa:Nat→Act}{f:List (Nat×Value)}
def aaP(C:World→Prop)(a:Act)(o:Oper)(v:Value):Prop:=∀w,C w→(execOp a.eval o).run Tryz.prog w=.ok (.value v) w
def kdT:Nat→Option IntKind
 |3=>some .i64
 |5=>some .u8
 |105=>some .u64
 |267=>some .u64
 |_=>none
def ae5:Nat→Option (Nat×IntKind)
 |31=>some (32,.u8)
 |268=>some (8,.u64)
 |310=>some (16,.u64)
 |_=>none
theorem ag1{t:Nat}(h:kdT t=some k):Tryz.prog.underlying t=some (.int k):=by
 unfold kdT at h;split at h<;>cases h;·exact U3
 ·exact U5
 ·exact U105
 ·exact U267
theorem ajj{t:Nat}(h:ae5 t=some (n,k)):∃e,Tryz.prog.underlying t=some (.array n e)∧(Tryz.prog.info? e).map (·.size)=some 1∧(Tryz.prog.info? t).map (·.zero)=some (some (.agg (aH k n fun _=>0)))∧(Tryz.prog.info? t).map (·.size)=some n:=by
 unfold ae5 at h;split at h<;>cases h;·exact⟨_,U31,by kernel_rfl,by kernel_rfl,by kernel_rfl⟩
 ·exact⟨_,U268,by kernel_rfl,by kernel_rfl,by kernel_rfl⟩
 ·exact⟨_,U310,by kernel_rfl,by kernel_rfl,by kernel_rfl⟩
section
variable{C:World→Prop}{a:Act}{o:Oper}{x y:Operand}{t t':TypeId}{m n r:Nat}{p q:Int}{k k2:IntKind}{g:Nat}
theorem aq6(ho:o.op=.binOp .add t x y t')(hx:a.eval x=i6 p)(hy:a.eval y=i6 q)(e1:p=(m:Int))(e2:q=(n:Int))(h:m+n<4000000000)(e:m+n=r):aaP C a o (i6 (r:Int)):=fun w _=>by subst e1;subst e2;exact aC hx hy (by subst e;unfold wrap64;omega) ho
theorem aq7(ho:o.op=.binOp .sub t x y t')(hx:a.eval x=i6 p)(hy:a.eval y=i6 q)(e1:p=(m:Int))(e2:q=(n:Int))(h:n≤m∧m<4000000000)(e:m-n=r):aaP C a o (i6 (r:Int)):=fun w _=>by subst e1;subst e2;exact fH hx hy (by subst e;unfold wrap64;omega) ho
theorem aq8(ho:o.op=.binOp .mul t x y t')(hx:a.eval x=i6 p)(hy:a.eval y=i6 q)(e1:p=(m:Int))(e2:q=(n:Int))(h:m*n<4000000000)(e:m*n=r):aaP C a o (i6 (r:Int)):=fun w _=>by subst e1;subst e2;exact dZ hx hy (by subst e;rw[Int.natCast_mul];unfold wrap64;have:((m*n:Nat):Int)=(m:Int)*n:=Int.natCast_mul m n;omega) ho
theorem aq9(ho:o.op=.binOp .quo t x y t')(hx:a.eval x=i6 p)(hy:a.eval y=i6 q)(e1:p=(m:Int))(e2:q=(n:Int))(h:0<n∧m<4000000000)(e:m/n=r):aaP C a o (i6 (r:Int)):=fun w _=>by subst e1;subst e2;subst e;refine pf hx hy om ?_ ho;have:m/n≤m:=Nat.div_le_self m n;rw[show Int.tdiv (m:Int) (n:Int)=((m/n:Nat):Int)from rfl];generalize m/n=z at*;unfold wrap64;omega
theorem ara(ho:o.op=.binOp .rem t x y t')(hx:a.eval x=i6 p)(hy:a.eval y=i6 q)(e1:p=(m:Int))(e2:q=(n:Int))(h:0<n)(e:m%n=r):aaP C a o (i6 (r:Int)):=fun w _=>by subst e1;subst e2;exact dA hx hy om (by subst e;rfl) ho
theorem arb(ho:o.op=.binOp .sub t x y t')(hx:a.eval x=.int .u64 p)(hy:a.eval y=.int .u64 q)(e1:p=(m:Int))(e2:q=(n:Int))(h:n≤m∧m<4000000000)(e:m-n=r):aaP C a o (.int .u64 (r:Int)):=fun w _=>by subst e1;subst e2;exact DM hx hy (by subst e;unfold IntKind.wrap;simp[IntKind.signed,IntKind.bits];omega) ho
theorem arp(ho:o.op=.binOp .add t x y t')(hx:a.eval x=.int k p)(hy:a.eval y=.int k q):aaP C a o (.int k (k.wrap (p+q))):=fun w _=>qw hx hy rfl ho
theorem ars(ho:o.op=.binOp .xor t x y t')(hx:a.eval x=.int k p)(hy:a.eval y=.int k q):aaP C a o (.int k (dM k p q)):=fun w _=>mc hx hy rfl ho
theorem art(ho:o.op=.binOp .or t x y t')(hx:a.eval x=.int k p)(hy:a.eval y=.int k q):aaP C a o (.int k (Lt k p q)):=fun w _=>PE hx hy rfl ho
theorem aru(ho:o.op=.binOp .shl t x y t')(hx:a.eval x=.int k p)(hy:a.eval y=.int k2 q)(e2:q=(m:Int)):aaP C a o (.int k (nZ k p m)):=fun w _=>ur hx hy e2 rfl ho
theorem arv(ho:o.op=.binOp .shr t x y t')(hx:a.eval x=.int k p)(hy:a.eval y=.int k2 q)(e2:q=(m:Int)):aaP C a o (.int k (fF k p m)):=fun w _=>mD hx hy e2 rfl ho
theorem arx(ho:o.op=.unOp .xor t x)(hx:a.eval x=.int k p):aaP C a o (.int k (dM k (if k.signed then-1 else k.max) p)):=fun w _=>XT hx rfl ho
theorem ary(ho:o.op=.convert t t' x)(hx:a.eval x=.int k p)(h1:(kdT t).isSome=true)(h2:kdT t'=some k2):aaP C a o (.int k2 (k2.wrap p)):=fun w _=>by obtain⟨_,h1⟩:=ayA.1 h1;exact iZ (ag1 h1) (ag1 h2) hx rfl ho
theorem arz(ho:o.op=.convert t t' x)(hx:a.eval x=.int k p)(e1:p=(m:Int))(h:m<128)(h1:(kdT t).isSome=true)(h2:kdT t'=some k2):aaP C a o (.int k2 (m:Int)):=fun w _=>by subst e1;obtain⟨_,h1⟩:=ayA.1 h1;refine iZ (ag1 h1) (ag1 h2) hx ?_ ho;unfold kdT at h2;split at h2<;>cases h2<;>(unfold IntKind.wrap;simp[IntKind.signed,IntKind.bits];omega)
theorem aqh(ho:o.op=.indexAddr t x y)(hx:a.eval x=pA g 0)(hy:a.eval y=i6 p)(e1:p=(m:Int))(hu:ae5 t=some (n,k))(h:m<n):aaP C a o (pA g m):=fun w _=>by subst e1;obtain⟨e,h1,h2,_⟩:=ajj hu;exact ed h1 h2 hx hy om om (by simp) ho
theorem arA{l c:Nat}(ho:o.op=.indexAddr 131 x y)(hx:a.eval x=.slice (some ⟨g,0,none⟩) l c)(hy:a.eval y=i6 p)(e1:p=(m:Int))(h:m<l):aaP C a o (pA g m):=fun w _=>by subst e1;exact cX (sz:=1) U131 kr hx hy om om (by simp) ho
theorem an3{v:Nat→Int}(ho:o.op=.load t x)(hx:a.eval x=pA g m)(hB:∀w,C w→bH w g (aH k n v) ty)(h:m<n)(hu:(kdT t).isSome=true):aaP C a o (.int k (v m)):=fun w hw=>by obtain⟨_,hu⟩:=ayA.1 hu;exact ay (hB w hw) (bJ h) (ag1 hu) hx rfl ho
end
theorem afG{r:Nat}(h:m=r:=by first|(simp only[Nat.reduceAdd,Nat.reduceSub,Nat.reduceMul,Nat.reduceDiv,Nat.reduceMod];rfl)|rfl):m=r:=h
theorem arB{y:Operand}{t':TypeId}{q:Int}(ho:o.op=.binOp .sub t x y t')(hx:a.eval x=i6 p)(hy:a.eval y=i6 q)(e:p-q=-1):aaP C a o (i6 (-1)):=fun w _=>fH hx hy (by rw[e];unfold wrap64;omega) ho
theorem arC{arr:Array Value}{wA:Nat→Int}(ho:o.op=.load 5 x)(hx:a.eval x=pA g m)(hB:∀w,C w→bH w g arr t)(hr:∀j,j<n→arr[j]?=some (.int .u8 (wA j)))(h:m<n):aaP C a o (.int .u8 (wA m)):=fun w hw=>ay (hB w hw) (hr m h) U5 hx rfl ho
theorem aqj{v:Nat→Int}(ho:o.op=.load t x)(hu:ae5 t=some (n,k))(hx:a.eval x=pA g 0)(hB:∀w,C w→bH w g (aH k n v) ty):aaP C a o (.agg (aH k n v)):=fun w hw=>by obtain⟨e,h1,_,_,h2⟩:=ajj hu;exact aQ (n:=n) (hB w hw) oo (by rw[ax];omega) h1 h2 hx rfl ho
theorem aqm(n:Nat):(@OfNat.ofNat Int n instOfNat)=(((@OfNat.ofNat Nat n (instOfNatNat n)):Nat):Int):=rfl
theorem abc(h:p=(m:Int):=by first|with_reducible rfl|exact aqm _):p=(m:Int):=h
theorem aiO(h:Kn L g cs t:=by(repeat (first|with_reducible exact alG|apply alH))):Kn L g cs t:=h
theorem eqB(h:bH w g cs t):∀w',w'=w→bH w' g cs t:=fun _ e=>e▸h
theorem ajk(h:aaP C a o v:=by first
 |exact aq6 rfl rfl rfl abc abc om afG
 |exact aq7 rfl rfl rfl abc abc om afG
 |exact aq8 rfl rfl rfl abc abc om afG
 |exact aq9 rfl rfl rfl abc abc om afG
 |exact ara rfl rfl rfl abc abc om afG
 |exact arb rfl rfl rfl abc abc om afG
 |exact arp rfl rfl rfl
 |exact ars rfl rfl rfl
 |exact art rfl rfl rfl
 |exact aru rfl rfl rfl abc
 |exact arv rfl rfl rfl abc
 |exact arx rfl rfl
 |exact arz rfl rfl abc om rfl rfl
 |exact ary rfl rfl rfl rfl
 |exact aqh rfl rfl rfl abc rfl om
 |exact arA rfl rfl rfl abc om
 |exact arB rfl rfl rfl dd
 |exact arC rfl rfl (fun w h=>(hp.kn aiO).below h) wM om
 |exact aqj rfl rfl rfl (fun w h=>(hp.kn aiO).below h)
 |exact aqj rfl rfl rfl (eqB (hp.kn aiO))
 |exact an3 rfl rfl (fun w (h:Hp w _)=>h.kn aiO) om rfl
 |exact an3 rfl rfl (fun w h=>(hp.kn aiO).below h) om rfl
 |exact an3 rfl rfl (eqB (hp.kn aiO)) om rfl):aaP C a o v:=h
section
variable{r:Option Nat}{ops:Array Oper}{Q:Exit→Act→World→Prop}{a a':Act}{w w0:World}{rest:List Oper}{o:Oper}{v:Value}{N:Option Tmp}{L L':List (Nat×Array Value×TypeId)}{k:IntKind}{n i g:Nat}{f:Nat→Int}{p:Int}{t ty:TypeId}{x y:Operand}
theorem ajm(h:WL r ops Q rest a' w)(hx:aaP (fun w'=>w'=w) a o v:=by exact ajk)(hd:∀c,o.op≠.defer c:=by(intro c hc;cases hc))(hN:o.dst=N:=by rfl)(hw:Region.wanted o (yielded ops a.tmps)=true:=by rfl)(ha:a.put N v=a':=by exact PT):WL r ops Q (o::rest) a w:=Oj (hx w rfl) h hd hN hw ha
theorem aiB{Q:Act→Prop}(h:WQ Tryz.prog ops (Below W.heap.size W) Q rest a')(hx:aaP (Below W.heap.size W) a o v:=by exact ajk)(hN:o.dst=N:=by rfl)(hw:Region.wanted o (yielded ops a.tmps)=true:=by rfl)(ha:a.put N v=a':=by exact PT):WQ Tryz.prog ops (Below W.heap.size W) Q (o::rest) a:=st hx hN hw ha h
theorem ade(h:G')(i:Hd G'→G:=by(intro hz;(repeat (first|refine qk ?_|refine qx ?_|refine aiB ?_));exact hz.out)):G:=i ⟨h⟩
theorem ady(i:Hd G'→G:=by(intro hz;(repeat (first
 |((with_reducible apply wlI);first|refine EP ?_|refine ll ?_|refine lk ?_|refine lx ?_|refine la ?_|refine ajm ?_)
 |refine aeu ?_|refine aev ?_|refine YZ ?_|refine c_t rfl ?_|refine c_f rfl ?_|refine Tm ?_|refine uR ?_|refine Y0 ?_
 |with_reducible refine aeA ?_|with_reducible refine C5 ?_|with_reducible refine als ?_|with_reducible refine Tn ?_|with_reducible refine alu dd ?_));exact hz.out)):Hd G'→G:=i
theorem wB(h:G')(i:Hd G'→G:=by exact ady):G:=i ⟨h⟩
theorem sz1(h:∀w2,o1 w w2 g (aH k n (lh f i p)) t→Hp w2 L'→WL r ops Q rest a' w2)(ho:o.op=.store ty x y:=by rfl)(hx:uT a x=some (pA g i):=by rfl)(hy:uT a y=some (.int k p):=by rfl)(hs:xH ty NP=some 1:=by rfl)(hp:Hp w L:=by exact hp)(hk:SA L g (aH k n f) t (aH k n (lh f i p)) L':=by(repeat (first|with_reducible exact alI|apply alJ)))(hi:i<n:=by omega)(hw:Region.wanted o (yielded ops a.tmps)=true:=by rfl)(ha:a.put o.dst undef=a':=by exact PT):WL r ops Q (o::rest) a w:=sxo (vs:=[.int k p]) h ho hx hy hs rfl rfl hp hk (Nn hi) (by rw[ax];exact hi) (by intro u hu;simp at hu;subst hu;rfl) hw ha
theorem z_T(F:Nat→Int)(h:∀w2,Hp w2 L'→au S w0 w2→G1 w2)(hT:au S w0 w:=by exact hT)(ho:o.op=.store ty x y:=by rfl)(hx:uT a x=some (pA g i):=by rfl)(hy:uT a y=some (.int k p):=by rfl)(hs:xH ty NP=some 1:=by rfl)(hp:Hp w L:=by exact hp)(hk:SA L g (aH k n f) t (aH k n F) L':=by(repeat (first|with_reducible exact alI|apply alJ)))(he:lh f i p=F:=by rfl)(hi:i<n:=by omega)(hw:Region.wanted o (yielded ops a.tmps)=true:=by rfl)(ha:a.put o.dst undef=a':=by exact PT)(hS:S g∨w0.heap.size≤g:=by first|exact .inl rfl|(right;assumption))(j:∀w2,Hp w2 L'→Hd (G1 w2)→WL r ops Q rest a' w2:=by(intro w2 hp;exact ady)):WL r ops Q (o::rest) a w:=sz1 (fun w2 p hp=>j w2 hp ⟨h w2 hp (hT.put p hS)⟩) ho hx hy hs hp (he▸hk) hi hw ha
theorem n_T{K:Act→World→Prop}(h:∀w2,Bw W w2→Hp w2 L→au S w0 w2→K a w2)(hp:Hp W L:=by exact hp)(hT:au S w0 W:=by exact hT):WQ Tryz.prog ops (Below W.heap.size W) (fun a'=>∀w',Bw W w'→K a' w') [] a:=ou fun w2 hb=>h w2 hb (hp.below hb) (hT.step hb)
theorem afj(h:∀g w2,Hp w2 ((g,aH k n (fun _=>0),ty)::L)→w0.heap.size≤g→au S w0 w2→G2 g w2)(hT:au S w0 w:=by exact hT)(ho:o.op=.alloc ty:=by rfl)(hu:ae5 ty=some (n,k):=by rfl)(hp:Hp w L:=by exact hp)(hw:Region.wanted o (yielded ops a.tmps)=true:=by rfl)(ha:∀g,a.put o.dst (pA g 0)=fa g:=by exact KI)(j:∀g w2,Hp w2 ((g,aH k n (fun _=>0),ty)::L)→Hd (G2 g w2)→WL r ops Q rest (fa g) w2:=by(intro g w2 hp;exact ady)):WL r ops Q (o::rest) a w:=by obtain⟨_,_,_,hz,_⟩:=ajj hu;exact eK hz (fun g w2 q=>by rw[ha];have q:jr w w2 g (aH k n (fun _=>0)) ty:=q;exact j g w2 (hp.new q) ⟨h g w2 (hp.new q) (ayo hT.size q.fresh) (hT.step q.below)⟩) ho hw
theorem aiQ(h:∀g w2,Hp w2 ((g,cs,ty)::L)→w0.heap.size≤g→au S w0 w2→G2 g w2)(hT:au S w0 w:=by exact hT)(ho:o.op=.box ty x:=by rfl)(hx:uT a x=some (.agg cs):=by rfl)(hp:Hp w L:=by exact hp)(hw:Region.wanted o (yielded ops a.tmps)=true:=by rfl)(ha:∀g,a.put o.dst (pA g 0)=fa g:=by exact KI)(j:∀g w2,Hp w2 ((g,cs,ty)::L)→Hd (G2 g w2)→WL r ops Q rest (fa g) w2:=by(intro g w2 hp;exact ady)):WL r ops Q (o::rest) a w:=lR (my hx) (fun g w2 q=>by rw[ha];exact j g w2 (hp.new q) ⟨h g w2 (hp.new q) (ayo hT.size q.fresh) (hT.step q.below)⟩) ho hw
theorem agi{F:Nat→Int}(h:∀w2,Hp w2 L'→au S w0 w2→G1 w2)(hT:au S w0 w:=by exact hT)(ho:o.op=.store ty x y:=by rfl)(hx:uT a x=some (pA g 0):=by rfl)(hy:uT a y=some (.agg (aH k n F)):=by rfl)(hs:xH ty NP=some n:=by rfl)(hp:Hp w L:=by exact hp)(hk:SA L g (aH k n f) t (aH k n F) L':=by(repeat (first|with_reducible exact alI|apply alJ)))(hw:Region.wanted o (yielded ops a.tmps)=true:=by rfl)(ha:a.put o.dst undef=a':=by exact PT)(hS:S g∨w0.heap.size≤g:=by first|exact .inl rfl|(right;assumption))(j:∀w2,Hp w2 L'→Hd (G1 w2)→WL r ops Q rest a' w2:=by(intro w2 hp;exact ady)):WL r ops Q (o::rest) a w:=sxo (vs:=(aH k n F).toList) (fun w2 p hp=>j w2 hp ⟨h w2 hp (hT.put p hS)⟩) ho hx hy hs rfl (by simp[ax]) hp hk (by unfold bt;simp[ax,List.drop_of_length_le]) (by simp[ax]) (gy _ _ _) hw ha
theorem ae6{f:FuncId}{xs:Array Operand}{ts:Array TypeId}{args:Array Value}(hc:CP f args w fun e w'=>e=.returned v∧Bw w w')(h:∀w2,Hp w2 L→au S w0 w2→G1 w2)(hT:au S w0 w:=by exact hT)(hp:Hp w L:=by exact hp)(kg:o.op=.call {callee:=.value (.func f),args:=xs,argTypes:=ts}:=by rfl)(hf:ki f KH=true:=by rfl)(ft:xs.map a.eval=args:=by first|(simp only[ayH,ayC,ayB];rfl)|simp only[ayH,ayB])(hw:Region.wanted o (yielded ops a.tmps)=true:=by rfl)(ha:a.put o.dst v=a':=by exact PT)(i:∀w2,Hp w2 L→Hd (G1 w2)→WL r ops Q rest a' w2:=by(intro w2 hp;exact ady)):WL r ops Q (o::rest) a w:=cl hc (fun w2 hb hp=>i w2 hp ⟨h w2 hp (hT.step hb)⟩) hp kg hf ft hw ha
end
theorem adE{w2:World}(t:au (fun _=>False) w w2):Bw w w2:=⟨t.os,t.tape,t.output,t.size,fun b hb=>t.block b hb id⟩
def adF(u:Nat→Value)(f:List (Nat×Value)):Nat→Nat→List Value
 |0,_=>[]
 |n+1,i=>(xH i f).getD (u i)::adF u f n (i+1)
theorem amN(u:Nat→Value)(f:List (Nat×Value)):∀(n i j:Nat),j<n→(adF u f n i)[j]?=some ((xH (i+j) f).getD (u (i+j)))
 |n+1,i,0,_=>rfl
 |n+1,i,j+1,h=>by show(adF u f n (i+1))[j]?=_;rw[amN u f n (i+1) j om,show i+1+j=i+(j+1)by omega]
theorem amO(u:Nat→Value)(f:List (Nat×Value)):∀(n i:Nat),(adF u f n i).length=n
 |0,_=>rfl
 |n+1,i=>by show(adF u f n (i+1)).length+1=_;rw[amO]
def aiW(a:Act):List (Nat×Value)→Prop
 |[]=>True
 |p::l=>s4 a.tmps.toList p.1=some p.2∧aiW a l
theorem aiW.get{s:Nat}:∀{l:List (Nat×Value)},aiW a l→xH s l=some v→s4 a.tmps.toList s=some v
 |[],_,h=>by cases h
 |(b,c)::l,q,h=>by
  unfold xH at h;cases e:b==s with
  |true=>rw[e]at h;simp only[cond_true,ay8]at h;simp only[beq_iff_eq]at e;subst e;subst h;exact q.1
  |false=>rw[e]at h;exact q.2.get h
def FrB(a:Act)(n:Nat)(f:List (Nat×Value)):Prop:=a.defers=[]∧a.tmps.toList.length=n∧aiW a f
theorem aqo(h:FrB a n f):a=⟨(adF (fun i=>a.tmps.toList.getD i undef) f n 0).toArray,[]⟩:=by
 obtain⟨h1,h2,h3⟩:=h
 have e:a.tmps.toList=adF (fun i=>a.tmps.toList.getD i undef) f n 0:=by
  apply azC;intro j;rcases ayQ j n with hj|hj
  ·rw[amN _ _ _ _ _ hj,ayR];cases q:xH j f with
   |none=>simp only[Option.getD_none,ay5];rw[ayq om];rfl
   |some v=>rw[←yG,h3.get q];rfl
  ·rw[azW om,azW (by rw[amO];exact hj)]
 rw[←e];cases a;cases h1;rfl
theorem afH(n:Nat)(T:Nat→List (Nat×Value))(P:Nat→World→Prop)(N k0:Nat)(p0:P k0 w)(h:∀k u w,k≤N→P k w→WC r c (Exit.then (fun a' w'=>k<N∧FrB a' n (T (k+1))∧P (k+1) w') Q) ⟨(adF u (T k) n 0).toArray,[]⟩ w)(f0:FrB a n (T k0):=by exact⟨rfl,rfl,by(repeat (first|exact trivial|refine⟨rfl,?_⟩))⟩)(hk:k0≤N:=by omega):WC r (.loop c) Q a w:=by
 refine cT (fun m a w=>∃k,m=N-k∧k≤N∧FrB a n (T k)∧P k w) (N-k0) ⟨k0,rfl,hk,f0,p0⟩ ?_;rintro m a w ⟨k,rfl,hk,hf,hP⟩;rw[aqo hf];refine⟨wpIn_mono (h k _ w hk hP).out fun e a' w' q=>?_⟩;cases e with
 |normal=>exact⟨_,by have:=q.1;omega,k+1,rfl,q.1,q.2.1,q.2.2⟩
 |_=>exact q
theorem afK{l l':List Value}(h:WC r c Q ⟨l'.toArray,[]⟩ w)(e:l=l':=by(simp only[adF,xH,Nat.reduceBEq,Nat.reduceAdd,cond_true,cond_false,aAv,Option.getD_none];rfl)):WC r c Q ⟨l.toArray,[]⟩ w:=e▸h
theorem Hp.aqp{x y:Nat×Array Value×TypeId}(h:Hp w (x::y::L)):Hp w (y::x::L):=⟨(((List.Perm.swap x y L).map _).nodup_iff).2 h.1,fun z hz=>h.2 z ((List.Perm.swap x y L).mem_iff.1 hz)⟩
theorem afO{l:List Oper}{Q:Act→World→Prop}{s t:Option Nat}{fuel:Nat}{aj bN:Array Bool}{a':Act}{oi:Oper}(i:Nat)(h:dP r l.toArray Q (DX s t W L) fuel bN a' w)(mv:(l.drop i).head?=some oi:=by rfl)(hx:aaP (fun w=>Hp w L) a oi v:=by exact ajk)(hw:Region.wanted oi (yielded l.toArray a.tmps)=true:=by rfl)(hc:Fz l.toArray aj i s t=true:=by kernel_rfl)(hl:aj.setIfInBounds i true=bN:=by exact LT)(ha:a.put oi.dst v=a':=by exact PT):dP r l.toArray Q (DX s t W L) (fuel+1) aj a w:=a_h i mv (yq hx hw) h hc hl ha
theorem FRB(h:FrB a n f:=by exact⟨rfl,rfl,by(repeat (first|exact trivial|refine⟨rfl,?_⟩))⟩):FrB a n f:=h
end
section
open Go.RowKit
variable{w:World}{c r:Nat}
def aqq(x:Int)(n:Nat):Int:=Lt .u64 (fF .u64 x n) (nZ .u64 x (64-n))
theorem adw(x:Int)(n:Nat)(hn:n≤64):CB 248 #[.int .u64 x,.int .u64 (n:Int)] w (.int .u64 (aqq x n)):=by have hp:=Hp.nil w;refine fe Tryz.func248 Tryz.ntmps248 ?_;refine wB ?_;refine p1 ?_;exact⟨rfl,Below.refl _ _⟩
def mA(v:Nat→Int)(a b:Nat)(x:Int):Nat→Int:=lh v a (IntKind.u64.wrap (IntKind.u64.wrap (v a+v b)+x))
def abB(v:Nat→Int)(d a n:Nat):Nat→Int:=lh v d (aqq (dM .u64 (v d) (v a)) n)
def adz(v:Nat→Int)(c d:Nat):Nat→Int:=lh v c (IntKind.u64.wrap (v c+v d))
def an5(v:Nat→Int)(a b c d:Nat)(x y:Int):Nat→Int:=abB (adz (abB (mA (abB (adz (abB (mA v a b x) d a 32) c d) b c 24) a b y) d a 16) c d) b c 63
theorem apL{g:Nat}{v:Nat→Int}{t:TypeId}(hb:bH w g (aH .u64 16 v) t)(a b c d:Nat)(ha:a<16)(er:b<16)(hc:c<16)(hd:d<16)(x y:Int):CP 211 #[pA g 0,i6 (a:Int),i6 (b:Int),i6 (c:Int),i6 (d:Int),.int .u64 x,.int .u64 y] w fun e w'=>e=.returned (.tuple #[])∧bH w' g (aH .u64 16 (an5 v a b c d x y)) t∧au (fun b=>b=g) w w':=by have hp:=(Hp.nil w).cons hb (by simp);have hT:=au.refl (fun b=>b=g) w;refine fe Tryz.func211 Tryz.ntmps211 ?_;refine wB ?_;refine gu 17 ?_;refine ade ?_;refine n_T fun w1 hb hp hT=>?_;refine z_T (mA v a b x) fun w1 hp hT=>?_;refine gu 16 ?_;refine ade ?_;refine qc (fun w' hw=>dJ hw (adw _ 32 dd)) ?_;refine ade ?_;refine n_T fun w1 hb hp hT=>?_;refine z_T (abB (mA v a b x) d a 32) fun w1 hp hT=>?_;refine gu 15 ?_;refine ade ?_;refine n_T fun w1 hb hp hT=>?_;refine z_T (adz (abB (mA v a b x) d a 32) c d) fun w1 hp hT=>?_;refine gu 16 ?_;refine ade ?_;refine qc (fun w' hw=>dJ hw (adw _ 24 dd)) ?_;refine ade ?_;refine n_T fun w1 hb hp hT=>?_;refine z_T (abB (adz (abB (mA v a b x) d a 32) c d) b c 24) fun w1 hp hT=>?_;refine gu 17 ?_;refine ade ?_;refine n_T fun w1 hb hp hT=>?_;refine z_T (mA (abB (adz (abB (mA v a b x) d a 32) c d) b c 24) a b y) fun w1 hp hT=>?_;refine gu 16 ?_;refine ade ?_;refine qc (fun w' hw=>dJ hw (adw _ 16 dd)) ?_;refine ade ?_;refine n_T fun w1 hb hp hT=>?_;refine z_T (abB (mA (abB (adz (abB (mA v a b x) d a 32) c d) b c 24) a b y) d a 16) fun w1 hp hT=>?_;refine gu 15 ?_;refine ade ?_;refine n_T fun w1 hb hp hT=>?_;refine z_T (adz (abB (mA (abB (adz (abB (mA v a b x) d a 32) c d) b c 24) a b y) d a 16) c d) fun w1 hp hT=>?_;refine gu 16 ?_;refine ade ?_;refine qc (fun w' hw=>dJ hw (adw _ 63 dd)) ?_;refine ade ?_;refine n_T fun w1 hb hp hT=>?_;refine z_T (abB (adz (abB (mA (abB (adz (abB (mA v a b x) d a 32) c d) b c 24) a b y) d a 16) c d) b c 63) fun w1 hp hT=>?_;refine wB ?_;refine cK ?_;exact⟨rfl,hp.at 0,hT⟩
theorem dgA(h:48≤c∧c<97)(e:c-48=r):CB 212 #[.int .u8 (c:Int)] w (i6 (r:Int)):=by
 have hp:=Hp.nil w;have h1:¬(97:Int)≤(c:Int):=by omega
 subst e;refine fe Tryz.func212 Tryz.ntmps212 ?_;refine wB ?_;refine p1 ?_;exact⟨rfl,Below.refl _ _⟩
theorem dgB(h:97≤c∧c<128)(e:c-97+10=r):CB 212 #[.int .u8 (c:Int)] w (i6 (r:Int)):=by
 have hp:=Hp.nil w;have h1:(97:Int)≤(c:Int):=by omega
 subst e;refine fe Tryz.func212 Tryz.ntmps212 ?_;refine wB ?_;refine p1 ?_;exact⟨rfl,Below.refl _ _⟩
end
section
open Go.RowKit
variable{w:World}{i:Nat}
theorem amP(h:i<16):CB 212 #[.int .u8 (Gw i)] w (i6 (i:Int)):=by
 by_cases h1:i<10
 ·have e:Gw i=((48+i:Nat):Int):=by revert i;decide
  rw[e];exact dgA om om
 ·have e:Gw i=((87+i:Nat):Int):=by revert i;decide
  rw[e];exact dgB om om
theorem amQ(h:i<12):CB 210 #[i6 (i:Int)] w (.string ⟨(lN.getD (i%10) []).toArray⟩):=by have hp:=Hp.nil w;refine fe Tryz.func210 Tryz.ntmps210 ?_;rcases(show i=0∨i=1∨i=2∨i=3∨i=4∨i=5∨i=6∨i=7∨i=8∨i=9∨i=10∨i=11 by omega)with e|e|e|e|e|e|e|e|e|e|e|e<;>subst e<;>(refine wB ?_;refine p1 ?_;exact⟨rfl,Below.refl _ _⟩)
theorem aiC:CB 166 #[] w (.agg (aH .u64 8 dr)):=by have hp:=Hp.nil w;have hT:=au.refl (fun _=>False) w;refine fe Tryz.func166 Tryz.ntmps166 ?_;refine wB ?_;refine afj fun g w2 hp f1 hT=>?_;refine ak (.agg (aH .u64 8 dr)) kr ?_;refine agi fun w3 hp hT=>?_;refine kh (el (s:=0) (ty:=268) (cs:=(aH .u64 8 dr)) (hp.at 0) U268 (by rw[ax];kernel_rfl)) ?_;exact⟨rfl,adE hT⟩
end
end Go.Proofs.YtdkpbpjcbkibiaaGreatDoor.B
