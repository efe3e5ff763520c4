/- Tl Lt Ln -/
import Derived.Test.YtdkpbpjcbkibiaaGreatDoorV50
set_option linter.all false
set_option maxRecDepth 100000
set_option maxHeartbeats 4000000
namespace Go.Proofs.YtdkpbpjcbkibiaaGreatDoor.B
open Go.RowKit
section
open Go.RowKit
variable{w:World}{n:Nat}
section
variable{w0 w w2:World}{col col' c1 c2 c1' c2':Nat→Nat}{f f1 f2:CF}{m m1 m2 m1' m2':CV}{s s1 s2 t:bM}{S:Nat→Prop}
theorem Ch.other(h:Ch w col f m s)(ht:au S w w2)(hS:∀b,S b→col' b=7)(hc:∀b,b<w.heap.size→col' b=col b)(hcol':rB col' w2):Ch w2 col' f m s:=⟨(h.ij.ew hc).turns ht fun b q=>by rw[hS b q];decide,(h.gN.ew hc).turns ht fun b q=>by rw[hS b q];unfold A4;decide,(h.ref.ew hc).turns ht fun b q=>by rw[hS b q];decide,(h.pre.ew hc).turns ht fun b q=>by rw[hS b q];decide,(h.BX.ew hc).turns ht fun b q=>by rw[hS b q];decide,
 let⟨t,hb⟩:=h.iX;⟨t,hb.turns ht fun q=>by have:=hS _ q;rw[hc _ hb.lt,h.cc]at this;cases this⟩,by obtain⟨t,hb⟩:=h.iX;rw[hc _ hb.lt];exact h.cc,hcol',h.inv⟩
structure Twin(w0 w:World)(c1:Nat→Nat)(f1:CF)(m1:CV)(s1:bM)(c2:Nat→Nat)(f2:CF)(m2:CV)(s2:bM):Prop where
 h1:Ch w c1 f1 m1 s1
 h2:Ch w c2 f2 m2 s2
 s12:∀b,own (c1 b)→c2 b=7
 s21:∀b,own (c2 b)→c1 b=7
 z1:∀b,b<w0.heap.size→c1 b=0
 z2:∀b,b<w0.heap.size→c2 b=0
 below:Bw w0 w
theorem own_7:¬own 7:=fun q=>q.2.1 rfl
theorem Twin.step(h:Twin w0 w c1 f1 m1 s1 c2 f2 m2 s2)(hb:Bw w w2):Twin w0 w2 c1 f1 m1 s1 c2 f2 m2 s2:=⟨h.h1.below hb,h.h2.below hb,h.s12,h.s21,h.z1,h.z2,U h.below hb⟩
theorem Twin.swap(h:Twin w0 w c1 f1 m1 s1 c2 f2 m2 s2):Twin w0 w c2 f2 m2 s2 c1 f1 m1 s1:=⟨h.h2,h.h1,h.s21,h.s12,h.z2,h.z1,h.below⟩
open Classical in
theorem Twin.one(h:Twin w0 w c1 f1 m1 s1 c2 f2 m2 s2)(k:Out w c1 m1 s1 w2 c1' f1 m1' t):∃c2',Twin w0 w2 c1' f1 m1' t c2' f2 m2 s2∧∀b,b<w.heap.size→c2' b=c2 b:=by
 refine⟨fun b=>if b<w.heap.size then c2 b else if own (c1' b)then 7 else 0,⟨k.ch,?_,fun b q=>?_,fun b q=>?_,fun b q=>?_,fun b q=>?_,?_⟩,fun b q=>if_pos q⟩
 ·refine h.h2.other k.tn (fun b q=>?_) (fun b q=>if_pos q) (fun b q=>?_);·have hl:b<w.heap.size:=h.h1.lt (fun e=>by have q2:own (c1 b):=q;rw[e]at q2;exact kU q2);show(if b<w.heap.size then c2 b else _)=7;rw[if_pos hl];exact h.s12 b q
  ·show(if b<w.heap.size then c2 b else _)=0;have hs:=k.turns.size;rw[if_neg om,if_neg (fun q2=>by rw[k.ch.bG b q]at q2;exact kU q2)]
 ·show(if b<w.heap.size then c2 b else _)=7;split;·rename_i hl;rw[k.fp b hl]at q;exact h.s12 b q
  ·first|rfl|exact if_pos q
 ·have q:own (if b<w.heap.size then c2 b else if own (c1' b)then 7 else 0):=q;split at q;·rename_i hl;rw[k.fp b hl];exact h.s21 b q
  ·split at q;·exact absurd q own_7
   ·exact absurd q kU
 ·have hs:=h.below.size;rw[k.fp b om];exact h.z1 b q
 ·have hs:=h.below.size;show(if b<w.heap.size then c2 b else _)=0;rw[if_pos om];exact h.z2 b q
 ·exact⟨k.turns.os.trans h.below.os,k.turns.tape.trans h.below.tape,k.turns.output.trans h.below.output,ayo h.below.size k.turns.size,fun b hb=>(k.tn.block b (ayu hb h.below.size) (fun q=>by have q2:own (c1 b):=q;rw[h.z1 b hb]at q2;exact kU q2)).trans (h.below.block b hb)⟩
open Classical in
theorem Twin.begin(h1:Ch w c1 f1 m1 s1)(hz:∀b,b<w0.heap.size→c1 b=0)(hB:Bw w0 w)(hb:Bw w w2)(h2:Ch w2 c2 f2 m2 s2)(jZ:∀b,b<w.heap.size→c2 b=if own (c1 b)then 7 else 0):∃c1',Twin w0 w2 c1' f1 m1 s1 c2 f2 m2 s2∧∀b,¬own (c1 b)∨w.heap.size≤b→¬own (c1' b):=by
 have hs:=hB.size;refine⟨fun b=>if b<w.heap.size then c1 b else if own (c2 b)then 7 else 0,⟨?_,h2,fun b q=>?_,fun b q=>?_,fun b q=>?_,fun b q=>?_,U hB hb⟩,fun b q=>?_⟩;·refine h1.other (au.aW (S:=fun _=>False) hb) (fun _ q=>q.elim) (fun b q=>if_pos q) (fun b q=>?_);have:=hb.size;show(if b<w.heap.size then c1 b else _)=0;rw[if_neg om,if_neg (fun q2=>by rw[h2.bG b q]at q2;exact kU q2)]
 ·have q:own (if b<w.heap.size then c1 b else if own (c2 b)then 7 else 0):=q;split at q;·rename_i hl;rw[jZ b hl];exact if_pos q
  ·split at q;·exact absurd q own_7
   ·exact absurd q kU
 ·show(if b<w.heap.size then c1 b else _)=7;split
  ·rename_i hl;rw[jZ b hl]at q;split at q;·exact absurd q own_7
   ·exact absurd q kU
  ·first|rfl|exact if_pos q
 ·show(if b<w.heap.size then c1 b else _)=0;rw[if_pos om];exact hz b q
 ·rw[jZ b om,hz b q];exact if_neg kU
 ·show ¬own (if b<w.heap.size then c1 b else if own (c2 b)then 7 else 0);split;·exact q.resolve_right om
  ·split;·exact own_7
   ·exact kU
end
structure jb(w0 w:World)(c1:Nat→Nat)(f1:CF)(m1:CV)(s1:bM)(c2:Nat→Nat)(f2:CF)(m2:CV)(s2:bM)(L:List (Nat×Array Value×TypeId)):Prop where
 xo:Twin w0 w c1 f1 m1 s1 c2 f2 m2 s2
 DU:EK s1
 GG:EK s2
 hp:Hp w L
 z1:∀x∈L,¬own (c1 x.1)
 z2:∀x∈L,¬own (c2 x.1)
section
variable{w0 w w2:World}{c1 c2 c1':Nat→Nat}{f1 f2:CF}{m1 m2 m1':CV}{s1 s2 t:bM}{L L':List (Nat×Array Value×TypeId)}{g:Nat}{cs:Array Value}{ty:TypeId}
theorem jb.step(S:jb w0 w c1 f1 m1 s1 c2 f2 m2 s2 L)(hb:Bw w w2):jb w0 w2 c1 f1 m1 s1 c2 f2 m2 s2 L:=⟨S.xo.step hb,S.DU,S.GG,S.hp.below hb,S.z1,S.z2⟩
theorem jb.swap(S:jb w0 w c1 f1 m1 s1 c2 f2 m2 s2 L):jb w0 w c2 f2 m2 s2 c1 f1 m1 s1 L:=⟨S.xo.swap,S.GG,S.DU,S.hp,S.z2,S.z1⟩
theorem jb.one(S:jb w0 w c1 f1 m1 s1 c2 f2 m2 s2 L)(k:Out w c1 m1 s1 w2 c1' f1 m1' t)(ok:EK t):∃c2',jb w0 w2 c1' f1 m1' t c2' f2 m2 s2 L:=by obtain⟨c2',T,h⟩:=S.xo.one k;exact⟨c2',T,ok,S.GG,S.hp.turns k.tn S.z1,fun x hx=>by rw[k.fp _ (S.hp.2 x hx).lt];exact S.z1 x hx,fun x hx=>by rw[h _ (S.hp.2 x hx).lt];exact S.z2 x hx⟩
theorem jb.QP{L2:List (Nat×Array Value×TypeId)}(S:jb w0 w c1 f1 m1 s1 c2 f2 m2 s2 L)(hb:Bw w w2)(hp:Hp w2 L2)(h:∀x∈L2,x.1∈L.map (·.1)∨w.heap.size≤x.1):jb w0 w2 c1 f1 m1 s1 c2 f2 m2 s2 L2:=by
 refine⟨S.xo.step hb,S.DU,S.GG,hp,fun x hx=>?_,fun x hx=>?_⟩
 ·rcases h x hx with q|q;·obtain⟨y,hy,e⟩:=ayM.1 q;exact e▸S.z1 y hy
  ·rw[S.xo.h1.bG _ q];exact kU
 ·rcases h x hx with q|q;·obtain⟨y,hy,e⟩:=ayM.1 q;exact e▸S.z2 y hy
  ·rw[S.xo.h2.bG _ q];exact kU
theorem jb.sc(S:jb w0 w c1 f1 m1 s1 c2 f2 m2 s2 L)(h:L'.Sublist L):aa0 (fun _=>0) w0 w c1 f1 m1 s1 L':=⟨S.xo.h1,S.DU,S.xo.below,S.xo.z1,S.hp.sub h,fun x hx=>S.z1 x (h.subset hx)⟩
end
section
variable{r:Option Nat}{ops:Array Oper}{Q:Exit→Act→World→Prop}{a a':Act}{w w0:World}{rest:List Oper}{o:Oper}{v:Value}{L:List (Nat×Array Value×TypeId)}{c1 c2:Nat→Nat}{f1 f2:CF}{m1 m2:CV}{s1 s2 s':bM}{xs:Array Operand}{ts:Array TypeId}
theorem EA{G1:World→Prop}{k:FuncId}{args:Array Value}(hc:CP k args w fun e w'=>e=.returned v∧Bw w w')(h:∀w2,jb w0 w2 c1 f1 m1 s1 c2 f2 m2 s2 L→Hp w2 L→G1 w2)(S:jb w0 w c1 f1 m1 s1 c2 f2 m2 s2 L:=by exact S)(kg:o.op=.call {callee:=.value (.func k),args:=xs,argTypes:=ts}:=by rfl)(hf:ki k KH=true:=by rfl)(ft:xs.map a.eval=args:=by first|(simp only[ayH,ayC,ayB];rfl)|simp only[ayH,ayB])(hw:Region.wanted o (yielded ops a.tmps)=true:=by rfl)(ha:a.put o.dst v=a':=by exact PT)(i:∀w2,Hp w2 L→Hd (G1 w2)→WL r ops Q rest a' w2:=by(intro w2 hp;exact ady)):WL r ops Q (o::rest) a w:=cl hc (fun w2 hb hp=>i w2 hp ⟨h w2 (S.step hb) hp⟩) S.hp kg hf ft hw ha
theorem H2(ha:Bi w0)(e:se){x:Int}(S:jb w0 w c1 f1 m1 s1 c2 f2 m2 s2 L)(he:jF gT s1 e=(x,s')){G1:World→(Nat→Nat)→CV→(Nat→Nat)→Prop}(h:∀w2 c1' m1' c2',jb w0 w2 c1' f1 m1' s' c2' f2 m2 s2 L→Hp w2 L→G1 w2 c1' m1' c2')(hk:e.call.kids=[]:=by rfl)(h3:okK e.kind=true:=by rfl)(kg:o.op=.call {callee:=.value (.func 16),args:=xs,argTypes:=ts}:=by rfl)(ft:xs.map a.eval=#[pA f1.cp 0,.agg (ab7 e)]:=by(simp only[ayH,ayC,ayB];rfl))(hw:Region.wanted o (yielded ops a.tmps)=true:=by rfl)(hp':a.put o.dst (i6 x)=a':=by exact PT)(i:∀w2 c1' m1' c2',Hp w2 L→Hd (G1 w2 c1' m1' c2')→WL r ops Q rest a' w2:=by(intro w2 c1' m1' c2' hp;exact ady)):WL r ops Q (o::rest) a w:=by
 have hc:bw w (fun b=>c1 b=0) (apf e.call) e.call:=by
  revert hk;cases e.call with
  |mk k t n l=>intro hk;have hk:l=[]:=hk;subst hk;exact .leaf k t n none
 refine ce (UN S.xo.h1 aij (ha.below S.xo.below) (S.xo.z1 1 ha.lt) hc h3) (fun _ w2 ⟨c1',m1',h2,k⟩=>⟨_,h2,?_⟩) kg dd ft hw;rw[he]at k ⊢;rw[hp'];obtain⟨c2',S2⟩:=S.one k (by have:=MO (H:=gT) S.DU e;rw[he]at this;exact this);exact i w2 c1' m1' c2' S2.hp ⟨h w2 c1' m1' c2' S2 S2.hp⟩
end
theorem Mt{I:World→bM→Prop}{s:bM}{g cp:Nat}(hn:n<100)(hg:∀w s,I w s→Hp w [(g,#[pA cp 0],49)])(hI:∀w s,I w s→CP 26 #[pA cp 0] w fun e w'=>∃v,e=.returned v∧I w' (jj s).2)(h0:I w s):CP 17 #[pA g 0,i6 (n:Int)] w fun e w'=>e=.returned (.tuple #[])∧I w' (abw n s):=by
 have hp:=hg _ _ h0;refine fe Tryz.func17 Tryz.ntmps17 ?_;refine wB ?_;refine afH 15 (fun i=>[(0,pA g 0),(1,i6 (n:Int)),(4,i6 (i:Int))]) (fun i w'=>∃s',I w' s'∧abw (n-i) s'=abw n s) n 0 ⟨s,h0,rfl⟩ ?_;rintro i u w1 hi ⟨s',S,hb⟩;have hp:=hg _ _ S;refine afK ?_;refine wB ?_;by_cases hc:i<n
 ·have c1:(i:Int)<(n:Int):=by omega
  refine wB ?_;refine ce (hI _ _ S) ?_;rintro _ w2 ⟨v,rfl,S⟩;refine⟨_,rfl,ab ?_⟩;have hp:=hg _ _ S;refine wB ?_;exact⟨hc,FRB,_,S,arM hc hb⟩
 have c1:¬(i:Int)<(n:Int):=by omega
 obtain rfl:i=n:=by omega
 rw[aAn]at hb;have hb:s'=abw i s:=hb;subst hb;refine wB ?_;refine cK ?_;exact⟨rfl,S⟩
theorem RW{w0:World}{c1 c2:Nat→Nat}{f1 f2:CF}{m1 m2:CV}{s1 s2:bM}{L:List (Nat×Array Value×TypeId)}{p:Nat}(hn:n<100)(hs:[(p,#[pA f1.cp 0],49)].Sublist L)(D:jb w0 w c1 f1 m1 s1 c2 f2 m2 s2 L):CP 17 #[pA p 0,i6 (n:Int)] w fun e w'=>e=.returned (.tuple #[])∧∃c1' m1' c2',jb w0 w' c1' f1 m1' (abw n s1) c2' f2 m2 s2 L:=Mt (I:=fun w' s'=>∃c1' m1' c2',jb w0 w' c1' f1 m1' s' c2' f2 m2 s2 L) hn (fun w s ⟨_,_,_,D⟩=>D.hp.sub hs) (fun w s ⟨_,_,_,D⟩=>(UT D.xo.h1 D.DU.nc D.DU.now).mono fun e w' ⟨c,m,v,he,k,_⟩=>⟨v,he,by obtain⟨c2',RX⟩:=D.one k (MM D.DU);exact⟨c,m,c2',RX⟩⟩) ⟨_,_,_,D⟩
theorem MP:Tryz.prog.eqGuardType Tryz.prog.depth 56=false:=by kernel_rfl
theorem NI:Tryz.prog.underlying 56=some (.struct (Tryz.prog.fieldsOf 56)):=by kernel_rfl
theorem RT:Tryz.prog.stoodInHeld 56=false:=by kernel_rfl
theorem IB:∃t1 t2 t3 p1 p2 p3 q1 q2 q3 r1 r2 r3,(Tryz.prog.fieldsOf 56).toList=[⟨ "Ayes",3,0,t1,p1,q1,r1⟩,⟨ "Nays",3,1,t2,p2,q2,r2⟩,⟨ "Support",3,2,t3,p3,q3,r3⟩]:=⟨false,false,false, "", "", "", "", "", "",0,8,16,by kernel_rfl⟩
theorem I1(x y z:Int)(w:World):(Op.equal 56 (.agg #[i6 x,i6 y,i6 z]) (.agg #[i6 x,i6 y,i6 z])).run Tryz.prog w=.ok true w:=by show(Op.equalIn (9998+1+1) 56 _ _).run _ w=_;obtain⟨t1,t2,t3,p1,p2,p3,q1,q2,q3,r1,r2,r3,hf⟩:=IB;rw[run_equalIn_struct w (9998+1) 56 _ _ NI RT,hf];have i3:=fun(x y:Int)=>run_equalIn_int (P:=Tryz.prog) w 9998 3 .i64 .i64 x y U3;rw[kV w (by show "Ayes"≠ "_";decide) (dF U3 rfl rfl w) (dF U3 rfl rfl w) (i3 x x)];rw[kV w (by show "Nays"≠ "_";decide) (dF U3 rfl rfl w) (dF U3 rfl rfl w) (i3 y y)];rw[kV w (by show "Support"≠ "_";decide) (dF U3 rfl rfl w) (dF U3 rfl rfl w) (i3 z z)];simp[Op.eqFields]
end
section
open Go.RowKit
variable{n l m:Int}{K:List ((Int×Int)×Int)}
def Gq(n l:Int):se:=⟨9,4,5,n,0,0,l,cP,db,ky⟩
theorem Xg(hn:dn n 0 1073741824=true)(hl:dn l 0 6=true):ee (Gq n l)=true:=by simp[ee,Gq,du,eJ,hn,hl];decide
def RU(n l:Int):fU:=⟨none,⟨wrap64 (0+fv n l),wrap64 (0+n)⟩,0,0⟩
def I2(n l:Int):kF:=[((4,0),⟨some ⟨5,l,n⟩,⟨0,0⟩,0,0⟩),((5,0),RU n l)]
theorem le1(hn:0≤n∧n≤1000)(hl:0≤l∧l≤6):jF gT bkS (Gq n l)=(0,stX (rF [] 4 0 n) [] (I2 n l) (fun _=>none) ⟨0,⟨0,0,0⟩,0,0⟩ adt 1 [] 0):=by
 have h1:dn n 0 1073741824=true:=by simp[dn];omega
 have h2:dn l 0 6=true:=by simp[dn];omega
 unfold jF;rw[if_pos (Xg h1 h2)];show fh bkS 4 0 5 l n=_;unfold fh;rw[if_pos dd,if_pos dd,if_pos dd,if_pos h2,if_pos h1,if_neg dd,if_neg (show ¬(aF bkS.R 4 0).ef.isSome=true from fun h=>by cases h),if_neg (show ¬0<((bX bkS.P bkS.V 4 0).length:Int)from fun h=>by cases h),if_neg (show ¬(iU bkS.fs 4).1.1<n by show ¬(1000:Int)<n;omega)];show _=_;kernel_rfl
def CI:cZ:=⟨1,true,1,0,0,0⟩
def El(n l:Int):j3:=ke ⟨0,0,0⟩ none CI (RU n l).bP
theorem le2:jF gT (stX (rF [] 4 0 n) [] (I2 n l) (fun _=>none) ⟨0,⟨0,0,0⟩,0,0⟩ adt 1 [] 0) (aem 5 CI)=(0,stX (rF (rF [] 4 0 n) 5 0 (uf CI)) [((5,0),CI)] (I2 n l) (iH (fun _=>none) 0 (some ⟨0,⟨0,0,0⟩,0,0⟩)) ⟨0,El n l,0,0⟩ adt 1 [] 0):=(apV rfl (anu dd dd)).trans ((apd (p:=⟨0,⟨0,0,0⟩,0,0⟩) (anu dd dd) (by rw[apP dd];decide) rfl rfl rfl (by(show _=_;kernel_rfl)) rfl (by(show _=_;kernel_rfl))).trans (by(show _=_;kernel_rfl)))
def v6(m:Int):cZ:=⟨1,false,1,m,0,0⟩
theorem le3(hm:0≤m∧m≤1000):jF gT (stX K [((5,0),CI)] (I2 n l) (iH (fun _=>none) 0 (some ⟨0,⟨0,0,0⟩,0,0⟩)) ⟨0,El n l,0,0⟩ adt 1 [] 0) (aem 6 (v6 m))=(0,stX (rF K 6 0 (uf (v6 m))) [((5,0),CI),((6,0),v6 m)] (I2 n l++[((6,0),vz)]) (iH (iH (fun _=>none) 0 (some ⟨0,⟨0,0,0⟩,0,0⟩)) 0 (some ⟨0,El n l,0,0⟩)) ⟨0,ke (El n l) none (v6 m) ⟨0,0⟩,0,0⟩ adt 1 [] 0):=(apV rfl (anu dd hm)).trans ((apd (p:=⟨0,El n l,0,0⟩) (anu dd hm) (by rw[apP hm];exact hm.2) rfl rfl rfl (by(show _=_;kernel_rfl)) rfl (by(show _=_;kernel_rfl))).trans (by(show _=_;kernel_rfl)))
theorem le4(hm:0≤m∧m≤1000):jF gT (stX K [((4,0),⟨1,true,l,n,0,0⟩)] [((4,0),vz)] (iH (fun _=>none) 0 (some ⟨0,⟨0,0,0⟩,0,0⟩)) ⟨0,abT l n,0,0⟩ adt 1 [] 0) (aem 6 (v6 m))=(0,stX (rF K 6 0 (uf (v6 m))) [((4,0),⟨1,true,l,n,0,0⟩),((6,0),v6 m)] [((4,0),vz),((6,0),vz)] (iH (iH (fun _=>none) 0 (some ⟨0,⟨0,0,0⟩,0,0⟩)) 0 (some ⟨0,abT l n,0,0⟩)) ⟨0,ke (abT l n) none (v6 m) ⟨0,0⟩,0,0⟩ adt 1 [] 0):=(apV rfl (anu dd hm)).trans ((apd (p:=⟨0,abT l n,0,0⟩) (anu dd hm) (by rw[apP hm];exact hm.2) rfl rfl rfl (by(show _=_;kernel_rfl)) rfl (by(show _=_;kernel_rfl))).trans (by(show _=_;kernel_rfl)))
theorem leT(hn:0≤n∧n≤1000)(hl:0≤l∧l≤6)(hm:0≤m∧m≤1000):ke (abT l n) none (v6 m) ⟨0,0⟩=⟨fv n l,m,n⟩∧ke (El n l) none (v6 m) ⟨0,0⟩=⟨fv n l,m,n⟩:=by
 have h1:=afS hl hn;have e:fv m 1=m:=by unfold fv;rw[if_neg dd,agm om];omega
 have e0:fv 0 1=0:=by unfold fv;rw[if_neg dd,agm dd];rfl
 constructor;·simp[abT,v6,ke,dU,aI,wrap64,e];omega
 ·simp[El,CI,v6,RU,ke,dU,aI,wrap64,e,e0];omega
end
section
open Go.RowKit
theorem no0:∀b:Nat,¬own ((fun _=>0) b):=fun _=>kU
open Classical in
theorem S3{w:World}(ha:Bi w)(n l m:Int):CB 5 #[i6 n,i6 l,i6 m] w (.bool true):=by
 have hp:=Hp.nil w;refine fe Tryz.func5 Tryz.ntmps5 ?_;rcases(show n<100∨¬n<100∧(1000<n∨¬1000<n∧(l<0∨¬l<0∧(6<l∨¬6<l∧(m<0∨¬m<0∧(1000<m∨¬1000<m)))))by omega)with h|⟨h1,h|⟨h2,h|⟨h3,h|⟨h4,h|⟨h5,h|h6⟩⟩⟩⟩⟩;iterate 6 (·refine wB ?_;refine p1 ?_;exact⟨rfl,Below.refl _ _⟩)
 have hl:0≤l∧l≤6:=by omega
 have hn:0≤n∧n≤1000:=by omega
 have hm:0≤m∧m≤1000:=by omega
 have g1:=afS hl hn;obtain⟨t1,t2⟩:=leT hn hl hm;have qG:BK tr0 ⟨fv n l,m,n⟩ 10000=decide (m≤fv n l):=ps om om om;refine wB ?_;refine ak (.agg #[i6 1,i6 0,i6 0,.slice none 0 0]) kr ?_;refine ce (aiG no0 rfl ha) ?_;rintro _ w1 ⟨p,f,c,k,L,rfl,S,_⟩;refine⟨_,rfl,ab ?_⟩;have hp:=S.hp;refine wB ?_;refine ak (.agg #[i6 1,i6 0,i6 0,.slice none 0 0]) kr ?_;have fk:c 1=0:=S.z 1 ha.lt;refine ce (aiG (base:=fun b=>if own (c b)then 7 else 0) (fun b=>by show ¬own (if _ then _ else _);split;exact own_7;exact kU) (by show(if own (c 1)then 7 else 0)=0;rw[fk];exact if_neg kU) (ha.below S.below)) ?_;rintro _ w2 ⟨q,f',c',k',L',rfl,S',hq⟩;refine⟨_,rfl,ab ?_⟩;obtain⟨c,T,hT⟩:=Twin.begin S.ch S.z S.below S'.below S'.ch S'.z;have lB:=(S.hp.at 0).lt
 have D:jb w w2 c f k bkS c' f' k' bkS [(p,#[pA f.cp 0],49),(q,#[pA f'.cp 0],49)]:=⟨T,S.ok,S'.ok,((Hp.nil w2).cons (S'.hp.at 0) (by simp)).cons ((S.hp.at 0).below S'.below) (by simp;omega),fun x hx=>by
  simp only[ayE,ayx,or_false]at hx;rcases hx with e|e<;>rw[e];·exact hT p (.inl (S.hz (p,#[pA f.cp 0],49) azs))
  ·exact hT q (.inr hq),fun x hx=>by
  simp only[ayE,ayx,or_false]at hx;rcases hx with e|e<;>rw[e];·rw[S'.z p lB,if_neg (S.hz (p,#[pA f.cp 0],49) azs)];exact kU
  ·exact S'.hz (q,#[pA f'.cp 0],49) azs⟩
 have hp:=D.hp;refine wB ?_;refine ak (.agg (sS (v6 m))) kr ?_;refine ak (.agg (ab7 (aem 6 (v6 m)))) kr ?_;refine al (fun z w3 QW hp=>?_);have hz:=QW.fresh;refine wB ?_;refine sf (iy (ayS.1 rfl)) (aM rfl) rfl fun w4 Xe hp=>?_
 have D:=D.QP (aN QW.below Xe hz) hp (fun x hx=>by
  rcases ayE.1 hx with e|hx;·rw[e];exact .inr hz
  ·exact .inl (ayM.2 ⟨x,hx,rfl⟩))
 have hp:Hp _ [(z,ab7 (aem 6 (v6 m)),38),(p,#[pA f.cp 0],49),(q,#[pA f'.cp 0],49)]:=hp;have D:jb _ _ _ _ _ _ _ _ _ _ [(z,ab7 (aem 6 (v6 m)),38),(p,#[pA f.cp 0],49),(q,#[pA f'.cp 0],49)]:=D;refine wB ?_;refine ak (.agg (ab7 (Gq n l))) kr ?_;refine H2 ha (Gq n l) D (le1 hn hl) fun w4 c k c' D hp=>?_;refine ak (.agg (sS CI)) kr ?_;refine ak (.agg (ab7 (aem 5 CI))) kr ?_;refine H2 ha (aem 5 CI) D le2 fun w4 c k c' D hp=>?_;refine ak (.agg (sS ⟨1,true,l,n,0,0⟩)) kr ?_;refine ak (.agg (ab7 (aem 4 ⟨1,true,l,n,0,0⟩))) kr ?_;refine H2 ha (aem 4 ⟨1,true,l,n,0,0⟩) D.swap ((apV rfl (anu hl hn)).trans (v4 hl hn)) fun w4 c' k' c D hp=>?_;refine gu 5 ?_;refine gq ?_;refine qs (.agg (ab7 (aem 6 (v6 m)))) (fun w' h'=>aQ (i:=0) (n:=49) ((hp.at 0).below h') (eC rfl) (by show 0+49≤(cj _ _ _ _ _ _ _ _ _ _).size;rw[aM rfl];exact ayp _) U38 kr rfl) ?_;refine nl fun w5 hb hp=>?_;have D:=(D.step hb).swap;refine H2 ha (aem 6 (v6 m)) D (le3 hm) fun w4 c k c' D hp=>?_;rw[t2]at D;refine gu 5 ?_;refine gq ?_;refine qs (.agg (ab7 (aem 6 (v6 m)))) (fun w' h'=>aQ (i:=0) (n:=49) ((hp.at 0).below h') (eC rfl) (by show 0+49≤(cj _ _ _ _ _ _ _ _ _ _).size;rw[aM rfl];exact ayp _) U38 kr rfl) ?_;refine nl fun w5 hb hp=>?_;have D:=(D.step hb).swap;refine H2 ha (aem 6 (v6 m)) D (le4 hm) fun w6 c' k' c D hp=>?_;rw[t1]at D;have D:=D.swap;refine tT 16 (some 14) none fun bl=>?_;refine af 0 ?_;refine af 1 ?_;refine af 2 ?_;refine af 3 ?_;refine gI (pA f.vp 0) 4 rfl (yc (fun w' h'=>YG (D.step h').xo.h1)) ?_;refine gI (.agg #[i6 (fv n l),i6 m,i6 n]) 5 rfl (yc (fun w' h'=>yM (D.step h').xo.h1.gN 0)) ?_;refine af 6 ?_;refine af 7 ?_;refine af 8 ?_;refine af 9 ?_;refine gI (pA f'.vp 0) 10 rfl (yc (fun w' h'=>YG (D.step h').xo.h2)) ?_;refine gI (.agg #[i6 (fv n l),i6 m,i6 n]) 11 rfl (yc (fun w' h'=>yM (D.step h').xo.h2.gN 0)) ?_;refine PD (di:=13) (dj:=14) (listed2:=#[true,true,true,true,true,true,true,true,true,true,true,true,true,true,false,false]) 12 13 rfl rfl (zi:=.agg #[i6 0,i6 0,i6 0]) (zj:=.agg #[i6 0,i6 0,i6 0]) kr kr (fun l2 w7 gU=>by have gU:=cd gU;exact⟨br (U bl gU),az (hp.below gU)⟩) (fun x y w7 gU hx hy fC bx LQ=>?_);have bx:bH w7 x #[i6 0,i6 0,i6 0] 56:=bx;have LQ:bH w7 y #[i6 0,i6 0,i6 0] 56:=LQ;have gU:=cd gU;have hp:=hp.below gU;have bl:=U bl gU;have hp:=hp.cons bx (fun h=>by obtain⟨u,hu,e⟩:=ayM.1 h;have:=(D.hp.2 u hu).lt;have:w6.heap.size≤x:=hx;omega)
 have hp:=hp.cons LQ (fun h=>by
  rcases ayE.1 h with e|h;·exact fC e.symm
  ·obtain⟨u,hu,e⟩:=ayM.1 h;have:=(D.hp.2 u hu).lt;have:w6.heap.size≤y:=hy;omega)
 have hx:w6.heap.size≤x:=hx;have hy:w6.heap.size≤y:=hy;refine aS 14 (fun w7 fD hp bl=>?_) (hp:=hp) (hD:=fun _ fD=>⟨br (U bl fD),az (hp.tail.tail.below fD)⟩);refine so (fun w8 p8 hp=>?_);have hB:=aN bl p8 hx;refine go ?_;refine aD 15 (fun w9 fD hp=>?_) (hp:=hp) (hD:=fun _ fD=>⟨aR rfl,az (hp.tail.tail.below fD)⟩);have hB:=U hB fD;refine so (fun w8 p8 hp=>?_);have hB:=aN hB p8 hy;refine go ?_;refine aE (fun w9 fD hp=>?_) (hp:=hp) (hD:=fun _ fD=>⟨aR rfl,az (hp.tail.tail.below fD)⟩);have hB:=U hB fD
 have D:=D.QP hB hp (fun u hu=>by
  rcases ayE.1 hu with e|hu;·rw[e];exact .inr hy
  ·rcases ayE.1 hu with e|hu;·rw[e];exact .inr hx
   ·exact .inl (ayM.2 ⟨u,hu,rfl⟩))
 refine go ?_;refine ce (RW (n:=8) dd (.cons _ (.cons _ (.cons _ (.cons_cons _ (.cons _ .slnil))))) D) ?_;rintro _ w7 ⟨rfl,c,k,c',D⟩;refine⟨_,rfl,ab ?_⟩;have hp:=D.hp;refine go ?_;refine ce (RW (n:=8) dd (.cons _ (.cons _ (.cons _ (.cons _ (.cons_cons _ .slnil))))) D.swap) ?_;rintro _ w7 ⟨rfl,c',k',c,D⟩;refine⟨_,rfl,ab ?_⟩;have D:=D.swap;have hp:=D.hp;refine wB ?_;refine ak (.bool true) (J5 (fun w=>I1 _ _ _ w) rfl rfl MP) ?_;by_cases hv:m≤fv n l;·have hq:=qG.trans (decide_eq_true hv);refine wB ?_;have S1:=D.sc (L':=[(p,#[pA f.cp 0],49)]) (.cons _ (.cons _ (.cons _ (.cons_cons _ (.cons _ .slnil)))));have S2:CB 19 #[pA p 0] w7 (i6 2):=ai1 S1 (runT hq);refine EA (S:=D) S2 fun w8 D hp=>?_;have S1:=D.swap.sc (L':=[(q,#[pA f'.cp 0],49)]) (.cons _ (.cons _ (.cons _ (.cons _ (.cons_cons _ .slnil)))));have S2:CB 19 #[pA q 0] w8 (i6 2):=ai1 S1 (runT hq);refine EA (S:=D) S2 fun w9 D hp=>?_;have S1:=D.sc (L':=[(p,#[pA f.cp 0],49)]) (.cons _ (.cons _ (.cons _ (.cons_cons _ (.cons _ .slnil)))));have S2:CB 19 #[pA p 0] w9 (i6 2):=ai1 S1 (runT hq);refine EA (S:=D) S2 fun o2 D hp=>?_;refine EA (S:=D) AP fun w4 D hp=>?_;refine p1 ?_;exact⟨rfl,D.xo.below⟩
 have hq:=qG.trans (decide_eq_false hv);refine wB ?_;have S1:=D.sc (L':=[(p,#[pA f.cp 0],49)]) (.cons _ (.cons _ (.cons _ (.cons_cons _ (.cons _ .slnil)))));have S2:CB 19 #[pA p 0] w7 (i6 3):=ai1 S1 (arL hq);refine EA (S:=D) S2 fun w8 D hp=>?_;have S1:=D.swap.sc (L':=[(q,#[pA f'.cp 0],49)]) (.cons _ (.cons _ (.cons _ (.cons _ (.cons_cons _ .slnil)))));have S2:CB 19 #[pA q 0] w8 (i6 3):=ai1 S1 (arL hq);refine EA (S:=D) S2 fun w9 D hp=>?_;have S1:=D.sc (L':=[(p,#[pA f.cp 0],49)]) (.cons _ (.cons _ (.cons _ (.cons_cons _ (.cons _ .slnil)))));have S2:CB 19 #[pA p 0] w9 (i6 3):=ai1 S1 (arL hq);refine EA (S:=D) S2 fun o2 D hp=>?_;refine EA (S:=D) AP fun w4 D hp=>?_;refine p1 ?_;exact⟨rfl,D.xo.below⟩
end
end Go.Proofs.YtdkpbpjcbkibiaaGreatDoor.B
