/- Rd -/
import Derived.Test.YtdkpbpjcbkibiaaGreatDoorV46
set_option linter.all false
set_option maxRecDepth 100000
set_option maxHeartbeats 4000000
namespace Go.Proofs.YtdkpbpjcbkibiaaGreatDoor.B
open Go.RowKit
section
open Go.RowKit
variable{a a':Act}{o:Oper}{x y:Operand}{l:List UInt8}{p:Int}{m g k n:Nat}{w:World}{L L':List (Nat×Array Value×TypeId)}{t:TypeId}{F:Nat→Nat→Int}{S:Nat→Prop}{G1:World→Prop}{ops:Array Oper}{rest:List Oper}
theorem arD{C:World→Prop}(hg:CX l)(ho:o.op=.index 9 x y)(hx:a.eval x=.string ⟨l.toArray⟩)(hy:a.eval y=i6 p)(e1:p=(m:Int))(h:m<16):aaP C a o (.int .u8 (Gw (cJ l m))):=fun w _=>by subst e1;obtain⟨b,gV,er⟩:=hg.get h;exact er▸ac6 U9 hx hy gV ho
def wdK(wA:Nat→Int)(i:Nat)(m:Nat→Int):Nat→Nat→Int
 |0=>m
 |j+1=>lh (wdK wA i m j) i (Lt .u64 (nZ .u64 (wdK wA i m j i) 8) (IntKind.u64.wrap (wA (8*i+(7-j)))))
def wdN(wA:Nat→Int):Nat→Nat→Int
 |0=>fun _=>0
 |i+1=>wdK wA i (wdN wA i) 8
def inR(h:Nat→Int):Nat→Nat→Int
 |0=>fun _=>0
 |i+1=>lh (lh (inR h i) i (h i)) (i+8) (dr i)
def tkR(v:Nat→Int)(n:Int):Nat→Int:=lh v 12 (dM .u64 (v 12) n)
def laR(v:Nat→Int):Nat→Int:=lh v 14 (dM .u64 (if IntKind.u64.signed then-1 else IntKind.u64.max) (v 14))
def c1R(m:Nat→Int)(l:List UInt8)(v:Nat→Int):Nat→Nat→Int
 |0=>v
 |k+1=>an5 (c1R m l v k) k (k+4) (k+8) (k+12) (m (cJ l (2*k))) (m (cJ l (2*k+1)))
def c2R(m:Nat→Int)(l:List UInt8)(v:Nat→Int):Nat→Nat→Int
 |0=>v
 |k+1=>an5 (c2R m l v k) k (4+(k+1)%4) (8+(k+2)%4) (12+(k+3)%4) (m (cJ l (8+2*k))) (m (cJ l (9+2*k)))
def rdR(m v:Nat→Int):Nat→Nat→Int
 |0=>v
 |i+1=>c2R m (lN.getD (i%10) []) (c1R m (lN.getD (i%10) []) (rdR m v i) 4) 4
def fiR(h v:Nat→Int):Nat→Nat→Int
 |0=>h
 |i+1=>lh (fiR h v i) i (dM .u64 (dM .u64 (fiR h v i i) (v i)) (v (i+8)))
def blR(h wA:Nat→Int)(n:Int):Nat→Int:=fiR h (rdR (wdN wA 16) (laR (tkR (inR h 8) n)) 12) 8
theorem Hp.sab{w2:World}{cs cs':Array Value}(hp:Hp w L)(hk:SA L g cs t cs' L')(hb:bH w2 g cs' t)(ht:au (fun x=>x=g) w w2):Hp w2 L':=by obtain⟨k,h1,h2⟩:=hk;exact h2▸hp.vX k hb ht h1
section
variable{r:Option Nat}{ops:Array Oper}{Q:Exit→Act→World→Prop}{a a':Act}{w w0:World}{rest:List Oper}{o:Oper}{v:Value}{N:Option Tmp}{L L':List (Nat×Array Value×TypeId)}{g:Nat}{f:Nat→Int}{t:TypeId}{xs:Array Operand}{ts:Array TypeId}{p1 p2 p3 p4 x y:Int}{n1 n2 n3 aiY:Nat}
theorem aqs(h:∀w2,Hp w2 L'→au S w0 w2→G1 w2)(hT:au S w0 w:=by exact hT)(kg:o.op=.call {callee:=.value (.func 211),args:=xs,argTypes:=ts}:=by rfl)(ft:xs.map a.eval=#[pA g 0,i6 p1,i6 p2,i6 p3,i6 p4,.int .u64 x,.int .u64 y]:=by(simp only[ayH,ayC,ayB];rfl))(e1:p1=(n1:Int):=by exact abc)(e2:p2=(n2:Int):=by exact abc)(e3:p3=(n3:Int):=by exact abc)(e4:p4=(aiY:Int):=by exact abc)(l1:n1<16:=by omega)(l2:n2<16:=by omega)(l3:n3<16:=by omega)(aqt:aiY<16:=by omega)(hp:Hp w L:=by exact hp)(hk:SA L g (aH .u64 16 (F k)) t (aH .u64 16 (F (k+1))) L':=by(repeat (first|with_reducible exact alI|apply alJ)))(he:an5 (F k) n1 n2 n3 aiY x y=F (k+1):=by rfl)(hw:Region.wanted o (yielded ops a.tmps)=true:=by rfl)(ha:a.put o.dst (.tuple #[])=a':=by exact PT)(hS:w0.heap.size≤g:=by assumption)(j:∀w2,Hp w2 L'→Hd (G1 w2)→WL r ops Q rest a' w2:=by(intro w2 hp;exact ady)):WL r ops Q (o::rest) a w:=by subst e1;subst e2;subst e3;subst e4;obtain⟨z,Zd,KJ⟩:=hk;refine ce (apL (hp.at z Zd) n1 n2 n3 aiY l1 l2 l3 aqt x y) (fun _ w2 ⟨h1,h2,h3⟩=>⟨_,h1,?_⟩) kg dd ft hw;have q:=hp.sab ⟨z,Zd,KJ⟩ (he▸h2) h3;rw[ha];exact j w2 q ⟨h w2 q (hT.trans (h3.mono fun b _ e=>.inr (e▸hS)))⟩
end
theorem z_K{i:Nat}{k:IntKind}{ty:TypeId}{r:Option Nat}{Q:Exit→Act→World→Prop}{w0:World}(h:∀w2,Hp w2 L'→au S w0 w2→G1 w2)(hT:au S w0 w:=by exact hT)(ho:o.op=.store ty x y:=by rfl)(hx:uT a x=some (pA g i):=by rfl)(hy:uT a y=some (.int k p):=by rfl)(hs:xH ty NP=some 1:=by rfl)(hp:Hp w L:=by exact hp)(hk:SA L g (aH k n (F m)) t (aH k n (F (m+1))) L':=by(repeat (first|with_reducible exact alI|apply alJ)))(he:lh (F m) i p=F (m+1):=by rfl)(hi:i<n:=by omega)(hw:Region.wanted o (yielded ops a.tmps)=true:=by rfl)(ha:a.put o.dst undef=a':=by exact PT)(hS:w0.heap.size≤g:=by assumption)(j:∀w2,Hp w2 L'→Hd (G1 w2)→WL r ops Q rest a' w2:=by(intro w2 hp;exact ady)):WL r ops Q (o::rest) a w:=z_T (F (m+1)) h hT ho hx hy hs hp hk he hi hw ha (.inr hS) j
theorem arF{Q:Act→Prop}{W:World}{N:Option Tmp}{ts:Array TypeId}(hg:CX l)(h:WQ Tryz.prog ops (Below W.heap.size W) Q rest a')(kg:o.op=.call {callee:=.value (.func 212),args:=#[x],argTypes:=ts}:=by rfl)(hx:a.eval x=.int .u8 (Gw (cJ l k)):=by rfl)(hk:k<16:=by omega)(hN:o.dst=N:=by rfl)(hw:Region.wanted o (yielded ops a.tmps)=true:=by rfl)(ha:a.put N (i6 ((cJ l k:Nat):Int))=a':=by exact PT):WQ Tryz.prog ops (Below W.heap.size W) Q (o::rest) a:=qc (fun w' hw=>dJ hw (amP (hg.at_ k hk).2.1)) h kg dd (by simp[hx]) hN hw ha
theorem aoP{G G':Prop}(h:G')(i:Hd G'→G:=by(intro hz;(repeat (first|refine qk ?_|refine qx ?_|(refine aiB ?_ (arD hg rfl rfl rfl abc om))|(refine aiB ?_ (aqh rfl rfl rfl abc rfl (hg.at_ _ dd).2.1))|(refine aiB ?_ (an3 rfl rfl (fun w h=>(hp.kn aiO).below h) (hg.at_ _ dd).2.1 rfl))|refine aiB ?_|refine arF hg ?_));exact hz.out)):G:=i ⟨h⟩
theorem amR{gp c:Nat}{arr:Array Value}{wA h:Nat→Int}(hb:bH w gp arr 5)(wM:∀j,j<128→arr[j]?=some (.int .u8 (wA j)))(hn:n<128):CB 167 #[.agg (aH .u64 8 h),.slice (some ⟨gp,0,none⟩) 128 c,i6 (n:Int),.bool true] w (.agg (aH .u64 8 (blR h wA n))):=by
 have hp:=(Hp.nil w).cons hb (by simp);have hT:=au.refl (fun _=>False) w;refine fe Tryz.func167 Tryz.ntmps167 ?_;refine wB ?_;refine aiQ fun g4 w1 hp f4 hT=>?_;refine afj fun g8 w1 hp f8 hT=>?_;refine afj fun g9 w1 hp f9 hT=>?_;refine afH 156 (fun i=>[(1,.slice (some ⟨gp,0,none⟩) 128 c),(2,i6 (n:Int)),(3,.bool true),(4,pA g4 0),(8,pA g8 0),(9,pA g9 0),(10,i6 (i:Int))]) (fun i w'=>Hp w' [(g9,aH .u64 16 (wdN wA i),310),(g8,aH .u64 8 (fun _=>0),268),(g4,aH .u64 8 h,268),(gp,arr,5)]∧au (fun _=>False) w w') 16 0 ⟨hp,hT⟩ ?_;rintro i u w1 hi ⟨hp,hT⟩;refine afK ?_;refine wB ?_;by_cases hc:i<16
 ·have c1:(i:Int)<16:=by omega
  have hp:Hp _ [(g9,aH .u64 16 (wdK wA i (wdN wA i) 0),310),(g8,aH .u64 8 (fun _=>0),268),(g4,aH .u64 8 h,268),(gp,arr,5)]:=hp;refine wB ?_;refine iR 9 ?_;refine wB ?_;iterate 8 (refine gu 15 ?_;refine ade ?_;refine n_T fun w1 hb hp hT=>?_;refine z_K fun w1 hp hT=>?_)
  refine wB ?_;exact⟨hc,FRB,hp,hT⟩
 have c1:¬(i:Int)<16:=by omega
 obtain rfl:i=16:=by omega
 refine wB ?_;refine afj fun adG w1 hp arV hT=>?_;refine ae6 aiC fun w1 hp hT=>?_;refine afj fun gi w1 hp arW hT=>?_;refine agi fun w1 hp hT=>?_;have hp:Hp _ [(gi,aH .u64 8 dr,268),(adG,aH .u64 16 (inR h 0),310),(g9,aH .u64 16 (wdN wA 16),310),(g8,aH .u64 8 (fun _=>0),268),(g4,aH .u64 8 h,268),(gp,arr,5)]:=hp;have hp:=hp.aqp;refine afH 156 (fun i=>[(1,.slice (some ⟨gp,0,none⟩) 128 c),(2,i6 (n:Int)),(3,.bool true),(4,pA g4 0),(8,pA g8 0),(9,pA g9 0),(12,pA adG 0),(13,pA gi 0),(14,i6 (i:Int))]) (fun i w'=>Hp w' [(adG,aH .u64 16 (inR h i),310),(gi,aH .u64 8 dr,268),(g9,aH .u64 16 (wdN wA 16),310),(g8,aH .u64 8 (fun _=>0),268),(g4,aH .u64 8 h,268),(gp,arr,5)]∧au (fun _=>False) w w') 8 0 ⟨hp,hT⟩ ?_;rintro i u w1 hi ⟨hp,hT⟩;refine afK ?_;refine wB ?_;by_cases hc:i<8
 ·have c1:(i:Int)<8:=by omega
  refine wB ?_;refine pH 13 (some 10) none [(gi,aH .u64 8 dr,268),(g9,aH .u64 16 (wdN wA 16),310),(g8,aH .u64 8 (fun _=>0),268),(g4,aH .u64 8 h,268),(gp,arr,5)] fun bl=>?_;refine ah 0 ?_;refine ah 1 ?_;refine afO 2 ?_;refine ah 3 ?_;refine afO 4 ?_;refine afO 5 ?_;refine ah 6 ?_;refine afO 7 ?_;refine afO 8 ?_;refine afO 9 ?_;refine nF 10 (fun w1 hb hp bl=>?_) (hp:=hp) (hD:=fun _ hb=>⟨br (U bl hb),az (hp.tail.below hb)⟩);have hT:=hT.step hb;refine z_T (lh (inR h i) i (h i)) fun w1 hp hT=>?_;refine aD 11 (fun w1 hb hp=>?_) (hp:=hp) (hD:=fun _ hb=>⟨aR rfl,az (hp.tail.below hb)⟩);have hT:=hT.step hb;refine wB ?_;refine aD 12 (fun w1 hb hp=>?_) (hp:=hp) (hD:=fun _ hb=>⟨aR rfl,az (hp.tail.below hb)⟩);have hT:=hT.step hb;refine z_T (inR h (i+1)) fun w1 hp hT=>?_;refine aE (fun w1 hb hp=>?_) (hp:=hp) (hD:=fun _ hb=>⟨aR rfl,az (hp.tail.below hb)⟩);have hT:=hT.step hb;refine wB ?_;exact⟨hc,FRB,hp,hT⟩
 have c1:¬(i:Int)<8:=by omega
 obtain rfl:i=8:=by omega
 refine wB ?_;refine z_T (tkR (inR h 8) n) fun w1 hp hT=>?_;refine z_T (laR (tkR (inR h 8) n)) fun w1 hp hT=>?_;refine afH 156 (fun i=>[(4,pA g4 0),(8,pA g8 0),(9,pA g9 0),(12,pA adG 0),(15,i6 (i:Int))]) (fun i w'=>Hp w' [(adG,aH .u64 16 (rdR (wdN wA 16) (laR (tkR (inR h 8) n)) i),310),(gi,aH .u64 8 dr,268),(g9,aH .u64 16 (wdN wA 16),310),(g8,aH .u64 8 (fun _=>0),268),(g4,aH .u64 8 h,268),(gp,arr,5)]∧au (fun _=>False) w w') 12 0 ⟨hp,hT⟩ ?_;rintro i u w1 hi ⟨hp,hT⟩;refine afK ?_;refine wB ?_;by_cases hc:i<12
 ·have c1:(i:Int)<12:=by omega
  have hg:=xy (Nat.mod_lt i (show 10>0 by decide));refine wB ?_;refine ae6 (amQ hc) fun w1 hp hT=>?_;have hp:Hp _ [(adG,aH .u64 16 (c1R (wdN wA 16) (lN.getD (i%10) []) (rdR (wdN wA 16) (laR (tkR (inR h 8) n)) i) 0),310),(gi,aH .u64 8 dr,268),(g9,aH .u64 16 (wdN wA 16),310),(g8,aH .u64 8 (fun _=>0),268),(g4,aH .u64 8 h,268),(gp,arr,5)]:=hp;refine iR 5 ?_;refine wB ?_;iterate 4 (refine gu 22 ?_;refine aoP ?_;refine n_T fun w1 hb hp hT=>?_;refine aqs fun w1 hp hT=>?_)
  have hp:Hp _ [(adG,aH .u64 16 (c2R (wdN wA 16) (lN.getD (i%10) []) (c1R (wdN wA 16) (lN.getD (i%10) []) (rdR (wdN wA 16) (laR (tkR (inR h 8) n)) i) 4) 0),310),(gi,aH .u64 8 dr,268),(g9,aH .u64 16 (wdN wA 16),310),(g8,aH .u64 8 (fun _=>0),268),(g4,aH .u64 8 h,268),(gp,arr,5)]:=hp;refine wB ?_;refine iR 5 ?_;refine wB ?_;iterate 4 (refine gu 29 ?_;refine aoP ?_;refine n_T fun w1 hb hp hT=>?_;refine aqs fun w1 hp hT=>?_)
  refine wB ?_;exact⟨hc,FRB,hp,hT⟩
 have c1:¬(i:Int)<12:=by omega
 obtain rfl:i=12:=by omega
 have hp:Hp _ [(adG,aH .u64 16 (rdR (wdN wA 16) (laR (tkR (inR h 8) n)) 12),310),(gi,aH .u64 8 dr,268),(g9,aH .u64 16 (wdN wA 16),310),(g8,aH .u64 8 (fun _=>0),268),(g4,aH .u64 8 (fiR h (rdR (wdN wA 16) (laR (tkR (inR h 8) n)) 12) 0),268),(gp,arr,5)]:=hp;refine wB ?_;refine iR 9 ?_;refine wB ?_;iterate 8 (refine gu 14 ?_;refine ade ?_;refine n_T fun w1 hb hp hT=>?_;refine z_K fun w1 hp hT=>?_)
 have hp:Hp _ [(adG,aH .u64 16 (rdR (wdN wA 16) (laR (tkR (inR h 8) n)) 12),310),(gi,aH .u64 8 dr,268),(g9,aH .u64 16 (wdN wA 16),310),(g8,aH .u64 8 (fun _=>0),268),(g4,aH .u64 8 (blR h wA n),268),(gp,arr,5)]:=hp;refine wB ?_;refine agi fun w1 hp hT=>?_;refine kh (el (s:=8) (ty:=268) (hp.at 3) U268 (by rw[ax];kernel_rfl)) ?_;exact⟨rfl,adE hT⟩
end
end Go.Proofs.YtdkpbpjcbkibiaaGreatDoor.B
