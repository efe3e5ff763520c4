/- Fld Bl Blr -/
import Derived.Test.YtdkpbpjcbkibiaaGreatDoorV27
import Derived.Test.YtdkpbpjcbkibiaaGreatDoorV0
import Derived.Test.YtdkpbpjcbkibiaaGreatDoorV1
import Derived.Test.YtdkpbpjcbkibiaaGreatDoorV37
set_option linter.all false
set_option maxRecDepth 100000
set_option maxHeartbeats 4000000
namespace Go.Proofs.YtdkpbpjcbkibiaaGreatDoor.B
open Go.RowKit
section
open Go.RowKit Go.Shelf
def aaD:Ren where
 f:=fun x=>match x with
  |157=>252|229=>276|199=>277|261=>297|311=>308|312=>309|n=>n
 t:=fun x=>match x with
  |31=>354|119=>377|40=>379|152=>394|154=>396|51=>391|141=>398|196=>411|193=>408|198=>414|49=>412|194=>409|201=>417|226=>421|46=>105|227=>422|n=>n
 g:=fun x=>match x with
  |0=>1|6=>2|n=>n
theorem BA:Lays.n157 Tryz.prog aaD where
 mixed:=by kernel_rfl
 f157:=Tryz.func252.trans (congrArg some kr)
 f199:=Tryz.func277.trans (congrArg some kr)
 f229:=Tryz.func276.trans (congrArg some kr)
 f261:=Tryz.func297.trans (congrArg some kr)
 f311:=Tryz.func308.trans (congrArg some kr)
 f312:=Tryz.func309.trans (congrArg some kr)
 t0:=U0
 a0:=Tryz.isAgg0
 z0:=Tryz.sizeOf0
 v0:=Tryz.zeroValue0
 t3:=U3
 a3:=Tryz.isAgg3
 z3:=Tryz.sizeOf3
 v3:=Tryz.zeroValue3
 t4:=U4
 a4:=Tryz.isAgg4
 z4:=Tryz.sizeOf4
 v4:=Tryz.zeroValue4
 t5:=U5
 a5:=Tryz.isAgg5
 z5:=Tryz.sizeOf5
 v5:=Tryz.zeroValue5
 t9:=U9
 a9:=Tryz.isAgg9
 z9:=Tryz.sizeOf9
 v9:=Tryz.zeroValue9
 t21:=U21
 a21:=Tryz.isAgg21
 z21:=Tryz.sizeOf21
 v21:=Tryz.zeroValue21
 t31:=U354
 a31:=Tryz.isAgg354
 z31:=Tryz.sizeOf354
 v31:=Tryz.zeroValue354
 t40:=U379
 a40:=Tryz.isAgg379
 z40:=Tryz.sizeOf379
 v40:=Tryz.zeroValue379
 t46:=U105
 a46:=Tryz.isAgg105
 z46:=Tryz.sizeOf105
 v46:=Tryz.zeroValue105
 t49:=U412
 a49:=Tryz.isAgg412
 z49:=Tryz.sizeOf412
 v49:=Tryz.zeroValue412
 t51:=U391
 a51:=Tryz.isAgg391
 z51:=Tryz.sizeOf391
 v51:=Tryz.zeroValue391
 t119:=U377
 a119:=Tryz.isAgg377
 z119:=Tryz.sizeOf377
 t141:=U398
 a141:=Tryz.isAgg398
 z141:=Tryz.sizeOf398
 v141:=Tryz.zeroValue398
 t152:=U394
 a152:=Tryz.isAgg394
 z152:=Tryz.sizeOf394
 v152:=Tryz.zeroValue394
 t154:=U396
 a154:=Tryz.isAgg396
 z154:=Tryz.sizeOf396
 v154:=Tryz.zeroValue396
 t193:=U408
 a193:=Tryz.isAgg408
 z193:=Tryz.sizeOf408
 v193:=Tryz.zeroValue408
 t194:=U409
 a194:=Tryz.isAgg409
 z194:=Tryz.sizeOf409
 v194:=Tryz.zeroValue409
 t196:=U411
 a196:=Tryz.isAgg411
 z196:=Tryz.sizeOf411
 v196:=Tryz.zeroValue411
 t198:=U414
 a198:=Tryz.isAgg414
 z198:=Tryz.sizeOf414
 v198:=Tryz.zeroValue414
 t201:=U417
 a201:=Tryz.isAgg417
 z201:=Tryz.sizeOf417
 v201:=Tryz.zeroValue417
 t226:=U421
 a226:=Tryz.isAgg421
 z226:=Tryz.sizeOf421
 v226:=Tryz.zeroValue421
 t227:=U422
 a227:=Tryz.isAgg422
 z227:=Tryz.sizeOf422
 v227:=Tryz.zeroValue422
 g0:=by kernel_rfl
 g6:=by kernel_rfl
def SG:ByteArray:=⟨#[48,49,50,51,52,53,54,55,56,57,97,98,99,100,101,102,32,101,97,52,56,57,102,100,54,49,99,48,50,98,55,53,51,32,98,56,99,48,53,50,102,100,97,101,51,54,55,49,57,52,32,55,57,51,49,100,99,98,101,50,54,53,97,52,48,102,56,32,57,48,53,55,50,52,97,102,101,49,98,99,54,56,51,100,32,50,99,54,97,48,98,56,51,52,100,55,53,102,101,49,57,32,99,53,49,102,101,100,52,97,48,55,54,51,57,50,56,98,32,100,98,55,101,99,49,51,57,53,48,102,52,56,54,50,97,32,54,102,101,57,98,51,48,56,99,50,100,55,49,52,97,53,32,97,50,56,52,55,54,49,53,102,98,57,101,51,99,100,48]⟩
def lN:List (List UInt8):=[[48,49,50,51,52,53,54,55,56,57,97,98,99,100,101,102],[101,97,52,56,57,102,100,54,49,99,48,50,98,55,53,51],[98,56,99,48,53,50,102,100,97,101,51,54,55,49,57,52],[55,57,51,49,100,99,98,101,50,54,53,97,52,48,102,56],[57,48,53,55,50,52,97,102,101,49,98,99,54,56,51,100],[50,99,54,97,48,98,56,51,52,100,55,53,102,101,49,57],[99,53,49,102,101,100,52,97,48,55,54,51,57,50,56,98],[100,98,55,101,99,49,51,57,53,48,102,52,56,54,50,97],[54,102,101,57,98,51,48,56,99,50,100,55,49,52,97,53],[97,50,56,52,55,54,49,53,102,98,57,101,51,99,100,48]]
theorem IU:Lib.fields SG.data.toList=lN:=by decide+kernel
theorem Nl:∀(j:Nat) b,SG.data.toList[j]?=some b→b.toNat<128:=fun j b h=>by
 have:∀b∈SG.data.toList,b.toNat<128:=by decide+kernel
 exact this b (ayw h)
theorem ac3:∀c:Nat,c<256→agP c=if Lib.isSp (UInt8.ofNat c)then 1 else 0:=by decide+kernel
theorem xu{w:World}(ha:Bi w):CP 252 #[.string SG] w fun e w'=>∃g,e=.returned (.slice (some ⟨g,0,none⟩) 10 10)∧jr w w' g (lN.map fun l=>Value.string ⟨l.toArray⟩).toArray 9:=by obtain⟨arr,t,hb,hv⟩:=ha;have h:=Any.strings_Fields_core BA kr SG w (by decide+kernel) Nl (fun c hc=>by rw[←ac3 c hc];exact(hb.cell c).trans (hv c hc));rw[IU]at h;exact h.mono fun e w' ⟨h1,h2⟩=>⟨w.heap.size,h1,by subst h2;exact jr.uS _ _ _⟩
end
section
open Go.RowKit
variable{k:IntKind}{n i g:Nat}{v:Nat→Int}{x:Int}{w:World}{t:TypeId}
def aH(k:IntKind)(n:Nat)(v:Nat→Int):Array Value:=((List.range n).map fun i=>.int k (v i)).toArray
def lh(v:Nat→Int)(i:Nat)(x:Int):Nat→Int:=fun j=>if j=i then x else v j
theorem ax(k:IntKind)(n:Nat)(v:Nat→Int):(aH k n v).size=n:=by simp[aH]
theorem bJ{j:Nat}(h:j<n):(aH k n v)[j]?=some (.int k (v j)):=by simp[aH,h]
theorem gy(k:IntKind)(n:Nat)(v:Nat→Int):∀u∈(aH k n v).toList,u.oneCell'=true:=by intro u hu;simp[aH]at hu;obtain⟨i,_,rfl⟩:=hu;rfl
theorem Nn(hi:i<n):bt (aH k n v) i [.int k x]=aH k n (lh v i x):=by
 have hs:i+[Value.int k x].length≤(aH k n v).size:=by rw[ax];simp;omega
 apply ayW;intro j;rcases ayQ j n with hj|hj
 ·rw[bJ hj];by_cases e:j=i;·subst e;have h:=cy (cs:=aH k n v) (vs:=[Value.int k x]) (k:=0) (j:=j) (i:=j) rfl (by simp) (by rw[ax];omega);rw[h];simp[lh]
  ·rw[aV (by simp;omega) hs,bJ hj];simp[lh,e]
 ·rw[ayN (by rw[bp hs,ax];exact hj),ayN (by rw[ax];exact hj)]
theorem dO{w2:World}{v':Nat→Int}(p:o1 w w2 g (bt (aH k n v) i [.int k x]) t)(hi:i<n)(e:v'=lh v i x):o1 w w2 g (aH k n v') t:=by subst e;rwa[Nn hi]at p
def Ev(x:Int)(s:Nat):Int:=Lt .u64 (nZ .u64 x s) (fF .u64 x (64-s))
def dI(v:Nat→Int)(a b:Nat)(x:Int):Nat→Int:=lh v a (IntKind.u64.wrap (v a+IntKind.u64.wrap (v b+x)))
def cQ(v:Nat→Int)(d a s:Nat):Nat→Int:=lh v d (Ev (dM .u64 (v d) (v a)) s)
def gz(v:Nat→Int)(c d:Nat):Nat→Int:=lh v c (IntKind.u64.wrap (v c+v d))
def jk(v:Nat→Int)(a b c d:Nat)(x y:Int):Nat→Int:=cQ (gz (cQ (dI (cQ (gz (cQ (dI v a b x) d a 32) c d) b c 40) a b y) d a 48) c d) b c 1
theorem oo:(aH k n v).extract 0 (0+n)=aH k n v:=by
 apply ayW;intro j;rw[ayz];split;·rw[ayR]
 ·rw[ayN (by rw[ax]at*;omega)]
theorem No(x:Int):CB 299 #[.int .u64 x,i6 (-32)] w (.int .u64 (Ev x 32)):=by have hp:=Hp.nil w;have hB:=Below.refl w.heap.size w;refine fe Tryz.func299 Tryz.ntmps299 ?_;refine go ?_;refine ak (.int .u64 18446744073709551584) (iZ (m:=(-32)) (s:=18446744073709551584) U3 U105 rfl kr) ?_;refine ak (.int .u64 32) (JJ (m:=18446744073709551584) (n:=63) (s:=32) rfl rfl kr) ?_;refine ak (.int .u64 (nZ .u64 x 32)) (ur (m:=x) (n:=32) (j:=32) (s:=(nZ .u64 x 32)) rfl rfl rfl rfl) ?_;refine ak (.int .u64 32) (DM (m:=64) (n:=32) (s:=32) rfl rfl kr) ?_;refine ak (.int .u64 (fF .u64 x 32)) (mD (m:=x) (n:=32) (j:=32) (s:=(fF .u64 x 32)) rfl rfl rfl rfl) ?_;refine ak (.int .u64 (Lt .u64 (nZ .u64 x 32) (fF .u64 x 32))) (PE rfl rfl rfl) ?_;refine p1 ?_;exact⟨rfl,hB⟩
theorem Np(x:Int):CB 299 #[.int .u64 x,i6 (-24)] w (.int .u64 (Ev x 40)):=by have hp:=Hp.nil w;have hB:=Below.refl w.heap.size w;refine fe Tryz.func299 Tryz.ntmps299 ?_;refine go ?_;refine ak (.int .u64 18446744073709551592) (iZ (m:=(-24)) (s:=18446744073709551592) U3 U105 rfl kr) ?_;refine ak (.int .u64 40) (JJ (m:=18446744073709551592) (n:=63) (s:=40) rfl rfl kr) ?_;refine ak (.int .u64 (nZ .u64 x 40)) (ur (m:=x) (n:=40) (j:=40) (s:=(nZ .u64 x 40)) rfl rfl rfl rfl) ?_;refine ak (.int .u64 24) (DM (m:=64) (n:=40) (s:=24) rfl rfl kr) ?_;refine ak (.int .u64 (fF .u64 x 24)) (mD (m:=x) (n:=24) (j:=24) (s:=(fF .u64 x 24)) rfl rfl rfl rfl) ?_;refine ak (.int .u64 (Lt .u64 (nZ .u64 x 40) (fF .u64 x 24))) (PE rfl rfl rfl) ?_;refine p1 ?_;exact⟨rfl,hB⟩
theorem Nq(x:Int):CB 299 #[.int .u64 x,i6 (-16)] w (.int .u64 (Ev x 48)):=by have hp:=Hp.nil w;have hB:=Below.refl w.heap.size w;refine fe Tryz.func299 Tryz.ntmps299 ?_;refine go ?_;refine ak (.int .u64 18446744073709551600) (iZ (m:=(-16)) (s:=18446744073709551600) U3 U105 rfl kr) ?_;refine ak (.int .u64 48) (JJ (m:=18446744073709551600) (n:=63) (s:=48) rfl rfl kr) ?_;refine ak (.int .u64 (nZ .u64 x 48)) (ur (m:=x) (n:=48) (j:=48) (s:=(nZ .u64 x 48)) rfl rfl rfl rfl) ?_;refine ak (.int .u64 16) (DM (m:=64) (n:=48) (s:=16) rfl rfl kr) ?_;refine ak (.int .u64 (fF .u64 x 16)) (mD (m:=x) (n:=16) (j:=16) (s:=(fF .u64 x 16)) rfl rfl rfl rfl) ?_;refine ak (.int .u64 (Lt .u64 (nZ .u64 x 48) (fF .u64 x 16))) (PE rfl rfl rfl) ?_;refine p1 ?_;exact⟨rfl,hB⟩
theorem SH(x:Int):CB 299 #[.int .u64 x,i6 (-63)] w (.int .u64 (Ev x 1)):=by have hp:=Hp.nil w;have hB:=Below.refl w.heap.size w;refine fe Tryz.func299 Tryz.ntmps299 ?_;refine go ?_;refine ak (.int .u64 18446744073709551553) (iZ (m:=(-63)) (s:=18446744073709551553) U3 U105 rfl kr) ?_;refine ak (.int .u64 1) (JJ (m:=18446744073709551553) (n:=63) (s:=1) rfl rfl kr) ?_;refine ak (.int .u64 (nZ .u64 x 1)) (ur (m:=x) (n:=1) (j:=1) (s:=(nZ .u64 x 1)) rfl rfl rfl rfl) ?_;refine ak (.int .u64 63) (DM (m:=64) (n:=1) (s:=63) rfl rfl kr) ?_;refine ak (.int .u64 (fF .u64 x 63)) (mD (m:=x) (n:=63) (j:=63) (s:=(fF .u64 x 63)) rfl rfl rfl rfl) ?_;refine ak (.int .u64 (Lt .u64 (nZ .u64 x 1) (fF .u64 x 63))) (PE rfl rfl rfl) ?_;refine p1 ?_;exact⟨rfl,hB⟩
theorem mq(hb:bH w g (aH .u64 16 v) t)(a b c d:Nat)(ha:a<16)(er:b<16)(hc:c<16)(hd:d<16)(x y:Int):CP 280 #[pA g 0,i6 (a:Int),i6 (b:Int),i6 (c:Int),i6 (d:Int),.int .u64 x,.int .u64 y] w fun e w'=>e=.returned (.tuple #[])∧bH w' g (aH .u64 16 (jk v a b c d x y)) t∧au (fun b=>b=g) w w':=by have hp:=(Hp.nil w).cons hb (by simp);have hT:=au.refl (fun b=>b=g) w;refine fe Tryz.func280 Tryz.ntmps280 ?_;refine go ?_;refine gu 15 ?_;refine gq ?_;refine qs (pA g a) (fun w' h'=>ed (n:=16) (j:=(a:Int)) (off:=0) (sz:=1) U310 kr rfl rfl om om (by first|(simp;done)|(simp;omega)|omega)) ?_;refine qs (.int .u64 (v a)) (fun w' h'=>ay ((hp.at 0).below h') (bJ om) U267 rfl) ?_;refine gq ?_;refine qs (pA g b) (fun w' h'=>ed (n:=16) (j:=(b:Int)) (off:=0) (sz:=1) U310 kr rfl rfl om om (by first|(simp;done)|(simp;omega)|omega)) ?_;refine qs (.int .u64 (v b)) (fun w' h'=>ay ((hp.at 0).below h') (bJ om) U267 rfl) ?_;refine gq ?_;refine qs (.int .u64 (IntKind.u64.wrap ((v b)+x))) (fun w' h'=>qw rfl rfl rfl) ?_;refine qs (.int .u64 (IntKind.u64.wrap ((v a)+(IntKind.u64.wrap ((v b)+x))))) (fun w' h'=>qw rfl rfl rfl) ?_;refine gq ?_;refine qs (pA g a) (fun w' h'=>ed (n:=16) (j:=(a:Int)) (off:=0) (sz:=1) U310 kr rfl rfl om om (by first|(simp;done)|(simp;omega)|omega)) ?_;refine nl fun w1 er hp=>?_;have hT:=hT.step er;refine aU (i:=a) (v:=.int .u64 (IntKind.u64.wrap ((v a)+(IntKind.u64.wrap ((v b)+x))))) (hp.at 0) rfl rfl kr (by show a+1≤(aH _ _ _).size;rw[ax];omega) (by simp[Value.oneCell',Value.cells]) (fun w4 p3=>ab ?_);have p3:=dO (v':=(dI v a b x)) p3 om rfl;have hp:=(hp.put 0 p3).nf;have hT:=hT.put p3 (.inl rfl);refine go ?_;refine gu 16 ?_;refine gq ?_;refine qs (pA g d) (fun w' h'=>ed (n:=16) (j:=(d:Int)) (off:=0) (sz:=1) U310 kr rfl rfl om om (by first|(simp;done)|(simp;omega)|omega)) ?_;refine qs (.int .u64 ((dI v a b x) d)) (fun w' h'=>ay ((hp.at 0).below h') (bJ om) U267 rfl) ?_;refine gq ?_;refine qs (pA g a) (fun w' h'=>ed (n:=16) (j:=(a:Int)) (off:=0) (sz:=1) U310 kr rfl rfl om om (by first|(simp;done)|(simp;omega)|omega)) ?_;refine qs (.int .u64 ((dI v a b x) a)) (fun w' h'=>ay ((hp.at 0).below h') (bJ om) U267 rfl) ?_;refine qs (.int .u64 (dM .u64 ((dI v a b x) d) ((dI v a b x) a))) (fun w' h'=>mc rfl rfl rfl) ?_;refine qc (fun w' h'=>dJ h' (No _)) ?_;refine gq ?_;refine qs (pA g d) (fun w' h'=>ed (n:=16) (j:=(d:Int)) (off:=0) (sz:=1) U310 kr rfl rfl om om (by first|(simp;done)|(simp;omega)|omega)) ?_;refine nl fun w5 nQ hp=>?_;have hT:=hT.step nQ;refine aU (i:=d) (v:=.int .u64 (Ev (dM .u64 ((dI v a b x) d) ((dI v a b x) a)) 32)) (hp.at 0) rfl rfl kr (by show d+1≤(aH _ _ _).size;rw[ax];omega) (by simp[Value.oneCell',Value.cells]) (fun w8 p7=>ab ?_);have p7:=dO (v':=(cQ (dI v a b x) d a 32)) p7 om rfl;have hp:=(hp.put 0 p7).nf;have hT:=hT.put p7 (.inl rfl);refine go ?_;refine gu 13 ?_;refine gq ?_;refine qs (pA g c) (fun w' h'=>ed (n:=16) (j:=(c:Int)) (off:=0) (sz:=1) U310 kr rfl rfl om om (by first|(simp;done)|(simp;omega)|omega)) ?_;refine qs (.int .u64 ((cQ (dI v a b x) d a 32) c)) (fun w' h'=>ay ((hp.at 0).below h') (bJ om) U267 rfl) ?_;refine gq ?_;refine qs (pA g d) (fun w' h'=>ed (n:=16) (j:=(d:Int)) (off:=0) (sz:=1) U310 kr rfl rfl om om (by first|(simp;done)|(simp;omega)|omega)) ?_;refine qs (.int .u64 ((cQ (dI v a b x) d a 32) d)) (fun w' h'=>ay ((hp.at 0).below h') (bJ om) U267 rfl) ?_;refine qs (.int .u64 (IntKind.u64.wrap (((cQ (dI v a b x) d a 32) c)+((cQ (dI v a b x) d a 32) d)))) (fun w' h'=>qw rfl rfl rfl) ?_;refine gq ?_;refine qs (pA g c) (fun w' h'=>ed (n:=16) (j:=(c:Int)) (off:=0) (sz:=1) U310 kr rfl rfl om om (by first|(simp;done)|(simp;omega)|omega)) ?_;refine nl fun w9 nS hp=>?_;have hT:=hT.step nS;refine aU (i:=c) (v:=.int .u64 (IntKind.u64.wrap (((cQ (dI v a b x) d a 32) c)+((cQ (dI v a b x) d a 32) d)))) (hp.at 0) rfl rfl kr (by show c+1≤(aH _ _ _).size;rw[ax];omega) (by simp[Value.oneCell',Value.cells]) (fun pW Ht=>ab ?_);have Ht:=dO (v':=(gz (cQ (dI v a b x) d a 32) c d)) Ht om rfl;have hp:=(hp.put 0 Ht).nf;have hT:=hT.put Ht (.inl rfl);refine go ?_;refine gu 16 ?_;refine gq ?_;refine qs (pA g b) (fun w' h'=>ed (n:=16) (j:=(b:Int)) (off:=0) (sz:=1) U310 kr rfl rfl om om (by first|(simp;done)|(simp;omega)|omega)) ?_;refine qs (.int .u64 ((gz (cQ (dI v a b x) d a 32) c d) b)) (fun w' h'=>ay ((hp.at 0).below h') (bJ om) U267 rfl) ?_;refine gq ?_;refine qs (pA g c) (fun w' h'=>ed (n:=16) (j:=(c:Int)) (off:=0) (sz:=1) U310 kr rfl rfl om om (by first|(simp;done)|(simp;omega)|omega)) ?_;refine qs (.int .u64 ((gz (cQ (dI v a b x) d a 32) c d) c)) (fun w' h'=>ay ((hp.at 0).below h') (bJ om) U267 rfl) ?_;refine qs (.int .u64 (dM .u64 ((gz (cQ (dI v a b x) d a 32) c d) b) ((gz (cQ (dI v a b x) d a 32) c d) c))) (fun w' h'=>mc rfl rfl rfl) ?_;refine qc (fun w' h'=>dJ h' (Np _)) ?_;refine gq ?_;refine qs (pA g b) (fun w' h'=>ed (n:=16) (j:=(b:Int)) (off:=0) (sz:=1) U310 kr rfl rfl om om (by first|(simp;done)|(simp;omega)|omega)) ?_;refine nl fun oD eI hp=>?_;have hT:=hT.step eI;refine aU (i:=b) (v:=.int .u64 (Ev (dM .u64 ((gz (cQ (dI v a b x) d a 32) c d) b) ((gz (cQ (dI v a b x) d a 32) c d) c)) 40)) (hp.at 0) rfl rfl kr (by show b+1≤(aH _ _ _).size;rw[ax];omega) (by simp[Value.oneCell',Value.cells]) (fun qf Fm=>ab ?_);have Fm:=dO (v':=(cQ (gz (cQ (dI v a b x) d a 32) c d) b c 40)) Fm om rfl;have hp:=(hp.put 0 Fm).nf;have hT:=hT.put Fm (.inl rfl);refine go ?_;refine gu 15 ?_;refine gq ?_;refine qs (pA g a) (fun w' h'=>ed (n:=16) (j:=(a:Int)) (off:=0) (sz:=1) U310 kr rfl rfl om om (by first|(simp;done)|(simp;omega)|omega)) ?_;refine qs (.int .u64 ((cQ (gz (cQ (dI v a b x) d a 32) c d) b c 40) a)) (fun w' h'=>ay ((hp.at 0).below h') (bJ om) U267 rfl) ?_;refine gq ?_;refine qs (pA g b) (fun w' h'=>ed (n:=16) (j:=(b:Int)) (off:=0) (sz:=1) U310 kr rfl rfl om om (by first|(simp;done)|(simp;omega)|omega)) ?_;refine qs (.int .u64 ((cQ (gz (cQ (dI v a b x) d a 32) c d) b c 40) b)) (fun w' h'=>ay ((hp.at 0).below h') (bJ om) U267 rfl) ?_;refine gq ?_;refine qs (.int .u64 (IntKind.u64.wrap (((cQ (gz (cQ (dI v a b x) d a 32) c d) b c 40) b)+y))) (fun w' h'=>qw rfl rfl rfl) ?_;refine qs (.int .u64 (IntKind.u64.wrap (((cQ (gz (cQ (dI v a b x) d a 32) c d) b c 40) a)+(IntKind.u64.wrap (((cQ (gz (cQ (dI v a b x) d a 32) c d) b c 40) b)+y))))) (fun w' h'=>qw rfl rfl rfl) ?_;refine gq ?_;refine qs (pA g a) (fun w' h'=>ed (n:=16) (j:=(a:Int)) (off:=0) (sz:=1) U310 kr rfl rfl om om (by first|(simp;done)|(simp;omega)|omega)) ?_;refine nl fun s6 gC hp=>?_;have hT:=hT.step gC;refine aU (i:=a) (v:=.int .u64 (IntKind.u64.wrap (((cQ (gz (cQ (dI v a b x) d a 32) c d) b c 40) a)+(IntKind.u64.wrap (((cQ (gz (cQ (dI v a b x) d a 32) c d) b c 40) b)+y))))) (hp.at 0) rfl rfl kr (by show a+1≤(aH _ _ _).size;rw[ax];omega) (by simp[Value.oneCell',Value.cells]) (fun re pY=>ab ?_);have pY:=dO (v':=(dI (cQ (gz (cQ (dI v a b x) d a 32) c d) b c 40) a b y)) pY om rfl;have hp:=(hp.put 0 pY).nf;have hT:=hT.put pY (.inl rfl);refine go ?_;refine gu 16 ?_;refine gq ?_;refine qs (pA g d) (fun w' h'=>ed (n:=16) (j:=(d:Int)) (off:=0) (sz:=1) U310 kr rfl rfl om om (by first|(simp;done)|(simp;omega)|omega)) ?_;refine qs (.int .u64 ((dI (cQ (gz (cQ (dI v a b x) d a 32) c d) b c 40) a b y) d)) (fun w' h'=>ay ((hp.at 0).below h') (bJ om) U267 rfl) ?_;refine gq ?_;refine qs (pA g a) (fun w' h'=>ed (n:=16) (j:=(a:Int)) (off:=0) (sz:=1) U310 kr rfl rfl om om (by first|(simp;done)|(simp;omega)|omega)) ?_;refine qs (.int .u64 ((dI (cQ (gz (cQ (dI v a b x) d a 32) c d) b c 40) a b y) a)) (fun w' h'=>ay ((hp.at 0).below h') (bJ om) U267 rfl) ?_;refine qs (.int .u64 (dM .u64 ((dI (cQ (gz (cQ (dI v a b x) d a 32) c d) b c 40) a b y) d) ((dI (cQ (gz (cQ (dI v a b x) d a 32) c d) b c 40) a b y) a))) (fun w' h'=>mc rfl rfl rfl) ?_;refine qc (fun w' h'=>dJ h' (Nq _)) ?_;refine gq ?_;refine qs (pA g d) (fun w' h'=>ed (n:=16) (j:=(d:Int)) (off:=0) (sz:=1) U310 kr rfl rfl om om (by first|(simp;done)|(simp;omega)|omega)) ?_;refine nl fun uG fw hp=>?_;have hT:=hT.step fw;refine aU (i:=d) (v:=.int .u64 (Ev (dM .u64 ((dI (cQ (gz (cQ (dI v a b x) d a 32) c d) b c 40) a b y) d) ((dI (cQ (gz (cQ (dI v a b x) d a 32) c d) b c 40) a b y) a)) 48)) (hp.at 0) rfl rfl kr (by show d+1≤(aH _ _ _).size;rw[ax];omega) (by simp[Value.oneCell',Value.cells]) (fun AZ uJ=>ab ?_);have uJ:=dO (v':=(cQ (dI (cQ (gz (cQ (dI v a b x) d a 32) c d) b c 40) a b y) d a 48)) uJ om rfl;have hp:=(hp.put 0 uJ).nf;have hT:=hT.put uJ (.inl rfl);refine go ?_;refine gu 13 ?_;refine gq ?_;refine qs (pA g c) (fun w' h'=>ed (n:=16) (j:=(c:Int)) (off:=0) (sz:=1) U310 kr rfl rfl om om (by first|(simp;done)|(simp;omega)|omega)) ?_;refine qs (.int .u64 ((cQ (dI (cQ (gz (cQ (dI v a b x) d a 32) c d) b c 40) a b y) d a 48) c)) (fun w' h'=>ay ((hp.at 0).below h') (bJ om) U267 rfl) ?_;refine gq ?_;refine qs (pA g d) (fun w' h'=>ed (n:=16) (j:=(d:Int)) (off:=0) (sz:=1) U310 kr rfl rfl om om (by first|(simp;done)|(simp;omega)|omega)) ?_;refine qs (.int .u64 ((cQ (dI (cQ (gz (cQ (dI v a b x) d a 32) c d) b c 40) a b y) d a 48) d)) (fun w' h'=>ay ((hp.at 0).below h') (bJ om) U267 rfl) ?_;refine qs (.int .u64 (IntKind.u64.wrap (((cQ (dI (cQ (gz (cQ (dI v a b x) d a 32) c d) b c 40) a b y) d a 48) c)+((cQ (dI (cQ (gz (cQ (dI v a b x) d a 32) c d) b c 40) a b y) d a 48) d)))) (fun w' h'=>qw rfl rfl rfl) ?_;refine gq ?_;refine qs (pA g c) (fun w' h'=>ed (n:=16) (j:=(c:Int)) (off:=0) (sz:=1) U310 kr rfl rfl om om (by first|(simp;done)|(simp;omega)|omega)) ?_;refine nl fun Hc qY hp=>?_;have hT:=hT.step qY;refine aU (i:=c) (v:=.int .u64 (IntKind.u64.wrap (((cQ (dI (cQ (gz (cQ (dI v a b x) d a 32) c d) b c 40) a b y) d a 48) c)+((cQ (dI (cQ (gz (cQ (dI v a b x) d a 32) c d) b c 40) a b y) d a 48) d)))) (hp.at 0) rfl rfl kr (by show c+1≤(aH _ _ _).size;rw[ax];omega) (by simp[Value.oneCell',Value.cells]) (fun FM lV=>ab ?_);have lV:=dO (v':=(gz (cQ (dI (cQ (gz (cQ (dI v a b x) d a 32) c d) b c 40) a b y) d a 48) c d)) lV om rfl;have hp:=(hp.put 0 lV).nf;have hT:=hT.put lV (.inl rfl);refine go ?_;refine gu 16 ?_;refine gq ?_;refine qs (pA g b) (fun w' h'=>ed (n:=16) (j:=(b:Int)) (off:=0) (sz:=1) U310 kr rfl rfl om om (by first|(simp;done)|(simp;omega)|omega)) ?_;refine qs (.int .u64 ((gz (cQ (dI (cQ (gz (cQ (dI v a b x) d a 32) c d) b c 40) a b y) d a 48) c d) b)) (fun w' h'=>ay ((hp.at 0).below h') (bJ om) U267 rfl) ?_;refine gq ?_;refine qs (pA g c) (fun w' h'=>ed (n:=16) (j:=(c:Int)) (off:=0) (sz:=1) U310 kr rfl rfl om om (by first|(simp;done)|(simp;omega)|omega)) ?_;refine qs (.int .u64 ((gz (cQ (dI (cQ (gz (cQ (dI v a b x) d a 32) c d) b c 40) a b y) d a 48) c d) c)) (fun w' h'=>ay ((hp.at 0).below h') (bJ om) U267 rfl) ?_;refine qs (.int .u64 (dM .u64 ((gz (cQ (dI (cQ (gz (cQ (dI v a b x) d a 32) c d) b c 40) a b y) d a 48) c d) b) ((gz (cQ (dI (cQ (gz (cQ (dI v a b x) d a 32) c d) b c 40) a b y) d a 48) c d) c))) (fun w' h'=>mc rfl rfl rfl) ?_;refine qc (fun w' h'=>dJ h' (SH _)) ?_;refine gq ?_;refine qs (pA g b) (fun w' h'=>ed (n:=16) (j:=(b:Int)) (off:=0) (sz:=1) U310 kr rfl rfl om om (by first|(simp;done)|(simp;omega)|omega)) ?_;refine nl fun zp rO hp=>?_;have hT:=hT.step rO;refine aU (i:=b) (v:=.int .u64 (Ev (dM .u64 ((gz (cQ (dI (cQ (gz (cQ (dI v a b x) d a 32) c d) b c 40) a b y) d a 48) c d) b) ((gz (cQ (dI (cQ (gz (cQ (dI v a b x) d a 32) c d) b c 40) a b y) d a 48) c d) c)) 1)) (hp.at 0) rfl rfl kr (by show b+1≤(aH _ _ _).size;rw[ax];omega) (by simp[Value.oneCell',Value.cells]) (fun FN GN=>ab ?_);have GN:=dO (v':=(cQ (gz (cQ (dI (cQ (gz (cQ (dI v a b x) d a 32) c d) b c 40) a b y) d a 48) c d) b c 1)) GN om rfl;have hp:=(hp.put 0 GN).nf;have hT:=hT.put GN (.inl rfl);refine go ?_;refine cK ?_;exact⟨rfl,hp.at 0,hT⟩
end
section
open Go.RowKit
variable{b g n k i:Nat}{x y:Operand}{w1:World}{T:TypeId}
def bC(x:Int):Array Value:=#[.int .u8 x]
theorem KA(e:Int):(bC e).size=1:=rfl
theorem ac4(e:Int):∀u∈(bC e).toList,u.oneCell'=true:=by intro u hu;simp[bC]at hu;subst hu;rfl
theorem Ew:(Tryz.prog.info? 5).map (fun i=>(i.zero,i.size,i.bytes))=some (some (.int .u8 0),1,1):=by kernel_rfl
def ss:Value→Option Nat
 |.slice (some a) _ _=>some a.block
 |_=>none
def BS(w0 w:World)(v:Value)(L:List Int):Prop:=(v=.slice none 0 0∧L=[])∨∃g c arr,v=.slice (some ⟨g,0,none⟩) L.length c∧bH w g arr 5∧bE arr 1 bC L∧arr.size=c*1∧L.length≤c∧w0.heap.size≤g
section
variable{w0 w w2 w3:World}{v v1 v2 v3:Value}{L M:List Int}
theorem BS.nil:BS w0 w (.slice none 0 0) []:=.inl ⟨rfl,rfl⟩
theorem BS.turns{S:Nat→Prop}(h:BS w0 w v L)(ht:au S w w2)(hn:∀b,ss v=some b→¬S b):BS w0 w2 v L:=h.imp id fun⟨g,c,arr,h1,h2,h3⟩=>⟨g,c,arr,h1,h2.turns ht (hn g (by rw[h1];rfl)),h3⟩
theorem BS.below(h:BS w0 w v L)(hb:Bw w w2):BS w0 w2 v L:=h.turns (au.aW (S:=fun _=>False) hb) fun _ _ q=>q
theorem BS.eH{N:Nat}(h:BS w0 w v L)(k:eD N w w2):BS w0 w2 v L:=h.imp id fun⟨g,c,arr,h1,h2,h3⟩=>⟨g,c,arr,h1,h2.eH k,h3⟩
theorem BS.since{wF:World}(h:BS w0 w v L)(hs:wF.heap.size≤w0.heap.size):BS wF w v L:=h.imp id fun⟨g,c,arr,h1,h2,h3,h4,h5,h6⟩=>⟨g,c,arr,h1,h2,h3,h4,h5,ayo hs h6⟩
theorem BS.ge(h:BS w0 w v L)(hb:ss v=some b):w0.heap.size≤b:=by
 rcases h with⟨rfl,_⟩|⟨g,c,arr,rfl,_,_,_,_,h6⟩;·cases hb
 ·cases hb;exact h6
theorem BS.lt(h:BS w0 w v L)(hb:ss v=some b):b<w.heap.size:=by
 rcases h with⟨rfl,_⟩|⟨g,c,arr,rfl,h2,_⟩;·cases hb
 ·cases hb;exact h2.lt
theorem BS.sl(h:BS w0 w v L):∃b n c,v=.slice b n c:=by rcases h with⟨rfl,_⟩|⟨g,c,arr,rfl,_⟩<;>exact⟨_,_,_,rfl⟩
theorem BS.sln(h:BS w0 w v L):∃b c,v=.slice b L.length c:=by rcases h with⟨rfl,rfl⟩|⟨g,c,arr,rfl,_⟩<;>exact⟨_,_,rfl⟩
theorem BS.one{x:Int}{cs:Array Value}(n:jr w w2 g cs 5)(hc:cs=#[.int .u8 x])(hs:w0.heap.size≤w.heap.size):BS w0 w2 (.slice (some ⟨g,0,none⟩) 1 1) [x]:=by
 subst hc
 exact .inr ⟨g,1,_,rfl,n.fA,⟨fun i x hx=>by
  cases i with
  |zero=>cases hx;rfl
  |succ i=>simp at hx,ayp 1⟩,rfl,ayp 1,(by have:=n.fresh;omega)⟩
structure BO(w0 w:World)(v:Value)(w2:World)(v2:Value)(L:List Int):Prop where
 bs:BS w0 w2 v2 L
 turns:au (fun b=>ss v=some b) w w2
 src:ss v2=ss v∨∀b,ss v2=some b→w.heap.size≤b
theorem BO.start(h:BS w0 w v L):BO w0 w v w v L:=⟨h,au.refl _ _,.inl rfl⟩
theorem BO.size(h:BO w0 w v w1 v1 L):w.heap.size≤w1.heap.size:=h.turns.size
theorem BO.step(h:BO w0 w v w1 v1 L)(hb:Bw w1 w2):BO w0 w v w2 v1 L:=⟨h.bs.below hb,h.turns.step hb,h.src⟩
theorem BO.trans(h:BO w0 w v w1 v1 L)(k:BO w0 w1 v1 w2 v2 M):BO w0 w v w2 v2 M:=⟨k.bs,h.turns.trans (k.turns.mono fun b hb q=>by
 rcases h.src with e|e;·exact .inl (e▸q)
 ·exact .inr (e b q)),by
 rcases k.src with e|e;·rw[e];exact h.src
 ·exact .inr fun b q=>ayo h.turns.size (e b q)⟩
theorem BO.below(h:Bw w0 w1)(hv:BS w0 w1 v1 M)(k:BO w0 w1 v1 w2 v2 L):Bw w0 w2:=⟨k.turns.os.trans h.os,k.turns.tape.trans h.tape,k.turns.output.trans h.output,ayo h.size k.turns.size,fun b hb=>(k.turns.block b (ayu hb h.size) (fun q=>by have:=hv.ge q;omega)).trans (h.block b hb)⟩
theorem BO.hp{B:List (Nat×Array Value×TypeId)}(hp:Hp w1 B)(hv:BS w0 w1 v1 M)(k:BO w0 w1 v1 w2 v2 L)(hl:∀x∈B,x.1<w0.heap.size):Hp w2 B:=hp.turns k.turns fun x hx q=>by have:=hv.ge q;have:=hl x hx;omega
theorem Gv{c:Nat}{cur arr cW:Array Value}{news:List Value}{og:Option Nat}(A:App w w2 og n 1 cur news k g c arr 5)(hn:n=L.length)(hk:k=M.length)(h1:n=0∨bE cur 1 bC L)(h2:bE cW 1 bC M)(mP:news=(cW.extract 0 (0+k*1)).toList)(hl:news.length=k*1):bE arr 1 bC (L++M):=by
 subst hn;subst hk;have hf:=h2.fit;refine bE.tM KA (fun i x hx j hj=>?_) (by rw[ayG,A.size];exact ayD _ A.fit);rcases ayQ i L.length with q|q
 ·rw[ayV q]at hx;have gD:i*1+j<L.length*1:=by omega
  rw[A.old _ gD];rcases h1 with h1|h1;·omega
  ·exact h1.get hx hj
 ·rw[ayO q]at hx;have gD:=(ays.1 hx).1;have e:i*1+j=L.length*1+((i-L.length)*1+j):=by omega
  have PA:(i-L.length)*1+j<M.length*1:=by omega
  rw[e,A.new _ om,mP,ext_get om PA,ayR];exact h2.get hx hj
end
section
variable{r:Option Nat}{ops:Array Oper}{Q:Exit→Act→World→Prop}{a:Act}{w:World}{rest:List Oper}{o:Oper}
theorem xv{w0 wE:World}{t:TypeId}{v1 v2:Value}{L M:List Int}(h1:BS w0 w v1 L)(h2:BS wE w v2 M)(hE:w0.heap.size≤w.heap.size)(Da:L.length+M.length<10000000)(hs:a.eval x=v1)(hx:a.eval y=v2)(h:∀v' w2,BO w0 w v1 w2 v' (L++M)→WL r ops Q rest (a.put o.dst v') w2)(hu:Tryz.prog.underlying t=some (.slice 5))(ho:o.op=.call {callee:=.builtin .append,args:=#[x,y],argTypes:=#[t,t]}:=by rfl)(hw:Region.wanted o (yielded ops a.tmps)=true:=by rfl):WL r ops Q (o::rest) a w:=by
 obtain⟨i,hi⟩:∃i,Tryz.prog.info? 5=some i:=by
  have:=Ew;cases hq:Tryz.prog.info? 5 with
  |none=>rw[hq]at this;cases this
  |some i=>exact⟨i,rfl⟩
 have zero:∀{yy:Option Addr} {c2:Nat},v2=.slice yy 0 c2→M=[]→WL r ops Q (o::rest) a w:=fun{yy c2} e1 e2=>by
  subst e1;subst e2;have go:∀{b:Option Addr} {n c:Nat},v1=.slice b n c→n≤c→WL r ops Q (o::rest) a w:=fun{b n c} e hn=>by have hr:=np (w:=w) (t:=t) (e:=5) (ty:=o.type) (b:=b) (y:=yy) (n:=n) (c:=c) (c2:=c2) hu hi hn;refine qb (v:=v1) (w2:=w) ?_ (h _ _ (by rw[azD];exact BO.start h1)) (fun c hc=>by rw[ho]at hc;cases hc) hw;subst e;unfold execOp;simp[ho,resolve,invoke,builtin,hs,hx,hr]
  rcases h1 with⟨e,_⟩|⟨g,c,arr,e,_,_,_,hn,_⟩;·exact go e (ayp 0)
  ·exact go e hn
 rcases h2 with⟨e1,e2⟩|⟨g2,c2,cW,e1,er,Tj,yJ,EC,yK⟩;·exact zero e1 e2
 ·by_cases hM:M=[];·exact zero (by rw[e1,hM];rfl) hM
  subst e1;have ac5:0<M.length:=List.length_pos_iff.2 hM;have mz:=Tj.fit;have hl:(cW.extract 0 (0+M.length*1)).toList.length=M.length*1:=dK om;have h1':∀u∈(cW.extract 0 (0+M.length*1)).toList,u.oneCell'=true:=row_one KA ac4 dd Tj om;have mP:=bA er 0 (M.length*1);rcases h1 with⟨e1,e2⟩|⟨g,c,arr,e1,hb,hr,jv,hn,hf⟩
  ·subst e1;subst e2;refine ek (n:=0) (c:=0) (m:=M.length) (news:=_) ny.nil hs hx hu Ew rfl hl mP h1' (by simpa using Da) dd (fun g' c' bW w2 A=>?_) (fun _=>ac5) ho hw;rw[ayR];refine h _ _ ⟨.inr ⟨g',c',bW,rfl,A.fA,Gv A rfl rfl (.inl rfl) Tj rfl hl,A.size,by have:=A.fit;simpa using this,?_⟩,A.turns.mono (fun b _ q=>by cases q),.inr fun b q=>?_⟩
   ·rcases A.src with⟨q,_⟩|q;·cases q
    ·exact ayo hE q
   ·cases q;rcases A.src with⟨q,_⟩|q;·cases q
    ·exact q
  ·subst e1;refine ek (n:=L.length) (c:=c) (m:=M.length) (news:=_) (ny.of hb jv hn) hs hx hu Ew rfl hl mP h1' Da dd (fun g' c' bW w2 A=>?_) (fun e=>by cases e) ho hw;rw[←ayG];refine h _ _ ⟨.inr ⟨g',c',bW,rfl,A.fA,Gv A rfl rfl (.inr hr) Tj rfl hl,A.size,by have:=A.fit;rw[ayG];exact this,?_⟩,A.turns.mono (fun b _ q=>by cases q;rfl),?_⟩
   ·rcases A.src with⟨q,_⟩|q;·cases q;exact hf
    ·exact ayo hE q
   ·rcases A.src with⟨q,_⟩|q;·cases q;exact .inl rfl
    ·exact .inr fun b e=>by cases e;exact q
theorem ac6{s:ByteArray}{b:UInt8}(hu:Tryz.prog.underlying T=some .string)(hx:a.eval x=.string s)(hy:a.eval y=.int .i64 (k:Int))(hb:s[k]?=some b)(ho:o.op=.index T x y:=by rfl):(execOp a.eval o).run Tryz.prog w=.ok (.value (.int .u8 b.toNat)) w:=by
 have h0:(0:Int)≤(k:Int):=by omega
 unfold execOp;simp[ho,hx,hy,Instr.index,asIntOf,run_underlying hu,Sem.run_bind,h0,hb]
theorem qW{e:TypeId}{off sz l d m:Nat}{lo:Option Operand}(hu:Tryz.prog.underlying T=some (.array n e))(hz:(Tryz.prog.info? e).map (·.size)=some sz)(hx:a.eval x=.pointer (some ⟨g,off,none⟩))(hl:(lo=none∧l=0)∨∃y,lo=some y∧a.eval y=.int .i64 (l:Int))(uI:l<n)(hd:off+l*sz=d)(hm:n-l=m)(ho:o.op=.slice T x lo none none:=by rfl):(execOp a.eval o).run Tryz.prog w=.ok (.value (.slice (some ⟨g,d,none⟩) m m)) w:=by
 subst hd;subst hm
 obtain⟨i,hi,Oz⟩:∃i,Tryz.prog.info? e=some i∧i.size=sz:=by
  cases hq:Tryz.prog.info? e with
  |none=>simp[hq]at hz
  |some i=>exact⟨i,rfl,by simpa[hq]using hz⟩
 subst Oz
 have hb:(Instr.sliceBounds false n n (lo.map a.eval) none none).run Tryz.prog w=.ok (l,n,n) w:=by
  rcases hl with⟨rfl,rfl⟩|⟨y,rfl,hy⟩;·simp[Instr.sliceBounds]
  ·have:l≤n:=by omega
   simp[Instr.sliceBounds,Instr.sliceBound,asIntOf,hy,this]
 have fC:n≠l:=by omega
 unfold execOp;simp[ho,hx,Instr.sliceAt,run_underlying hu,Instr.sureAddr,hb,sizeOf,typeInfo,hi,fC,Addr.add_lit,Sem.run_bind]
def IV:ByteArray:=⟨#[48,49,50,51,52,53,54,55,56,57,97,98,99,100,101,102]⟩
def Gw(i:Nat):Int:=((IV.data.getD i 0).toNat:Int)
theorem SI(h:i<16):(Extern.BytealgIndexByte.indexByte #[.string IV,.int .u8 (Gw i)]).run Tryz.prog w=.ok (.int .i64 (i:Int)) w:=by
 match i,h with
 |0,_=>rfl
 |1,_=>rfl
 |2,_=>rfl
 |3,_=>rfl
 |4,_=>rfl
 |5,_=>rfl
 |6,_=>rfl
 |7,_=>rfl
 |8,_=>rfl
 |9,_=>rfl
 |10,_=>rfl
 |11,_=>rfl
 |12,_=>rfl
 |13,_=>rfl
 |14,_=>rfl
 |15,_=>rfl
 |n+16,h=>exact absurd h om
theorem ac7{ts:Array TypeId}{fn:Func}(h:i<16)(hf:Tryz.prog.funcs[310]?=some fn)(hx:a.eval x=.string IV)(hy:a.eval y=.int .u8 (Gw i))(he:Extern.find fn=some Extern.BytealgIndexByte.indexByte)(fQ:(fn.name== "runtime.NumGoroutine")=false)(hbn:fn.body.isNone=true)(hn:Extern.findNext fn=none)(ho:o.op=.call {callee:=.value (.func 310),args:=#[x,y],argTypes:=ts}:=by rfl):(execOp a.eval o).run Tryz.prog w=.ok (.value (.int .i64 (i:Int))) w:=by have hr:=run_callFunc_extern (P:=Tryz.prog) hf fQ hbn hn he #[.string IV,.int .u8 (Gw i)] w;rw[SI h]at hr;unfold execOp;have hfe:a.eval (.func 310)=.func (.func 310) #[] #[]:=rfl;simp[ho,hx,hy,resolve,Deferred.ofValue,invoke,hfe,hr]
end
def cJ(l:List UInt8)(k:Nat):Nat:=(IV.data.toList.findIdx? fun b=>b==l.getD k 0).getD 0
structure CX(l:List UInt8):Prop where at_:∀k,k<16→l[k]?.isSome=true∧cJ l k<16∧(((l.getD k 0).toNat:Int)=Gw (cJ l k))
theorem SJ:∀l∈lN,CX l:=fun l hl=>⟨by revert l;decide+kernel⟩
theorem CX.get{l:List UInt8}(h:CX l)(hk:k<16):∃b,(⟨l.toArray⟩:ByteArray)[k]?=some b∧(b.toNat:Int)=Gw (cJ l k):=by
 obtain⟨h1,_,h3⟩:=h.at_ k hk;obtain⟨b,hb⟩:=ayA.1 h1;have gD:=(ays.1 hb).1;refine⟨b,?_,?_⟩
 ·have jv:k<(⟨l.toArray⟩:ByteArray).size:=by simpa[ByteArray.size]using gD
  rw[getElem?_pos (⟨l.toArray⟩:ByteArray) k jv];congr 1;have:=(ays.1 hb).2;rw[←this];rfl
 ·rw[←h3,ay5,hb];rfl
end
end Go.Proofs.YtdkpbpjcbkibiaaGreatDoor.B
