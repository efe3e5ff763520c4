/- Rh Rj -/
import Derived.Test.YtdkpbpjcbkibiaaGreatDoorV47
import Derived.Test.YtdkpbpjcbkibiaaGreatDoorV48
import Derived.Test.YtdkpbpjcbkibiaaGreatDoorV45
set_option linter.all false
set_option maxRecDepth 100000
set_option maxHeartbeats 4000000
namespace Go.Proofs.YtdkpbpjcbkibiaaGreatDoor.B
open Go.RowKit
section
open Go.RowKit
variable{m:Nat}
theorem aiR{j:Nat}(h:j<m):(Builtin.zeroCells #[Value.int .u8 0] m)[j]?=some (.int .u8 0):=by simp[Builtin.zeroCells,h,Nat.mod_one]
section
variable{r:Option Nat}{ops:Array Oper}{Q:Exit→Act→World→Prop}{a:Act}{w:World}{rest:List Oper}{o:Oper}
theorem arG{n c g:Nat}{cur:Array Value}{s x:Operand}{k:Int}(hB:bH w g cur 5)(jv:cur.size=c)(hn:n≤c)(hm:0<m)(Da:n+m<1000)(hs:a.eval s=.slice (some ⟨g,0,none⟩) n c)(hx:a.eval x=.int .i64 k)(hk:k=(m:Int))(h:∀g' c' arr w2,bH w2 g' arr 5→au (fun b=>b=g) w w2→(g'=g∨w.heap.size≤g')→(∀j,j<n→arr[j]?=cur[j]?)→(∀j,j<m→arr[n+j]?=some (.int .u8 0))→WL r ops Q rest (a.put o.dst (.slice (some ⟨g',0,none⟩) (n+m) c')) w2)(ho:o.op=.call {callee:=.builtin .append,args:=#[s,x],argTypes:=#[131,3]}:=by rfl)(hw:Region.wanted o (yielded ops a.tmps)=true:=by rfl):WL r ops Q (o::rest) a w:=by
 obtain⟨i,hi,xL,Oz,Tw⟩:∃i,Tryz.prog.info? 5=some i∧i.zero=some (.int .u8 0)∧i.size=1∧i.bytes=1:=by
  have:=Ew;cases hq:Tryz.prog.info? 5 with
  |none=>rw[hq]at this;cases this
  |some i=>simp only[hq,ay9,ay8,azX]at this;exact⟨i,rfl,this.1,this.2.1,this.2.2⟩
 subst hk;subst jv;have Tx:IntKind.i64.wrap (m:Int)=m:=by rw[IntKind.wrap_i64];omega
 have hm0:¬((m:Int)<0):=by omega
 have h48:¬(281474976710656<(m:Int)):=by omega
 have hmz:¬m=0:=by omega
 by_cases hc:n+m≤cur.size
 ·have hl:(Builtin.zeroCells #[Value.int .u8 0] m).toList.length=m:=by simp[Builtin.zeroCells]
  have h1:∀u∈(Builtin.zeroCells #[Value.int .u8 0] m).toList,u.oneCell'=true:=by intro u hu;obtain⟨j,hj⟩:=List.getElem?_of_mem hu;have gD:=(ays.1 hj).1;rw[ayt,aiR om]at hj;cases hj;rfl
  have fB:=run_storeCells_at Tryz.prog g n 5 (Builtin.zeroCells #[Value.int .u8 0] m).toList 0 cur w hB om h1;simp only[azt]at fB;have hle:n+(Builtin.zeroCells #[Value.int .u8 0] m).toList.length≤cur.size:=by omega
  have P:=o1.yU (i:=n) (vs:=(Builtin.zeroCells #[Value.int .u8 0] m).toList) hB;refine qb (v:=.slice (some ⟨g,0,none⟩) (n+m) cur.size) (w2:=w.setRow g (bt cur n (Builtin.zeroCells #[Value.int .u8 0] m).toList)) ?_ (h g cur.size _ _ P.fA P.turns (.inl rfl) (fun j hj=>aV (.inl hj) hle) (fun j hj=>?_)) (fun c hc=>by rw[ho]at hc;cases hc) hw;·unfold execOp;simp[ho,resolve,invoke,builtin,hs,hx,Builtin.append_,run_underlying U131,run_underlying U3,sizeOf,typeInfo,zeroValue,hi,xL,Oz,Tw,asInt,asIntOf,Tx,hm0,h48,hmz,hc,Addr.add_lit,Value.cells,fB,bt]
  ·rw[cy rfl om om,ayt,aiR hj]
 ·have Zp:(cur.extract 0 (0+n*1)).toList.length=n*1:=by simp;omega
  have hfo:=run_firstCells_some (P:=Tryz.prog) w.drew 1 n ⟨g,0,none⟩ n cur.size _ Zp (bA (w:=w) hB 0 (n*1));have Ty:¬(9223372036854775807<((n:Int)+(m:Int))):=by omega
  have Xs:=growslice_fits (need:=n+m) (old:=cur.size) (bytes:=1) om om;have Tz:¬(281474976710656<Builtin.nextslicecap (n+m) cur.size):=by omega
  refine qb (v:=.slice (some ⟨w.heap.size,0,none⟩) (n+m) (grownCap w (n+m) cur.size 5)) (w2:=w.drew.alloc (.cells ((cur.toList.take n).toArray++Builtin.zeroCells #[.int .u8 0] m++Builtin.zeroCells #[.int .u8 0] (grownCap w (n+m) cur.size 5-(n+m))) 5)) ?_ (h w.heap.size _ _ _ (heap_alloc_new w.drew _) ⟨rfl,rfl,rfl,by simp,fun k hk _=>heap_alloc_old w.drew _ hk⟩ (.inr (ayp _)) ?_ ?_) (fun c hc=>by rw[ho]at hc;cases hc) hw;·unfold execOp;simp[ho,resolve,invoke,builtin,hs,hx,Builtin.append_,run_underlying U131,run_underlying U3,sizeOf,typeInfo,zeroValue,hi,xL,Oz,Tw,asInt,asIntOf,Tx,hm0,h48,hc,Ty,Tz,Question.forced,hfo,hmz,newRow,grownCap,Value.cells]
  ·intro j hj;rw[az0,azg (by simp;omega)];simp[azz hj]
  ·intro j hj;rw[az0,azF (by simp;omega),azg (by simp[Builtin.zeroCells];omega)];have e:n+j-(cur.toList.take n).toArray.size=j:=by simp;omega
   rw[e,aiR hj]
end
end
section
open Go.RowKit
variable{w wE:World}{v:Value}
def aew:List Int:=nuR 1++nuR 0++nuR 0++nuR 0
def aiD(j:Nat):Int:=aew.getD j 0
def am6:Nat→Int:=lh dr 0 (dM .u64 (dM .u64 (dr 0) 16842784) (nZ .u64 ((0:Nat):Int) 8))
def hR:bU:=⟨[38,160,142,77,12,81,144,240,24,113,224,86,155,98,144,184,103,96,8,93,153,241,126,180,231,230,181,143,235,141,98,73],rfl⟩
def am7:Nat→Int:=ib (blR am6 aiD ((4:Nat):Int)) 32
theorem apO:aH .u8 32 am7=aJ hR:=by kernel_rfl
theorem BS.op{w0:World}{L:List Int}(h:BS w0 w v L)(n:Nat)(hn:L.length=n)(h0:0<n):∃g c arr,v=.slice (some ⟨g,0,none⟩) n c∧bH w g arr 5∧bE arr 1 bC L∧arr.size=c*1∧n≤c∧w0.heap.size≤g:=by
 subst hn;rcases h with⟨_,e⟩|q;·rw[e]at h0;cases h0
 ·exact q
theorem aqA{arr bW:Array Value}(hr:bE arr 1 bC aew)(h1:∀j,j<4→bW[j]?=arr[j]?)(h2:∀j,j<124→bW[4+j]?=some (.int .u8 0))(j:Nat)(hj:j<128):bW[j]?=some (.int .u8 (aiD j)):=by
 by_cases h:j<4
 ·rw[h1 j h]
  have h3:aew[j]?=some (aiD j):=by
   have:j=0∨j=1∨j=2∨j=3:=by omega
   rcases this with e|e|e|e<;>subst e<;>rfl
  have:=hr.get h3 (j:=0) dd;rw[aAs,azt]at this;exact this
 ·have h3:=h2 (j-4) om;rw[show 4+(j-4)=j by omega]at h3;rw[h3,aiD,ay5,azW (by show 4≤j;omega)];rfl
theorem anf(o6:BS wE w v aew):CB 112 #[.slice none 0 0,v] w (.agg (aH .u8 32 am7)):=by
 have hp:=Hp.nil w;have hT:=au.refl (fun _=>False) w;refine fe Tryz.func112 Tryz.ntmps112 ?_;refine wB ?_;refine afj fun g4 w1 hp f4 hT=>?_;refine ak (i6 0) ((show(execOp _ _).run Tryz.prog _=.ok (.value (.int .i64 (mn 64 0))) _ from xG rfl rfl)) ?_;refine ak (.slice none 0 0) (tL U131 kr rfl (mY (h:=0) rfl (ayp 0))) ?_;have o6:=o6.below (adE hT);have hl4:=(hp.at 0).lt;refine wB ?_;refine xv (w0:=w) BS.nil o6 hT.size (by simp[aew,nuR]) rfl rfl (fun v2 w2 bo=>?_) U131;have hp:=hp.turns bo.turns (fun x hx q=>by cases q);have hT:=hT.trans (bo.turns.mono fun b _ q=>by cases q);obtain⟨ga,ca,aqB,rfl,xR,arH,sza,tZ,fra⟩:=bo.bs.op 4 rfl dd;have hga:=bo.src.resolve_left (by intro q;cases q) ga rfl;have hp:=hp.cons xR (by simp;omega);refine ab ?_;refine wB ?_;refine ae6 aiC fun w3 hp hT=>?_;refine afj fun g7 w3 hp f7 hT=>?_;refine agi fun w3 hp hT=>?_;refine z_T am6 fun w3 hp hT=>?_;refine iR 1 ?_;refine wB ?_;refine dT (n:=0) (cells:=#[]) (e:=5) kr (fun ge w4 q=>ab ?_);have fe:=ayo hT.size q.fresh;have hp:=hp.new q;have hT:=hT.step q.below;refine wB ?_;refine ak (.slice (some ⟨ga,0,none⟩) 4 ca) (dD (n:=4) (c:=ca) (off:=0) (len:=4) (cap:=ca) (sz:=1) (l:=0) (h:=4) (m:=ca) (d:=0) U131 kr rfl (fl (len:=4) (cap:=ca) (l:=0) rfl om) wj om om) ?_;have b1:BS w w4 (.slice (some ⟨ge,0,none⟩) 0 0) []:=.inr ⟨ge,0,#[],rfl,hp.at 0,⟨fun i x h=>by simp at h,ayP _⟩,rfl,ayp 0,fe⟩;have b2:BS w w4 (.slice (some ⟨ga,0,none⟩) 4 ca) aew:=.inr ⟨ga,ca,aqB,rfl,hp.at 2,arH,sza,tZ,fra⟩;refine xv b1 b2 hT.size (by simp[aew,nuR]) rfl rfl (fun v5 w5 bo=>?_) U131;obtain⟨gb,cb,ase,rfl,zb,arI,szb,hcb,frb⟩:=bo.bs.op 4 rfl dd
 have fC:∀x:Nat×Array Value×TypeId,x∈_→x.1≠gb:=fun x hx e=>by
  rcases bo.src with q|q;·cases q;exact(ay3.1 hp.1).1 (ayM.2 ⟨x,hx,e⟩)
  ·have h1:=q gb rfl;have h2:=(hp.tail.2 x hx).lt;omega
 have hp:=hp.tail.turns bo.turns (fun x hx q=>by cases q;exact(ay3.1 hp.1).1 (ayM.2 ⟨x,hx,rfl⟩));have hT:=hT.trans (bo.turns.mono fun b _ q=>by cases q;exact .inr fe);refine ab ?_;refine wB ?_;refine arG (n:=4) (m:=124) zb om hcb dd dd rfl rfl rfl (fun g9 c9 asg w6 fD t9 fr9 h1 h2=>ab ?_);have hp:=hp.turns t9 fC;have hT:=hT.trans (t9.mono fun b _ q=>q▸.inr frb);refine wB ?_;refine ae6 (amR (n:=4) fD (aqA arI h1 h2) dd) fun w7 hp hT=>?_;refine agi fun w7 hp hT=>?_;refine ak (.agg (aH .u8 32 (fun _=>0))) kr ?_;refine afj fun g10 w7 hp f10 hT=>?_;refine agi fun w7 hp hT=>?_;generalize hS:blR am6 aiD ((4:Nat):Int)=S at*;refine afH 89 (fun i=>[(4,pA g4 0),(7,pA g7 0),(10,pA g10 0),(11,i6 (i:Int))]) (fun i w'=>Hp w' [(g10,aH .u8 32 (ib S i),31),(g7,aH .u64 8 S,268),(ga,aqB,5),(g4,aH .u8 32 (fun _=>0),31)]∧au (fun _=>False) w w') 32 0 ⟨hp,hT⟩ ?_;rintro i u w8 hi ⟨hp,hT⟩;refine afK ?_;refine wB ?_;by_cases hc:i<32
 ·have c1:(i:Int)<32:=by omega
  refine wB ?_;refine z_T (ib S (i+1)) fun w8 hp hT=>?_;exact⟨hc,FRB,hp,hT⟩
 have c1:¬(i:Int)<32:=by omega
 obtain rfl:i=32:=by omega
 refine wB ?_;refine agi fun w8 hp hT=>?_;refine kh (el (s:=4) (ty:=31) (hp.at 3) U31 (by rw[ax];kernel_rfl)) ?_;exact⟨by rw[←hS];rfl,adE hT⟩
theorem aqD(o6:BS wE w v aew):CB 62 #[v] w (.agg (aH .u8 32 am7)):=by have hp:=Hp.nil w;have hT:=au.refl (fun _=>False) w;refine fe Tryz.func62 Tryz.ntmps62 ?_;refine wB ?_;refine afj fun g1 w1 hp f1 hT=>?_;have o6:=o6.below (adE hT);refine ae6 (anf o6) fun w1 hp hT=>?_;refine agi fun w1 hp hT=>?_;refine kh (el (s:=2) (ty:=31) (hp.at 0) U31 (by rw[ax];kernel_rfl)) ?_;exact⟨rfl,adE hT⟩
theorem aqE:CB 36 #[.agg #[i6 1,i6 0,i6 0,.slice none 0 0]] w (.agg (aJ hR)):=by have hp:=Hp.nil w;have hT:=au.refl (fun _=>False) w;rw[←apO];refine fe Tryz.func36 Tryz.ntmps36 ?_;refine wB ?_;refine aiQ fun g1 w1 hp f1 hT=>?_;refine afj fun g2 w1 hp f2 hT=>?_;have hs:=hT.size;refine ce aqz ?_;rintro _ w2 ⟨v,rfl,bs,hb⟩;refine⟨_,rfl,ab ?_⟩;obtain⟨g,c,arr,rfl,_⟩:=bs.op 4 rfl dd;have hp:=hp.below hb;have hT:=hT.step hb;refine wB ?_;refine ae6 (aqD bs) fun w3 hp hT=>?_;refine agi fun w3 hp hT=>?_;refine kh (el (s:=2) (ty:=31) (hp.at 0) U31 (by rw[ax];kernel_rfl)) ?_;exact⟨rfl,adE hT⟩
end
end Go.Proofs.YtdkpbpjcbkibiaaGreatDoor.B
