/- Bs Bsearch G -/
import Derived.Test.YtdkpbpjcbkibiaaGreatDoorV3
import Derived.Test.YtdkpbpjcbkibiaaGreatDoorV1
set_option linter.all false
set_option maxRecDepth 100000
set_option maxHeartbeats 4000000
namespace Go.Proofs.YtdkpbpjcbkibiaaGreatDoor.B
open Go.RowKit
section
open Go.RowKit
def wq(p:Nat→Bool):Nat→Nat→Nat→Nat
 |0,lo,_=>lo
 |k+1,lo,hi=>if lo<hi then(if p ((lo+hi)/2)=true then wq p k lo ((lo+hi)/2)else wq p k ((lo+hi)/2+1) hi)else lo
theorem nT(p:Nat→Bool){lo hi:Nat}(h:¬lo<hi):∀k,wq p k lo hi=lo
 |0=>rfl
 |k+1=>by unfold wq;rw[if_neg h]
theorem Dd(p:Nat→Bool):∀(k lo hi:Nat),lo≤hi→lo≤wq p k lo hi∧wq p k lo hi≤hi
 |0,lo,hi,h=>⟨ayp _,h⟩
 |k+1,lo,hi,h=>by
  unfold wq;split
  ·split;·have:=Dd p k lo ((lo+hi)/2) om;omega
   ·have:=Dd p k ((lo+hi)/2+1) hi om;omega
  ·omega
section
variable{P:Program}{ops:Array Oper}{C:World→Prop}{Q:Act→Prop}{a:Act}{o:Oper}{rest:List Oper}
theorem OL{v:Value}{a':Act}{N:Option Tmp}{f:FuncId}{fn:Func}{x:Operand}{xs:Array Operand}{ts:Array TypeId}{cap:Array Value}(hf:P.funcs[f]?=some fn)(args full:Array Value)(hc:∀w,C w→Calls P f full w fun e w'=>e=.returned v∧C w')(fQ:(fn.name== "runtime.NumGoroutine")=false:=by kernel_rfl)(hb:fn.body.isSome=true:=by rfl)(kg:o.op=.call {callee:=.value x,args:=xs,argTypes:=ts}:=by rfl)(hx:a.eval x=.func (.func f) #[] cap:=by rfl)(Ol:args++cap=full:=by(simp only[azO,azh,azj,azD]))(ft:xs.map a.eval=args:=by(simp only[ayH,ayC,ayB];rfl))(hN:o.dst=N:=by rfl)(hw:Region.wanted o (yielded ops a.tmps)=true:=by rfl)(ha:a.put N v=a':=by(simp only[Act.put,ayI,ayU,ayT];rfl))(h:WQ P ops C Q rest a'):WQ P ops C Q (o::rest) a:=by
 subst ha;subst hN;subst Ol;refine⟨wpQuiet_step fun K hK=>?_⟩;rw[if_pos hw];refine⟨v,fun w hC=>?_,hK _ h.out⟩;have he:=oA hf fQ hb (args++cap) w;unfold Oper.quietAt;have Of:(execOp a.eval o).run P w=.ok (.enter f (args++cap)) w:=by unfold execOp;simp[kg,hx,resolve,Deferred.ofValue,invoke,ft,he]
 rw[Of];exact⟨rfl,hc w hC⟩
end
end
section
open Go.RowKit
variable{w:World}{g:Nat}
theorem GJ{W:World}{a:Act}{o:Oper}{i:Nat}{ty:TypeId}{x:Operand}{d:TypeDesc}{cs:Array Value}(hb:Bw W w)(gD:g<W.heap.size)(hW:∀j v,cs[j]?=some v→W.cell? ⟨g,i+j,none⟩=some v)(hu:Tryz.prog.underlying ty=some d)(jv:(Tryz.prog.info? ty).map (·.size)=some cs.size)(hd:(match d with|.struct _|.array _ _=>true|_=>false)=true:=by rfl)(ho:o.op=.load ty x:=by rfl)(hx:a.eval x=.pointer (some ⟨g,i,none⟩):=by rfl):(execOp a.eval o).run Tryz.prog w=.ok (.value (.agg cs)) w:=by
 have hl:(loadCells ⟨g,i,none⟩ cs.toList.length).run Tryz.prog w=.ok cs.toList.toArray w:=run_loadCells_list (P:=Tryz.prog) w ⟨g,i,none⟩ cs.toList (fun j v hv=>by
  have yV:(⟨g,i,none⟩:Addr).add j=⟨g,i+j,none⟩:=by unfold Addr.add;by_cases hj:j=0<;>simp[hj]
  rw[yV];exact(hb.cell gD).trans (hW j v (by simpa using hv)))
 have Of:(loadVar ty ⟨g,i,none⟩).run Tryz.prog w=.ok (.agg cs) w:=by
  cases hq:Tryz.prog.info? ty with
  |none=>simp[hq]at jv
  |some z=>
   have hs:z.size=cs.size:=by simpa[hq]using jv
   have wh:(isAgg ty).run Tryz.prog w=.ok true w:=by unfold isAgg;rw[Sem.run_bind,run_underlying hu w];cases d<;>simp_all
   simp only[ayy,azH]at hl;simp[loadVar,Sem.run_bind,wh,sizeOf,typeInfo,hq,hs,hl]
 unfold execOp;simp only[ho,hx,Instr.loadAt,Instr.sureAddr,Sem.run_bind,Sem.run_pure,Result.andThen_ok,Of]
structure xN(w:World)(g n k:Nat)(E:Nat→Array Value)(K:Nat→Int×Int):Prop where
 lt:g<w.heap.size
 size:∀j,j<n→(E j).size=k
 cell:∀j,j<n→∀i v,(E j)[i]?=some v→w.cell? ⟨g,j*k+i,none⟩=some v
 x:∀j,j<n→(E j)[0]?=some (.int .i64 (K j).1)
 y:∀j,j<n→(E j)[1]?=some (.int .i64 (K j).2)
theorem xN.below{w':World}{n k:Nat}{E:Nat→Array Value}{K:Nat→Int×Int}(h:xN w g n k E K)(hb:Bw w w'):xN w' g n k E K:=⟨ayu h.lt hb.size,h.size,fun j hj i v hv=>(hb.cell (p:=⟨g,j*k+i,none⟩) h.lt).trans (h.cell j hj i v hv),h.x,h.y⟩
def behind(K:Nat→Int×Int)(a b:Int)(j:Nat):Bool:=!decide (kE (K j).1 (K j).2 a b<0)
def gW(K:Nat→Int×Int)(n:Nat)(a b:Int):Nat:=wq (behind K a b) 62 0 n
theorem Xx(d:Int):(d==0)=decide (d=0):=by rw[azS];simp
theorem oF:(Tryz.prog.info? 163).map (·.size)=some 2:=by kernel_rfl
theorem Jm:(Tryz.prog.info? 333).map (·.size)=some 3:=by kernel_rfl
theorem Hj(w:World)(g n cap:Nat)(E:Nat→Array Value)(K:Nat→Int×Int)(hR:As (xN w g n 3 E K))(hn:n<1000000)(a b:Int):CP 260 #[.slice (some ⟨g,0,none⟩) n cap,.agg #[.int .i64 a,.int .i64 b],.func (.func 261) #[] #[]] w fun e w'=>e=.returned (.tuple #[.int .i64 (gW K n a b),.bool (decide (gW K n a b<n∧kE (K (gW K n a b)).1 (K (gW K n a b)).2 a b=0))])∧Bw w w':=by
 obtain⟨R,Hk⟩:∃R,gW K n a b=R:=⟨_,rfl⟩;rw[Hk];have ZH:=As.mk Hk;clear Hk;have hB:As (Bw w (w.alloc (.cells #[.int .i64 a,.int .i64 b] 163))):=⟨(Below.refl _ w).alloc (ayp _) _⟩;have k1:As (bH (w.alloc (.cells #[.int .i64 a,.int .i64 b] 163)) w.heap.size #[.int .i64 a,.int .i64 b] 163):=⟨bH.new w _ _⟩;go_enter Tryz.func260,Tryz.ntmps260;go_wp2;go_loopw [9,10] (fun i j wr=>∃(m lo hi:Nat),i=.int .i64 lo∧j=.int .i64 hi∧lo≤hi∧hi≤n∧As (hi-lo<2^m)∧As (wq (behind K a b) m lo hi=R)∧As (Bw w wr)∧As (bH wr w.heap.size #[.int .i64 a,.int .i64 b] 163)) (fun i j _=>(intOf j-intOf i).toNat);case atStart=>exact⟨62,0,n,rfl,rfl,by omega,by omega,⟨by omega⟩,ZH,hB,k1⟩
 case round=>
  obtain⟨m,lo,hi,rfl,rfl,h1,h2,hk,hr,hb,kb⟩:=hrel;by_cases gD:lo<hi
  ·obtain⟨q,hq⟩:∃q:Nat,(lo+hi)/2=q:=⟨_,rfl⟩;have De:q<n:=by omega
   have hql:lo≤q:=by omega
   have hqh:q<hi:=by omega
   have HQ:=As.mk hq;clear hq;go_upto_region 5 with(fail);rw[show(((lo:Int)+(hi:Int))/2)=(q:Int)by have:=HQ.out;omega];have hbd:=As.mk (U hb.out (Below.refl wr.heap.size wr).drew);have Hl:=As.mk ((hR.out.below hb.out).cell q De);have wi:=As.mk ((hR.out.below hb.out).lt);have jv:=As.mk (hR.out.size q De);have uj:=As.mk (EY (E q) (K q).1 (K q).2 a b ⟨hR.out.x q De⟩ ⟨hR.out.y q De⟩);have t1:decide ((q:Int)<0)=false:=decide_eq_false om;have t2:decide ((q:Int)<(n:Int))=true:=decide_eq_true om;refine NM (Below wr.heap.size wr) (Below.refl _ _).drew (h:=?_);refine st (fun w' _=>by go_simp;rfl) (h:=?_);refine st (fun w' _=>by go_simp;rfl) (h:=?_);refine st (fun w' _=>by go_simp;rfl) (h:=?_);refine st (v:=.pointer (some ⟨g,q*3,none⟩)) (fun w' _=>by go_simp) (h:=?_);refine st (v:=.agg (E q)) (fun w' h=>GJ h wi.out Hl.out U333 (by rw[jv.out];exact Jm)) (h:=?_);refine st (v:=.agg #[.int .i64 a,.int .i64 b]) (fun w' h=>GJ (i:=0) h kb.out.lt (fun j v hv=>(kb.out.cell _).trans (by rw[ayR];exact hv)) U163 oF) (h:=?_);refine OL Tryz.func261 #[.agg (E q),.agg #[.int .i64 a,.int .i64 b]] #[.agg (E q),.agg #[.int .i64 a,.int .i64 b]] (bQ uj.out) (h:=?_)
   have OM:As (∃m',m=m'+1):=⟨by
    rcases m with _|m';·have:=hk.out;simp at this;omega
    ·exact⟨m',rfl⟩⟩
   cases hp:behind K a b q with
   |false=>
    have hc:As (kE (K q).1 (K q).2 a b<0):=⟨by unfold behind at hp;simpa using hp⟩;have HP:=As.mk hp;clear hp;refine st (v:=.bool true) (fun w' _=>by go_simp;exact hc.out) (h:=?_);refine ou (fun w1 gV=>?_);have qg:=As.mk (U hb.out gV);have Hm:=As.mk (kb.out.below gV);clear gV;go_wp2;go_roundw;case rel=>obtain⟨m',rfl⟩:=OM.out;have sC:=hr.out;have pX:=hk.out;rw[azN]at pX;unfold wq at sC;rw[if_pos gD,HQ.out,if_neg (by rw[HP.out];simp)]at sC;exact⟨m',q+1,hi,by go_num,rfl,by omega,by omega,⟨by have:=HQ.out;omega⟩,⟨sC⟩,qg,Hm⟩
    case measure=>simp[intOf];omega
   |true=>
    have hc:As (¬kE (K q).1 (K q).2 a b<0):=⟨by unfold behind at hp;simpa using hp⟩;have HP:=As.mk hp;clear hp;refine st (v:=.bool false) (fun w' _=>by go_simp;have:=hc.out;omega) (h:=?_);refine ou (fun w1 gV=>?_);have qg:=As.mk (U hb.out gV);have Hm:=As.mk (kb.out.below gV);clear gV;go_wp2;go_roundw;case rel=>obtain⟨m',rfl⟩:=OM.out;have sC:=hr.out;have pX:=hk.out;rw[azN]at pX;unfold wq at sC;rw[if_pos gD,HQ.out,if_pos HP.out]at sC;exact⟨m',lo,q,rfl,rfl,by omega,by omega,⟨by have:=HQ.out;omega⟩,⟨sC⟩,qg,Hm⟩
    case measure=>simp[intOf];omega
  ·have ON:As (lo=R):=⟨by have:=hr.out;rwa[nT (behind K a b) gD]at this⟩;by_cases uI:lo<n;·have Hl:=As.mk ((hR.out.below hb.out).cell lo uI);have wi:=As.mk ((hR.out.below hb.out).lt);have jv:=As.mk (hR.out.size lo uI);have uj:=As.mk (EY (E lo) (K lo).1 (K lo).2 a b ⟨hR.out.x lo uI⟩ ⟨hR.out.y lo uI⟩);have t1:decide ((lo:Int)<0)=false:=decide_eq_false om;have t2:decide ((lo:Int)<(n:Int))=true:=decide_eq_true om;go_upto_region 8 with(fail);refine NM (Below wr.heap.size wr) (Below.refl _ _).drew (h:=?_);refine st (fun w' _=>by go_simp;rfl) (h:=?_);refine st (fun w' _=>by go_simp;rfl) (h:=?_);refine st (fun w' _=>by go_simp;rfl) (h:=?_);refine st (v:=.bool true) (fun w' _=>by go_simp) (h:=?_);refine st (fun w' _=>by go_simp;rfl) (h:=?_);refine st (fun w' _=>by go_simp;rfl) (h:=?_);refine st (fun w' _=>by go_simp;rfl) (h:=?_);refine st (fun w' _=>by go_simp;rfl) (h:=?_);refine st (v:=.pointer (some ⟨g,lo*3,none⟩)) (fun w' _=>by go_simp) (h:=?_);refine st (v:=.agg (E lo)) (fun w' h=>GJ h wi.out Hl.out U333 (by rw[jv.out];exact Jm)) (h:=?_);refine st (v:=.agg #[.int .i64 a,.int .i64 b]) (fun w' h=>GJ (i:=0) h kb.out.lt (fun j v hv=>(kb.out.cell _).trans (by rw[ayR];exact hv)) U163 oF) (h:=?_);refine OL Tryz.func261 #[.agg (E lo),.agg #[.int .i64 a,.int .i64 b]] #[.agg (E lo),.agg #[.int .i64 a,.int .i64 b]] (bQ uj.out) (h:=?_);refine st (v:=.bool (decide (kE (K lo).1 (K lo).2 a b=0))) (fun w' _=>by go_simp;first|done|rfl|exact(Xx _).symm|exact Xx _) (h:=?_);refine st (fun w' _=>by go_simp;rfl) (h:=?_);refine st (fun w' _=>by go_simp;rfl) (h:=?_);refine st (fun w' _=>by go_simp;rfl) (h:=?_);refine ou (fun w1 gV=>?_);have qg:=As.mk (U hb.out gV);clear gV;go_wp2;go_ret2;obtain rfl:=ON.out;exact⟨by simp[uI],qg.out⟩
   ·have t2:decide ((lo:Int)<(n:Int))=false:=decide_eq_false om;go_upto_region 8 with(fail);refine NM (Below wr.heap.size wr) (Below.refl _ _).drew (h:=?_);refine st (fun w' _=>by go_simp;rfl) (h:=?_);refine st (fun w' _=>by go_simp;rfl) (h:=?_);refine st (fun w' _=>by go_simp;rfl) (h:=?_);refine st (v:=.bool false) (fun w' _=>by go_simp) (h:=?_);refine st (fun w' _=>by go_simp;rfl) (h:=?_);refine sk (h:=?_);refine sk (h:=?_);refine sk (h:=?_);refine sk (h:=?_);refine sk (h:=?_);refine sk (h:=?_);refine sk (h:=?_);refine sk (h:=?_);refine st (fun w' _=>by go_simp;rfl) (h:=?_);refine st (fun w' _=>by go_simp;rfl) (h:=?_);refine st (fun w' _=>by go_simp;rfl) (h:=?_);refine ou (fun w1 gV=>?_);have qg:=As.mk (U hb.out gV);clear gV;go_wp2;go_ret2;obtain rfl:=ON.out;exact⟨by simp[uI],qg.out⟩
theorem Jn:(Tryz.prog.info? 165).map (·.size)=some 47:=by kernel_rfl
theorem Hn(w:World)(g n cap:Nat)(E:Nat→Array Value)(K:Nat→Int×Int)(hR:As (xN w g n 47 E K))(hn:n<1000000)(a b:Int):CP 142 #[.slice (some ⟨g,0,none⟩) n cap,.agg #[.int .i64 a,.int .i64 b],.func (.func 143) #[] #[]] w fun e w'=>e=.returned (.tuple #[.int .i64 (gW K n a b),.bool (decide (gW K n a b<n∧kE (K (gW K n a b)).1 (K (gW K n a b)).2 a b=0))])∧Bw w w':=by
 obtain⟨R,Hk⟩:∃R,gW K n a b=R:=⟨_,rfl⟩;rw[Hk];have ZH:=As.mk Hk;clear Hk;have hB:As (Bw w (w.alloc (.cells #[.int .i64 a,.int .i64 b] 163))):=⟨(Below.refl _ w).alloc (ayp _) _⟩;have k1:As (bH (w.alloc (.cells #[.int .i64 a,.int .i64 b] 163)) w.heap.size #[.int .i64 a,.int .i64 b] 163):=⟨bH.new w _ _⟩;go_enter Tryz.func142,Tryz.ntmps142;go_wp2;go_loopw [9,10] (fun i j wr=>∃(m lo hi:Nat),i=.int .i64 lo∧j=.int .i64 hi∧lo≤hi∧hi≤n∧As (hi-lo<2^m)∧As (wq (behind K a b) m lo hi=R)∧As (Bw w wr)∧As (bH wr w.heap.size #[.int .i64 a,.int .i64 b] 163)) (fun i j _=>(intOf j-intOf i).toNat);case atStart=>exact⟨62,0,n,rfl,rfl,by omega,by omega,⟨by omega⟩,ZH,hB,k1⟩
 case round=>
  obtain⟨m,lo,hi,rfl,rfl,h1,h2,hk,hr,hb,kb⟩:=hrel;by_cases gD:lo<hi
  ·obtain⟨q,hq⟩:∃q:Nat,(lo+hi)/2=q:=⟨_,rfl⟩;have De:q<n:=by omega
   have hql:lo≤q:=by omega
   have hqh:q<hi:=by omega
   have HQ:=As.mk hq;clear hq;go_upto_region 5 with(fail);rw[show(((lo:Int)+(hi:Int))/2)=(q:Int)by have:=HQ.out;omega];have hbd:=As.mk (U hb.out (Below.refl wr.heap.size wr).drew);have Hl:=As.mk ((hR.out.below hb.out).cell q De);have wi:=As.mk ((hR.out.below hb.out).lt);have jv:=As.mk (hR.out.size q De);have uj:=As.mk (EZ (E q) (K q).1 (K q).2 a b ⟨hR.out.x q De⟩ ⟨hR.out.y q De⟩);have t1:decide ((q:Int)<0)=false:=decide_eq_false om;have t2:decide ((q:Int)<(n:Int))=true:=decide_eq_true om;refine NM (Below wr.heap.size wr) (Below.refl _ _).drew (h:=?_);refine st (fun w' _=>by go_simp;rfl) (h:=?_);refine st (fun w' _=>by go_simp;rfl) (h:=?_);refine st (fun w' _=>by go_simp;rfl) (h:=?_);refine st (v:=.pointer (some ⟨g,q*47,none⟩)) (fun w' _=>by go_simp) (h:=?_);refine st (v:=.agg (E q)) (fun w' h=>GJ h wi.out Hl.out U165 (by rw[jv.out];exact Jn)) (h:=?_);refine st (v:=.agg #[.int .i64 a,.int .i64 b]) (fun w' h=>GJ (i:=0) h kb.out.lt (fun j v hv=>(kb.out.cell _).trans (by rw[ayR];exact hv)) U163 oF) (h:=?_);refine OL Tryz.func143 #[.agg (E q),.agg #[.int .i64 a,.int .i64 b]] #[.agg (E q),.agg #[.int .i64 a,.int .i64 b]] (bQ uj.out) (h:=?_)
   have OM:As (∃m',m=m'+1):=⟨by
    rcases m with _|m';·have:=hk.out;simp at this;omega
    ·exact⟨m',rfl⟩⟩
   cases hp:behind K a b q with
   |false=>
    have hc:As (kE (K q).1 (K q).2 a b<0):=⟨by unfold behind at hp;simpa using hp⟩;have HP:=As.mk hp;clear hp;refine st (v:=.bool true) (fun w' _=>by go_simp;exact hc.out) (h:=?_);refine ou (fun w1 gV=>?_);have qg:=As.mk (U hb.out gV);have Hm:=As.mk (kb.out.below gV);clear gV;go_wp2;go_roundw;case rel=>obtain⟨m',rfl⟩:=OM.out;have sC:=hr.out;have pX:=hk.out;rw[azN]at pX;unfold wq at sC;rw[if_pos gD,HQ.out,if_neg (by rw[HP.out];simp)]at sC;exact⟨m',q+1,hi,by go_num,rfl,by omega,by omega,⟨by have:=HQ.out;omega⟩,⟨sC⟩,qg,Hm⟩
    case measure=>simp[intOf];omega
   |true=>
    have hc:As (¬kE (K q).1 (K q).2 a b<0):=⟨by unfold behind at hp;simpa using hp⟩;have HP:=As.mk hp;clear hp;refine st (v:=.bool false) (fun w' _=>by go_simp;have:=hc.out;omega) (h:=?_);refine ou (fun w1 gV=>?_);have qg:=As.mk (U hb.out gV);have Hm:=As.mk (kb.out.below gV);clear gV;go_wp2;go_roundw;case rel=>obtain⟨m',rfl⟩:=OM.out;have sC:=hr.out;have pX:=hk.out;rw[azN]at pX;unfold wq at sC;rw[if_pos gD,HQ.out,if_pos HP.out]at sC;exact⟨m',lo,q,rfl,rfl,by omega,by omega,⟨by have:=HQ.out;omega⟩,⟨sC⟩,qg,Hm⟩
    case measure=>simp[intOf];omega
  ·have ON:As (lo=R):=⟨by have:=hr.out;rwa[nT (behind K a b) gD]at this⟩;by_cases uI:lo<n;·have Hl:=As.mk ((hR.out.below hb.out).cell lo uI);have wi:=As.mk ((hR.out.below hb.out).lt);have jv:=As.mk (hR.out.size lo uI);have uj:=As.mk (EZ (E lo) (K lo).1 (K lo).2 a b ⟨hR.out.x lo uI⟩ ⟨hR.out.y lo uI⟩);have t1:decide ((lo:Int)<0)=false:=decide_eq_false om;have t2:decide ((lo:Int)<(n:Int))=true:=decide_eq_true om;go_upto_region 8 with(fail);refine NM (Below wr.heap.size wr) (Below.refl _ _).drew (h:=?_);refine st (fun w' _=>by go_simp;rfl) (h:=?_);refine st (fun w' _=>by go_simp;rfl) (h:=?_);refine st (fun w' _=>by go_simp;rfl) (h:=?_);refine st (v:=.bool true) (fun w' _=>by go_simp) (h:=?_);refine st (fun w' _=>by go_simp;rfl) (h:=?_);refine st (fun w' _=>by go_simp;rfl) (h:=?_);refine st (fun w' _=>by go_simp;rfl) (h:=?_);refine st (fun w' _=>by go_simp;rfl) (h:=?_);refine st (v:=.pointer (some ⟨g,lo*47,none⟩)) (fun w' _=>by go_simp) (h:=?_);refine st (v:=.agg (E lo)) (fun w' h=>GJ h wi.out Hl.out U165 (by rw[jv.out];exact Jn)) (h:=?_);refine st (v:=.agg #[.int .i64 a,.int .i64 b]) (fun w' h=>GJ (i:=0) h kb.out.lt (fun j v hv=>(kb.out.cell _).trans (by rw[ayR];exact hv)) U163 oF) (h:=?_);refine OL Tryz.func143 #[.agg (E lo),.agg #[.int .i64 a,.int .i64 b]] #[.agg (E lo),.agg #[.int .i64 a,.int .i64 b]] (bQ uj.out) (h:=?_);refine st (v:=.bool (decide (kE (K lo).1 (K lo).2 a b=0))) (fun w' _=>by go_simp;first|done|rfl|exact(Xx _).symm|exact Xx _) (h:=?_);refine st (fun w' _=>by go_simp;rfl) (h:=?_);refine st (fun w' _=>by go_simp;rfl) (h:=?_);refine st (fun w' _=>by go_simp;rfl) (h:=?_);refine ou (fun w1 gV=>?_);have qg:=As.mk (U hb.out gV);clear gV;go_wp2;go_ret2;obtain rfl:=ON.out;exact⟨by simp[uI],qg.out⟩
   ·have t2:decide ((lo:Int)<(n:Int))=false:=decide_eq_false om;go_upto_region 8 with(fail);refine NM (Below wr.heap.size wr) (Below.refl _ _).drew (h:=?_);refine st (fun w' _=>by go_simp;rfl) (h:=?_);refine st (fun w' _=>by go_simp;rfl) (h:=?_);refine st (fun w' _=>by go_simp;rfl) (h:=?_);refine st (v:=.bool false) (fun w' _=>by go_simp) (h:=?_);refine st (fun w' _=>by go_simp;rfl) (h:=?_);refine sk (h:=?_);refine sk (h:=?_);refine sk (h:=?_);refine sk (h:=?_);refine sk (h:=?_);refine sk (h:=?_);refine sk (h:=?_);refine sk (h:=?_);refine st (fun w' _=>by go_simp;rfl) (h:=?_);refine st (fun w' _=>by go_simp;rfl) (h:=?_);refine st (fun w' _=>by go_simp;rfl) (h:=?_);refine ou (fun w1 gV=>?_);have qg:=As.mk (U hb.out gV);clear gV;go_wp2;go_ret2;obtain rfl:=ON.out;exact⟨by simp[uI],qg.out⟩
theorem Jo:(Tryz.prog.info? 281).map (·.size)=some 8:=by kernel_rfl
theorem Ho(w:World)(g n cap:Nat)(E:Nat→Array Value)(K:Nat→Int×Int)(hR:As (xN w g n 8 E K))(hn:n<1000000)(a b:Int):CP 224 #[.slice (some ⟨g,0,none⟩) n cap,.agg #[.int .i64 a,.int .i64 b],.func (.func 225) #[] #[]] w fun e w'=>e=.returned (.tuple #[.int .i64 (gW K n a b),.bool (decide (gW K n a b<n∧kE (K (gW K n a b)).1 (K (gW K n a b)).2 a b=0))])∧Bw w w':=by
 obtain⟨R,Hk⟩:∃R,gW K n a b=R:=⟨_,rfl⟩;rw[Hk];have ZH:=As.mk Hk;clear Hk;have hB:As (Bw w (w.alloc (.cells #[.int .i64 a,.int .i64 b] 163))):=⟨(Below.refl _ w).alloc (ayp _) _⟩;have k1:As (bH (w.alloc (.cells #[.int .i64 a,.int .i64 b] 163)) w.heap.size #[.int .i64 a,.int .i64 b] 163):=⟨bH.new w _ _⟩;go_enter Tryz.func224,Tryz.ntmps224;go_wp2;go_loopw [9,10] (fun i j wr=>∃(m lo hi:Nat),i=.int .i64 lo∧j=.int .i64 hi∧lo≤hi∧hi≤n∧As (hi-lo<2^m)∧As (wq (behind K a b) m lo hi=R)∧As (Bw w wr)∧As (bH wr w.heap.size #[.int .i64 a,.int .i64 b] 163)) (fun i j _=>(intOf j-intOf i).toNat);case atStart=>exact⟨62,0,n,rfl,rfl,by omega,by omega,⟨by omega⟩,ZH,hB,k1⟩
 case round=>
  obtain⟨m,lo,hi,rfl,rfl,h1,h2,hk,hr,hb,kb⟩:=hrel;by_cases gD:lo<hi
  ·obtain⟨q,hq⟩:∃q:Nat,(lo+hi)/2=q:=⟨_,rfl⟩;have De:q<n:=by omega
   have hql:lo≤q:=by omega
   have hqh:q<hi:=by omega
   have HQ:=As.mk hq;clear hq;go_upto_region 5 with(fail);rw[show(((lo:Int)+(hi:Int))/2)=(q:Int)by have:=HQ.out;omega];have hbd:=As.mk (U hb.out (Below.refl wr.heap.size wr).drew);have Hl:=As.mk ((hR.out.below hb.out).cell q De);have wi:=As.mk ((hR.out.below hb.out).lt);have jv:=As.mk (hR.out.size q De);have uj:=As.mk (E0 (E q) (K q).1 (K q).2 a b ⟨hR.out.x q De⟩ ⟨hR.out.y q De⟩);have t1:decide ((q:Int)<0)=false:=decide_eq_false om;have t2:decide ((q:Int)<(n:Int))=true:=decide_eq_true om;refine NM (Below wr.heap.size wr) (Below.refl _ _).drew (h:=?_);refine st (fun w' _=>by go_simp;rfl) (h:=?_);refine st (fun w' _=>by go_simp;rfl) (h:=?_);refine st (fun w' _=>by go_simp;rfl) (h:=?_);refine st (v:=.pointer (some ⟨g,q*8,none⟩)) (fun w' _=>by go_simp) (h:=?_);refine st (v:=.agg (E q)) (fun w' h=>GJ h wi.out Hl.out U281 (by rw[jv.out];exact Jo)) (h:=?_);refine st (v:=.agg #[.int .i64 a,.int .i64 b]) (fun w' h=>GJ (i:=0) h kb.out.lt (fun j v hv=>(kb.out.cell _).trans (by rw[ayR];exact hv)) U163 oF) (h:=?_);refine OL Tryz.func225 #[.agg (E q),.agg #[.int .i64 a,.int .i64 b]] #[.agg (E q),.agg #[.int .i64 a,.int .i64 b]] (bQ uj.out) (h:=?_)
   have OM:As (∃m',m=m'+1):=⟨by
    rcases m with _|m';·have:=hk.out;simp at this;omega
    ·exact⟨m',rfl⟩⟩
   cases hp:behind K a b q with
   |false=>
    have hc:As (kE (K q).1 (K q).2 a b<0):=⟨by unfold behind at hp;simpa using hp⟩;have HP:=As.mk hp;clear hp;refine st (v:=.bool true) (fun w' _=>by go_simp;exact hc.out) (h:=?_);refine ou (fun w1 gV=>?_);have qg:=As.mk (U hb.out gV);have Hm:=As.mk (kb.out.below gV);clear gV;go_wp2;go_roundw;case rel=>obtain⟨m',rfl⟩:=OM.out;have sC:=hr.out;have pX:=hk.out;rw[azN]at pX;unfold wq at sC;rw[if_pos gD,HQ.out,if_neg (by rw[HP.out];simp)]at sC;exact⟨m',q+1,hi,by go_num,rfl,by omega,by omega,⟨by have:=HQ.out;omega⟩,⟨sC⟩,qg,Hm⟩
    case measure=>simp[intOf];omega
   |true=>
    have hc:As (¬kE (K q).1 (K q).2 a b<0):=⟨by unfold behind at hp;simpa using hp⟩;have HP:=As.mk hp;clear hp;refine st (v:=.bool false) (fun w' _=>by go_simp;have:=hc.out;omega) (h:=?_);refine ou (fun w1 gV=>?_);have qg:=As.mk (U hb.out gV);have Hm:=As.mk (kb.out.below gV);clear gV;go_wp2;go_roundw;case rel=>obtain⟨m',rfl⟩:=OM.out;have sC:=hr.out;have pX:=hk.out;rw[azN]at pX;unfold wq at sC;rw[if_pos gD,HQ.out,if_pos HP.out]at sC;exact⟨m',lo,q,rfl,rfl,by omega,by omega,⟨by have:=HQ.out;omega⟩,⟨sC⟩,qg,Hm⟩
    case measure=>simp[intOf];omega
  ·have ON:As (lo=R):=⟨by have:=hr.out;rwa[nT (behind K a b) gD]at this⟩;by_cases uI:lo<n;·have Hl:=As.mk ((hR.out.below hb.out).cell lo uI);have wi:=As.mk ((hR.out.below hb.out).lt);have jv:=As.mk (hR.out.size lo uI);have uj:=As.mk (E0 (E lo) (K lo).1 (K lo).2 a b ⟨hR.out.x lo uI⟩ ⟨hR.out.y lo uI⟩);have t1:decide ((lo:Int)<0)=false:=decide_eq_false om;have t2:decide ((lo:Int)<(n:Int))=true:=decide_eq_true om;go_upto_region 8 with(fail);refine NM (Below wr.heap.size wr) (Below.refl _ _).drew (h:=?_);refine st (fun w' _=>by go_simp;rfl) (h:=?_);refine st (fun w' _=>by go_simp;rfl) (h:=?_);refine st (fun w' _=>by go_simp;rfl) (h:=?_);refine st (v:=.bool true) (fun w' _=>by go_simp) (h:=?_);refine st (fun w' _=>by go_simp;rfl) (h:=?_);refine st (fun w' _=>by go_simp;rfl) (h:=?_);refine st (fun w' _=>by go_simp;rfl) (h:=?_);refine st (fun w' _=>by go_simp;rfl) (h:=?_);refine st (v:=.pointer (some ⟨g,lo*8,none⟩)) (fun w' _=>by go_simp) (h:=?_);refine st (v:=.agg (E lo)) (fun w' h=>GJ h wi.out Hl.out U281 (by rw[jv.out];exact Jo)) (h:=?_);refine st (v:=.agg #[.int .i64 a,.int .i64 b]) (fun w' h=>GJ (i:=0) h kb.out.lt (fun j v hv=>(kb.out.cell _).trans (by rw[ayR];exact hv)) U163 oF) (h:=?_);refine OL Tryz.func225 #[.agg (E lo),.agg #[.int .i64 a,.int .i64 b]] #[.agg (E lo),.agg #[.int .i64 a,.int .i64 b]] (bQ uj.out) (h:=?_);refine st (v:=.bool (decide (kE (K lo).1 (K lo).2 a b=0))) (fun w' _=>by go_simp;first|done|rfl|exact(Xx _).symm|exact Xx _) (h:=?_);refine st (fun w' _=>by go_simp;rfl) (h:=?_);refine st (fun w' _=>by go_simp;rfl) (h:=?_);refine st (fun w' _=>by go_simp;rfl) (h:=?_);refine ou (fun w1 gV=>?_);have qg:=As.mk (U hb.out gV);clear gV;go_wp2;go_ret2;obtain rfl:=ON.out;exact⟨by simp[uI],qg.out⟩
   ·have t2:decide ((lo:Int)<(n:Int))=false:=decide_eq_false om;go_upto_region 8 with(fail);refine NM (Below wr.heap.size wr) (Below.refl _ _).drew (h:=?_);refine st (fun w' _=>by go_simp;rfl) (h:=?_);refine st (fun w' _=>by go_simp;rfl) (h:=?_);refine st (fun w' _=>by go_simp;rfl) (h:=?_);refine st (v:=.bool false) (fun w' _=>by go_simp) (h:=?_);refine st (fun w' _=>by go_simp;rfl) (h:=?_);refine sk (h:=?_);refine sk (h:=?_);refine sk (h:=?_);refine sk (h:=?_);refine sk (h:=?_);refine sk (h:=?_);refine sk (h:=?_);refine sk (h:=?_);refine st (fun w' _=>by go_simp;rfl) (h:=?_);refine st (fun w' _=>by go_simp;rfl) (h:=?_);refine st (fun w' _=>by go_simp;rfl) (h:=?_);refine ou (fun w1 gV=>?_);have qg:=As.mk (U hb.out gV);clear gV;go_wp2;go_ret2;obtain rfl:=ON.out;exact⟨by simp[uI],qg.out⟩
theorem Jp:(Tryz.prog.info? 324).map (·.size)=some 3:=by kernel_rfl
theorem Hq(w:World)(g n cap:Nat)(E:Nat→Array Value)(K:Nat→Int×Int)(hR:As (xN w g n 3 E K))(hn:n<1000000)(a b:Int):CP 255 #[.slice (some ⟨g,0,none⟩) n cap,.agg #[.int .i64 a,.int .i64 b],.func (.func 256) #[] #[]] w fun e w'=>e=.returned (.tuple #[.int .i64 (gW K n a b),.bool (decide (gW K n a b<n∧kE (K (gW K n a b)).1 (K (gW K n a b)).2 a b=0))])∧Bw w w':=by
 obtain⟨R,Hk⟩:∃R,gW K n a b=R:=⟨_,rfl⟩;rw[Hk];have ZH:=As.mk Hk;clear Hk;have hB:As (Bw w (w.alloc (.cells #[.int .i64 a,.int .i64 b] 163))):=⟨(Below.refl _ w).alloc (ayp _) _⟩;have k1:As (bH (w.alloc (.cells #[.int .i64 a,.int .i64 b] 163)) w.heap.size #[.int .i64 a,.int .i64 b] 163):=⟨bH.new w _ _⟩;go_enter Tryz.func255,Tryz.ntmps255;go_wp2;go_loopw [9,10] (fun i j wr=>∃(m lo hi:Nat),i=.int .i64 lo∧j=.int .i64 hi∧lo≤hi∧hi≤n∧As (hi-lo<2^m)∧As (wq (behind K a b) m lo hi=R)∧As (Bw w wr)∧As (bH wr w.heap.size #[.int .i64 a,.int .i64 b] 163)) (fun i j _=>(intOf j-intOf i).toNat);case atStart=>exact⟨62,0,n,rfl,rfl,by omega,by omega,⟨by omega⟩,ZH,hB,k1⟩
 case round=>
  obtain⟨m,lo,hi,rfl,rfl,h1,h2,hk,hr,hb,kb⟩:=hrel;by_cases gD:lo<hi
  ·obtain⟨q,hq⟩:∃q:Nat,(lo+hi)/2=q:=⟨_,rfl⟩;have De:q<n:=by omega
   have hql:lo≤q:=by omega
   have hqh:q<hi:=by omega
   have HQ:=As.mk hq;clear hq;go_upto_region 5 with(fail);rw[show(((lo:Int)+(hi:Int))/2)=(q:Int)by have:=HQ.out;omega];have hbd:=As.mk (U hb.out (Below.refl wr.heap.size wr).drew);have Hl:=As.mk ((hR.out.below hb.out).cell q De);have wi:=As.mk ((hR.out.below hb.out).lt);have jv:=As.mk (hR.out.size q De);have uj:=As.mk (E1 (E q) (K q).1 (K q).2 a b ⟨hR.out.x q De⟩ ⟨hR.out.y q De⟩);have t1:decide ((q:Int)<0)=false:=decide_eq_false om;have t2:decide ((q:Int)<(n:Int))=true:=decide_eq_true om;refine NM (Below wr.heap.size wr) (Below.refl _ _).drew (h:=?_);refine st (fun w' _=>by go_simp;rfl) (h:=?_);refine st (fun w' _=>by go_simp;rfl) (h:=?_);refine st (fun w' _=>by go_simp;rfl) (h:=?_);refine st (v:=.pointer (some ⟨g,q*3,none⟩)) (fun w' _=>by go_simp) (h:=?_);refine st (v:=.agg (E q)) (fun w' h=>GJ h wi.out Hl.out U324 (by rw[jv.out];exact Jp)) (h:=?_);refine st (v:=.agg #[.int .i64 a,.int .i64 b]) (fun w' h=>GJ (i:=0) h kb.out.lt (fun j v hv=>(kb.out.cell _).trans (by rw[ayR];exact hv)) U163 oF) (h:=?_);refine OL Tryz.func256 #[.agg (E q),.agg #[.int .i64 a,.int .i64 b]] #[.agg (E q),.agg #[.int .i64 a,.int .i64 b]] (bQ uj.out) (h:=?_)
   have OM:As (∃m',m=m'+1):=⟨by
    rcases m with _|m';·have:=hk.out;simp at this;omega
    ·exact⟨m',rfl⟩⟩
   cases hp:behind K a b q with
   |false=>
    have hc:As (kE (K q).1 (K q).2 a b<0):=⟨by unfold behind at hp;simpa using hp⟩;have HP:=As.mk hp;clear hp;refine st (v:=.bool true) (fun w' _=>by go_simp;exact hc.out) (h:=?_);refine ou (fun w1 gV=>?_);have qg:=As.mk (U hb.out gV);have Hm:=As.mk (kb.out.below gV);clear gV;go_wp2;go_roundw;case rel=>obtain⟨m',rfl⟩:=OM.out;have sC:=hr.out;have pX:=hk.out;rw[azN]at pX;unfold wq at sC;rw[if_pos gD,HQ.out,if_neg (by rw[HP.out];simp)]at sC;exact⟨m',q+1,hi,by go_num,rfl,by omega,by omega,⟨by have:=HQ.out;omega⟩,⟨sC⟩,qg,Hm⟩
    case measure=>simp[intOf];omega
   |true=>
    have hc:As (¬kE (K q).1 (K q).2 a b<0):=⟨by unfold behind at hp;simpa using hp⟩;have HP:=As.mk hp;clear hp;refine st (v:=.bool false) (fun w' _=>by go_simp;have:=hc.out;omega) (h:=?_);refine ou (fun w1 gV=>?_);have qg:=As.mk (U hb.out gV);have Hm:=As.mk (kb.out.below gV);clear gV;go_wp2;go_roundw;case rel=>obtain⟨m',rfl⟩:=OM.out;have sC:=hr.out;have pX:=hk.out;rw[azN]at pX;unfold wq at sC;rw[if_pos gD,HQ.out,if_pos HP.out]at sC;exact⟨m',lo,q,rfl,rfl,by omega,by omega,⟨by have:=HQ.out;omega⟩,⟨sC⟩,qg,Hm⟩
    case measure=>simp[intOf];omega
  ·have ON:As (lo=R):=⟨by have:=hr.out;rwa[nT (behind K a b) gD]at this⟩;by_cases uI:lo<n;·have Hl:=As.mk ((hR.out.below hb.out).cell lo uI);have wi:=As.mk ((hR.out.below hb.out).lt);have jv:=As.mk (hR.out.size lo uI);have uj:=As.mk (E1 (E lo) (K lo).1 (K lo).2 a b ⟨hR.out.x lo uI⟩ ⟨hR.out.y lo uI⟩);have t1:decide ((lo:Int)<0)=false:=decide_eq_false om;have t2:decide ((lo:Int)<(n:Int))=true:=decide_eq_true om;go_upto_region 8 with(fail);refine NM (Below wr.heap.size wr) (Below.refl _ _).drew (h:=?_);refine st (fun w' _=>by go_simp;rfl) (h:=?_);refine st (fun w' _=>by go_simp;rfl) (h:=?_);refine st (fun w' _=>by go_simp;rfl) (h:=?_);refine st (v:=.bool true) (fun w' _=>by go_simp) (h:=?_);refine st (fun w' _=>by go_simp;rfl) (h:=?_);refine st (fun w' _=>by go_simp;rfl) (h:=?_);refine st (fun w' _=>by go_simp;rfl) (h:=?_);refine st (fun w' _=>by go_simp;rfl) (h:=?_);refine st (v:=.pointer (some ⟨g,lo*3,none⟩)) (fun w' _=>by go_simp) (h:=?_);refine st (v:=.agg (E lo)) (fun w' h=>GJ h wi.out Hl.out U324 (by rw[jv.out];exact Jp)) (h:=?_);refine st (v:=.agg #[.int .i64 a,.int .i64 b]) (fun w' h=>GJ (i:=0) h kb.out.lt (fun j v hv=>(kb.out.cell _).trans (by rw[ayR];exact hv)) U163 oF) (h:=?_);refine OL Tryz.func256 #[.agg (E lo),.agg #[.int .i64 a,.int .i64 b]] #[.agg (E lo),.agg #[.int .i64 a,.int .i64 b]] (bQ uj.out) (h:=?_);refine st (v:=.bool (decide (kE (K lo).1 (K lo).2 a b=0))) (fun w' _=>by go_simp;first|done|rfl|exact(Xx _).symm|exact Xx _) (h:=?_);refine st (fun w' _=>by go_simp;rfl) (h:=?_);refine st (fun w' _=>by go_simp;rfl) (h:=?_);refine st (fun w' _=>by go_simp;rfl) (h:=?_);refine ou (fun w1 gV=>?_);have qg:=As.mk (U hb.out gV);clear gV;go_wp2;go_ret2;obtain rfl:=ON.out;exact⟨by simp[uI],qg.out⟩
   ·have t2:decide ((lo:Int)<(n:Int))=false:=decide_eq_false om;go_upto_region 8 with(fail);refine NM (Below wr.heap.size wr) (Below.refl _ _).drew (h:=?_);refine st (fun w' _=>by go_simp;rfl) (h:=?_);refine st (fun w' _=>by go_simp;rfl) (h:=?_);refine st (fun w' _=>by go_simp;rfl) (h:=?_);refine st (v:=.bool false) (fun w' _=>by go_simp) (h:=?_);refine st (fun w' _=>by go_simp;rfl) (h:=?_);refine sk (h:=?_);refine sk (h:=?_);refine sk (h:=?_);refine sk (h:=?_);refine sk (h:=?_);refine sk (h:=?_);refine sk (h:=?_);refine sk (h:=?_);refine st (fun w' _=>by go_simp;rfl) (h:=?_);refine st (fun w' _=>by go_simp;rfl) (h:=?_);refine st (fun w' _=>by go_simp;rfl) (h:=?_);refine ou (fun w1 gV=>?_);have qg:=As.mk (U hb.out gV);clear gV;go_wp2;go_ret2;obtain rfl:=ON.out;exact⟨by simp[uI],qg.out⟩
end
section
open Go.RowKit
variable{α:Type}{a b:Int}{j p n k r off gb:Nat}{arr cs:Array Value}{w:World}{t:TypeId}{Z:Nat→Prop}{parts:Array (Nat×Operand)}{ps:Array (Nat×Value)}
def ln(L:List ((Int×Int)×α))(i:Nat):Int×Int:=((L[i]?).map (·.1)).getD (0,0)
def gi(L:List ((Int×Int)×α))(a b:Int):Nat:=gW (ln L) L.length a b
def gh(L:List ((Int×Int)×α))(a b:Int):Bool:=decide (gi L a b<L.length∧kE (ln L (gi L a b)).1 (ln L (gi L a b)).2 a b=0)
def ej(L:List ((Int×Int)×α))(a b:Int)(v:α):List ((Int×Int)×α):=
 if gh L a b then L.set (gi L a b) ((a,b),v)else L.take (gi L a b)++((a,b),v)::L.drop (gi L a b)
def nU(L:List ((Int×Int)×α))(a b:Int):List ((Int×Int)×α):=if gh L a b then L.take (gi L a b)++L.drop (gi L a b+1)else L
def bS(L:List ((Int×Int)×α))(a b:Int):Option α:=if gh L a b then(L[gi L a b]?).map (·.2)else none
theorem j4(L:List ((Int×Int)×α))(a b:Int):gi L a b≤L.length:=(Dd _ 62 0 L.length (ayP _)).2
theorem K3{x y:Int}(h:kE x y a b=0):x=a∧y=b:=by unfold kE Hi jt at h;simp only[Hi]at h;constructor;all_goals (repeat' split at h)<;>omega
theorem fo{L:List ((Int×Int)×α)}(h:gh L a b=true):∃v,L[gi L a b]?=some ((a,b),v):=by obtain⟨h1,h2⟩:=of_decide_eq_true h;obtain⟨e,he⟩:∃e,L[gi L a b]?=some e:=⟨_,ayq h1⟩;have h3:=K3 h2;unfold ln at h3;rw[he]at h3;obtain⟨⟨x,y⟩,v⟩:=e;simp only[ay9,aAv]at h3;exact⟨v,by rw[he,h3.1,h3.2]⟩
theorem ph{L:List ((Int×Int)×α)}{v:α}(h:gh L a b=true)(e:L[gi L a b]?=some ((a,b),v)):bS L a b=some v:=by unfold bS;rw[if_pos h,e];rfl
theorem Jq{L:List ((Int×Int)×α)}(h:¬gh L a b=true):bS L a b=none:=if_neg h
structure E2{α:Type}(k:Nat)(enc:(Int×Int)×α→Array Value):Prop where
 size:∀e,(enc e).size=k
 x:∀e,(enc e)[0]?=some (.int .i64 e.1.1)
 y:∀e,(enc e)[1]?=some (.int .i64 e.1.2)
 one:∀e,∀u∈(enc e).toList,u.oneCell'=true
section
variable{α:Type}{arr bW:Array Value}{k:Nat}{enc:α→Array Value}{L:List α}
theorem bE.get(h:bE arr k enc L){i:Nat}{x:α}(hx:L[i]?=some x)(hj:j<k):arr[i*k+j]?=(enc x)[j]?:=by have hi:=(ays.1 hx).1;have:=h.le hi;rw[←h.ext i x hx,ayz,if_pos om]
theorem bE.tM(hs:∀x,(enc x).size=k)(h:∀i x,L[i]?=some x→∀j,j<k→arr[i*k+j]?=(enc x)[j]?)(fit:L.length*k≤arr.size):bE arr k enc L:=by
 refine⟨fun i x hx=>?_,fit⟩;have hi:=(ays.1 hx).1;have:(i+1)*k≤L.length*k:=ayD k hi;rw[ay0]at this;apply ayW;intro j;rw[ayz];by_cases hj:j<k;·rw[if_pos om,h i x hx j hj]
 ·rw[if_neg om,ayN (by rw[hs];omega)]
theorem pj(hs:∀x,(enc x).size=k)(row:bE arr k enc L)(h:∀j,j<L.length*k→bW[j]?=arr[j]?)(fit:L.length*k≤bW.size):bE bW k enc L:=bE.tM hs (fun i x hx j hj=>by have hi:=(ays.1 hx).1;have:(i+1)*k≤L.length*k:=ayD k hi;rw[ay0]at this;rw[h _ om,row.get hx hj]) fit
theorem gv(hs:∀x,(enc x).size=k)(row:bE arr k enc L){v:α}(hp:p≤L.length)(h1:∀j,j<p*k→bW[j]?=arr[j]?)(h2:∀j,j<k→bW[p*k+j]?=(enc v)[j]?)(h3:∀j,p*k≤j→j<L.length*k→bW[j+k]?=arr[j]?)(fit:(L.length+1)*k≤bW.size):bE bW k enc (L.take p++v::L.drop p):=by
 have hl:(L.take p).length=p:=by simp;omega
 refine bE.tM hs (fun i x hx j hj=>?_) (by simp;rw[show min p L.length+(L.length-p+1)=L.length+1 by omega];exact fit);rcases azJ i p with hi|rfl|hi;·rw[ayV om,azz hi]at hx;have:(i+1)*k≤p*k:=ayD k hi;rw[ay0]at this;rw[h1 _ om,row.get hx hj]
 ·rw[ayO om,hl,aAn]at hx;obtain rfl:v=x:=by simpa using hx
  exact h2 j hj
 ·rw[ayO om,hl,show i-p=(i-p-1)+1 by omega,az1,azi,show p+(i-p-1)=i-1 by omega]at hx;have mv:=(ays.1 hx).1;have e1:(i-1+1)*k≤L.length*k:=ayD k mv;have e2:p*k≤(i-1)*k:=ayD k om;have e3:i*k=(i-1)*k+k:=by rw[show i=i-1+1 by omega,ay0,Nat.one_mul,az2]
  rw[ay0]at e1;rw[show i*k+j=((i-1)*k+j)+k by omega,h3 _ om om,row.get hx hj]
theorem u1(hs:∀x,(enc x).size=k)(row:bE arr k enc L)(hp:p<L.length)(h1:∀j,j<p*k→bW[j]?=arr[j]?)(h3:∀j,p*k≤j→j+k<L.length*k→bW[j]?=arr[j+k]?)(fit:(L.length-1)*k≤bW.size):bE bW k enc (L.take p++L.drop (p+1)):=by
 have hl:(L.take p).length=p:=by simp;omega
 refine bE.tM hs (fun i x hx j hj=>?_) (by simp;rw[show min p L.length+(L.length-(p+1))=L.length-1 by omega];exact fit);by_cases hi:i<p;·rw[ayV om,azz hi]at hx;have:(i+1)*k≤p*k:=ayD k hi;rw[ay0]at this;rw[h1 _ om,row.get hx hj]
 ·rw[ayO om,hl,azi,show p+1+(i-p)=i+1 by omega]at hx;have mv:=(ays.1 hx).1;have e1:(i+1+1)*k≤L.length*k:=ayD k mv;have e2:p*k≤i*k:=ayD k om;have e3:(i+1)*k=i*k+k:=by rw[ay0,Nat.one_mul]
  rw[ay0]at e1;rw[h3 _ om om,show i*k+j+k=(i+1)*k+j by omega,row.get hx hj]
theorem rs(hs:∀x,(enc x).size=k)(row:bE arr k enc L){v:α}(hp:p<L.length)(h1:∀j,j<p*k∨p*k+k≤j→bW[j]?=arr[j]?)(h2:∀j,j<k→bW[p*k+j]?=(enc v)[j]?)(fit:L.length*k≤bW.size):bE bW k enc (L.set p v):=by
 refine bE.tM hs (fun i x hx j hj=>?_) (by simpa using fit);rw[aze]at hx;split at hx
 ·rename_i e;subst e;obtain rfl:v=x:=by simpa[hp]using hx
  exact h2 j hj
 ·rename_i e
  have gD:(i+1)*k≤p*k∨(p+1)*k≤i*k:=by
   rcases Nat.lt_or_gt_of_ne e with q|q;·exact .inr (ayD k q)
   ·exact .inl (ayD k q)
  rw[ay0,ay0]at gD;rw[h1 _ om,row.get hx hj]
theorem row_one(hs:∀x,(enc x).size=k)(h1:∀e,∀u∈(enc e).toList,u.oneCell'=true)(hk:0<k)(row:bE arr k enc L){lo:Nat}(hn:lo+n≤L.length*k):∀u∈(arr.extract lo (lo+n)).toList,u.oneCell'=true:=by
 intro u hu;obtain⟨j,hj⟩:=ayX.1 hu;rw[ayt,ayz]at hj;split at hj
 ·rename_i gD;have hi:(lo+j)/k<L.length:=by rw[Nat.div_lt_iff_lt_mul hk];omega
  obtain⟨x,hx⟩:∃x,L[(lo+j)/k]?=some x:=⟨_,ayq hi⟩;have hg:=row.get hx (Nat.mod_lt (lo+j) hk);rw[Nat.mul_comm,Nat.div_add_mod,hj]at hg;exact h1 x u (ayX.2 ⟨_,by rw[ayt];exact hg.symm⟩)
 ·cases hj
end
theorem vb{enc:(Int×Int)×α→Array Value}{L:List ((Int×Int)×α)}(ok:E2 k enc)(hB:bH w r arr t)(row:bE arr k enc L):xN w r L.length k (fS enc L) (ln L):=by
 have he:∀j,j<L.length→∃e,L[j]?=some e∧fS enc L j=enc e∧ln L j=e.1:=fun j hj=>⟨_,ayq hj,cY (ayq hj),by unfold ln;rw[ayq hj];rfl⟩;refine⟨hB.lt,fun j hj=>?_,fun j hj i v hv=>?_,fun j hj=>?_,fun j hj=>?_⟩;·obtain⟨e,h1,h2,h3⟩:=he j hj;rw[h2,ok.size]
 ·obtain⟨e,h1,h2,h3⟩:=he j hj;rw[h2]at hv;have Oi:i<k:=by rw[←ok.size e];exact(ayv.1 hv).1
  rw[hB.cell,row.get h1 Oi,hv]
 ·obtain⟨e,h1,h2,h3⟩:=he j hj;rw[h2,h3];exact ok.x e
 ·obtain⟨e,h1,h2,h3⟩:=he j hj;rw[h2,h3];exact ok.y e
def jf(e:(Int×Int)×Nat):Array Value:=#[.int .i64 e.1.1,.int .i64 e.1.2,.pointer (some ⟨e.2,0,none⟩)]
theorem s9:E2 3 fT:=⟨fun _=>rfl,fun _=>rfl,fun _=>rfl,fun e u hu=>by simp[fT]at hu;rcases hu with rfl|rfl|rfl<;>rfl⟩
theorem wt:E2 3 jf:=⟨fun _=>rfl,fun _=>rfl,fun _=>rfl,fun e u hu=>by simp[jf]at hu;rcases hu with rfl|rfl|rfl<;>rfl⟩
theorem sI:E2 8 fm:=⟨fun _=>rfl,fun _=>rfl,fun _=>rfl,fun e u hu=>by simp[fm]at hu;rcases hu with rfl|rfl|rfl|rfl|rfl|rfl|rfl|rfl<;>rfl⟩
theorem wa:E2 47 ep:=⟨nz,fun e=>by unfold ep;rw[azg (by simp)];rfl,fun e=>by unfold ep;rw[azg (by simp)];rfl,fun e u hu=>by
 unfold ep at hu;rw[aAg,azk]at hu;rcases hu with hu|hu;·simp at hu;rcases hu with rfl|rfl<;>rfl
 ·exact bL _ u hu⟩
section
variable{a:Act}{w:World}{o:Oper}
theorem E3{f:FuncId}{fn:Func}{e tR:TypeId}{sz va vo vl vc ga go gl gc:Nat}{alU afd:Array Value}{tv tg:TypeId}{x y:Operand}{ts:Array TypeId}(hf:Tryz.prog.funcs[f]?=some fn)(hu:Tryz.prog.underlying t=some (.slice e))(hz:(Tryz.prog.info? e).map (·.size)=some sz)(he:Extern.find fn=some (Extern.SlicesOverlaps.overlaps #[t,t] #[tR]))(hx:a.eval x=.slice (some ⟨va,vo,none⟩) vl vc)(hy:a.eval y=.slice (some ⟨ga,go,none⟩) gl gc)(hV:bH w va alU tv)(hG:bH w ga afd tg)(fC:va≠ga)(hk:afd.size≠0)(fQ:(fn.name== "runtime.NumGoroutine")=false:=by kernel_rfl)(hb:fn.body.isNone=true:=by kernel_rfl)(hn:Extern.findNext fn=none:=by kernel_rfl)(ho:o.op=.call {callee:=.value (.func f),args:=#[x,y],argTypes:=ts}:=by rfl):(execOp a.eval o).run Tryz.prog w=.ok (.value (.bool false)) w:=by
 have hs:∀w,(Go.sizeOf e).run Tryz.prog w=.ok sz w:=fun w=>by
  cases hq:Tryz.prog.info? e with
  |none=>simp[hq]at hz
  |some i=>simp only[hq,ay9,ay8]at hz;simp[Go.sizeOf,typeInfo,hq,hz]
 have hsh:∀{g:Nat} {cur:Array Value} {t:TypeId},bH w g cur t→w.shape? g=some (t,cur.size):=fun{g cur t} h=>by unfold World.shape?;rw[show w.heap[g]?=_ from h]
 have hr:=run_callFunc_extern (P:=Tryz.prog) hf fQ hb hn he #[.slice (some ⟨va,vo,none⟩) vl vc,.slice (some ⟨ga,go,none⟩) gl gc] w;rw[Lib.run_overlaps_apart w t tR e hu sz hs ⟨va,vo,none⟩ ⟨ga,go,none⟩ vl vc gl gc fC tv tg _ _ (hsh hV) (hsh hG) hk (frozen_of_row w va vo _ _ hV) (frozen_of_row w va _ _ _ hV)]at hr;unfold execOp;have hfe:a.eval (.func f)=.func (.func f) #[] #[]:=rfl;simp[ho,resolve,Deferred.ofValue,invoke,hfe,hx,hy,hr]
end
theorem dK(h:off+n≤arr.size):(arr.extract off (off+n)).toList.length=n:=by simp;omega
theorem ext_get(h:off+n≤arr.size)(hj:j<n):(arr.extract off (off+n)).toList[j]?=arr[off+j]?:=by rw[ayt,ayz,if_pos om]
structure tc{α:Type}(w:World)(r c:Nat)(t:TypeId)(k:Nat)(enc:α→Array Value)(L:List α)(arr:Array Value):Prop where
 fA:bH w r arr t
 row:bE arr k enc L
 size:arr.size=c*k
 fit:L.length≤c
theorem vd:∀{L:List (Nat×Array Value×TypeId)} {k:Nat} {z x:Nat×Array Value×TypeId},(L.map (·.1)).Nodup→L[k]?=some z→x∈L.eraseIdx k→x∈L∧x.1≠z.1
 |[],_,_,_,_,he,_=>by cases he
 |a::l,0,z,x,h,he,hx=>by
  obtain rfl:a=z:=by simpa using he
  exact⟨ay6 _ hx,fun e=>(ay3.1 h).1 (ayM.2 ⟨x,hx,e⟩)⟩
 |a::l,k+1,z,x,h,he,hx=>by
  have he':l[k]?=some z:=by simpa using he
  rcases ayE.1 hx with hx|hx;·subst hx;exact⟨azs,fun e=>(ay3.1 h).1 (ayM.2 ⟨z,ayw he',e.symm⟩)⟩
  ·have q:=vd (ay3.1 h).2 he' hx;exact⟨ay6 _ q.1,q.2⟩
theorem Hp.erase{w2:World}{L:List (Nat×Array Value×TypeId)}{b:Nat}(hp:Hp w L)(k:Nat)(h:au (fun x=>x=b) w w2)(he:L[k]?=some (b,cs,t):=by rfl):Hp w2 (L.eraseIdx k):=⟨hp.1.sublist ((List.eraseIdx_sublist L k).map _),fun x hx=>by have q:=vd hp.1 he hx;exact(hp.2 x q.1).turns h q.2⟩
theorem Hp.two{g g2:Nat}{Hr:Array Value}{t2:TypeId}(h1:bH w g cs t)(h2:bH w g2 Hr t2)(fC:g≠g2):Hp w [(g,cs,t),(g2,Hr,t2)]:=((Hp.nil w).cons h2 (by simp)).cons h1 (by simpa using fC)
theorem bq.tM{cap:Nat}{t':TypeId}{enc:α→Array Value}{L:List α}(hn:L.length=n)(hZ:Z r)(h1:bH w gb #[.slice (some ⟨r,0,none⟩) n cap] t)(h2:bH w r arr t')(fC:gb≠r)(row:bE arr k enc L)(hc:n≤cap)(hl:n<1000000):bq w gb Z k enc L:=by subst hn;exact .inl ⟨t,r,cap,arr,t',hZ,Hp.two h1 h2 fC,row,hc,hl⟩
theorem bq.mono{Z':Nat→Prop}{enc:α→Array Value}{L:List α}(h:bq w gb Z k enc L)(hz:∀r,Z r→Z' r):bq w gb Z' k enc L:=by
 rcases h with⟨t,r,cap,arr,t',hZ,h⟩|h;·exact .inl ⟨t,r,cap,arr,t',hz _ hZ,h⟩
 ·exact .inr h
theorem Jr{enc:α→Array Value}{L:List α}(row:bE arr k enc L){e:α}(hx:L[p]?=some e)(hs:(enc e).size=k)(hk:2+n≤k){vs:Array Value}(hv:(enc e).extract 2 (2+n)=vs):arr.extract (p*k+2) (p*k+2+n)=vs:=by
 subst hv;have hi:=(ays.1 hx).1;have:=row.le hi;apply ayW;intro j;rw[ayz,ayz];by_cases hj:j<n;·rw[if_pos om,if_pos om,Nat.add_assoc,row.get hx om]
 ·rw[if_neg om,if_neg om]
theorem lU(a b:Int)(v:α):ej [] a b v=[((a,b),v)]:=by simp[ej,gh]
theorem jz{L:List ((Int×Int)×α)}(v:α)(gL:gi L a b=p)(hg:gh L a b=true):ej L a b v=L.set p ((a,b),v):=by unfold ej;rw[if_pos hg,gL]
theorem jK{L:List ((Int×Int)×α)}(v:α)(gL:gi L a b=p)(hg:gh L a b=false):ej L a b v=L.take p++((a,b),v)::L.drop p:=by unfold ej;rw[if_neg (by rw[hg];decide),gL]
theorem ve{L:List ((Int×Int)×α)}(gL:gi L a b=p)(hg:gh L a b=true):nU L a b=L.take p++L.drop (p+1):=by unfold nU;rw[if_pos hg,gL]
theorem yI{L:List ((Int×Int)×α)}(hg:gh L a b=false):nU L a b=L:=by unfold nU;rw[if_neg (by rw[hg];decide)]
theorem uk(a b:Int):gh ([]:List ((Int×Int)×α)) a b=false:=by simp[gh]
section
variable{a:Act}{w w2:World}{o:Oper}{v:Value}
theorem Dg(hr:(Instr.build t ps).run Tryz.prog w=.ok v w2)(ho:o.op=.build t parts)(qG:(parts.map fun(i,x)=>(i,a.eval x))=ps:=by(simp only[ayH,ayC,ayB];rfl)):(execOp a.eval o).run Tryz.prog w=.ok (.value v) w2:=by subst qG;unfold execOp;simp only[ho,Sem.run_bind,hr,Result.andThen_ok,Sem.run_pure]
theorem E4(hr:(Instr.buildSlice t n ps).run Tryz.prog w=.ok v w2)(ho:o.op=.buildSlice t n parts)(qG:(parts.map fun(i,x)=>(i,a.eval x))=ps:=by(simp only[ayH,ayC,ayB];rfl)):(execOp a.eval o).run Tryz.prog w=.ok (.value v) w2:=by subst qG;unfold execOp;simp only[ho,Sem.run_bind,hr,Result.andThen_ok,Sem.run_pure]
end
end
end Go.Proofs.YtdkpbpjcbkibiaaGreatDoor.B
