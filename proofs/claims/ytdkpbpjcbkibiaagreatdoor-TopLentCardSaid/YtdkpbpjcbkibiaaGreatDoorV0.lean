/- Base Tail Inn W U K Dx -/
import Derived.WalkKit
import Derived.KernelRfl
import Derived.Below
import Derived.IntWalk
import Derived.Deep.QuietTactic
import Derived.BigQuiet
import Derived.Laws.Rows
import Derived.Deep.DeepCutAuto
import Derived.Deep.CutBlock
import Derived.WalkSpells
import Derived.StillTail
import Derived.TacticsIn
import Derived.OrdersIn
import Derived.RangeFuncLeaves
import Derived.Laws.CopyRow
import Derived.Laws.AppendOwn
import Derived.OwnWalk
import Derived.LoopNIn
import Derived.RangeFuncNested
import Derived.Laws.Append
import Derived.Lib.Overlaps
import Derived.Lib.SliceRun
import Derived.DefersIn
import Derived.RowKit
import GoSem.Core.Value
import Derived.Stop.BytesEq
import Derived.MapKept
import Derived.Laws.StructEq
import Derived.LaidMore
import Derived.Lib.LaidU8
import Derived.Lay
import Derived.MakeChecks
import Derived.Stop.Joined
import Derived.LaidLaws
import Derived.Deep.Slices
import Derived.OpenShut
import Derived.Shelf.Strings.Fields
import Derived.Ground.NamesProg
import Derived.Laws.NewFold
import Derived.ProofKit
import Derived.ChangeOld
import Derived.Carry
import Derived.SizedLaws
import Derived.Test.YtdkpbpjcbkibiaaGreatDoorProg
set_option linter.all false
set_option maxRecDepth 100000
set_option maxHeartbeats 4000000
namespace Go.Proofs.YtdkpbpjcbkibiaaGreatDoor.B
open Go.RowKit
abbrev ayo:=@Nat.le_trans
abbrev ayp:=@Nat.le_refl
abbrev ayq:=@List.getElem?_eq_getElem
abbrev ayr:=@Nat.le_of_ble_eq_true
abbrev ays:=@List.getElem?_eq_some_iff
abbrev ayt:=@Array.getElem?_toList
abbrev ayu:=@Nat.lt_of_lt_of_le
abbrev ayv:=@Array.getElem?_eq_some_iff
abbrev ayw:=@List.mem_of_getElem?
abbrev ayx:=@List.not_mem_nil
abbrev ayy:=@Array.length_toList
abbrev ayz:=@Array.getElem?_extract
abbrev ayA:=@Option.isSome_iff_exists
abbrev ayB:=@List.map_nil
abbrev ayC:=@List.map_cons
abbrev ayD:=@Nat.mul_le_mul_right
abbrev ayE:=@List.mem_cons
abbrev ayF:=@Bool.and_eq_true
abbrev ayG:=@List.length_append
abbrev ayH:=@List.map_toArray
abbrev ayI:=@List.setIfInBounds_toArray
abbrev ayJ:=@List.length_cons
abbrev ayK:=@List.forall_mem_cons
abbrev ayL:=@List.getElem?_map
abbrev ayM:=@List.mem_map
abbrev ayN:=@Array.getElem?_eq_none
abbrev ayO:=@List.getElem?_append_right
abbrev ayP:=@Nat.zero_le
abbrev ayQ:=@Nat.lt_or_ge
abbrev ayR:=@Nat.zero_add
abbrev ayS:=@List.all_eq_true
abbrev ayT:=@List.set_cons_succ
abbrev ayU:=@List.set_cons_zero
abbrev ayV:=@List.getElem?_append_left
abbrev ayW:=@Array.ext_getElem?
abbrev ayX:=@List.mem_iff_getElem?
abbrev ayY:=@List.length_nil
abbrev ayZ:=@List.length_take
abbrev ay0:=@Nat.add_mul
abbrev ay1:=@List.take_add_one
abbrev ay2:=@List.getElem?_append
abbrev ay3:=@List.nodup_cons
abbrev ay4:=@Nat.le_of_eq
abbrev ay5:=@List.getD_eq_getElem?_getD
abbrev ay6:=@List.mem_cons_of_mem
abbrev ay7:=@Nat.not_lt_zero
abbrev ay8:=@Option.some.injEq
abbrev ay9:=@Option.map_some
abbrev aza:=@Option.bind_eq_some_iff
abbrev azb:=@List.drop_eq_nil_of_le
abbrev azc:=@Nat.ne_of_lt
abbrev azd:=@List.mem_iff_getElem
abbrev aze:=@List.getElem?_set
abbrev azf:=@List.head?_drop
abbrev azg:=@Array.getElem?_append_left
abbrev azh:=@List.cons_append
abbrev azi:=@List.getElem?_drop
abbrev azj:=@List.nil_append
abbrev azk:=@List.mem_append
abbrev azl:=@List.length_filter_le
abbrev azm:=@Array.getElem?_push
abbrev azn:=@Array.size_push
abbrev azo:=@List.length_eq_zero_iff
abbrev azp:=@List.mem_or_eq_of_mem_set
abbrev azq:=@List.take_length
abbrev azr:=@List.length_drop
abbrev azs:=@List.mem_cons_self
abbrev azt:=@Nat.add_zero
abbrev azu:=@List.drop_succ_cons
abbrev azv:=@List.pairwise_iff_getElem
abbrev azw:=@Array.getElem?_eq_getElem
abbrev azx:=@List.length_set
abbrev azy:=@Bool.or_eq_true
abbrev azz:=@List.getElem?_take_of_lt
abbrev azA:=@Array.replicate_succ
abbrev azB:=@Array.replicate_zero
abbrev azC:=@List.ext_getElem?
abbrev azD:=@List.append_nil
abbrev azE:=@Nat.min_eq_left
abbrev azF:=@Array.getElem?_append_right
abbrev azG:=@List.take_of_length_le
abbrev azH:=@Array.toArray_toList
abbrev azI:=@Array.setIfInBounds_comm
abbrev azJ:=@Nat.lt_trichotomy
abbrev azK:=@List.append_assoc
abbrev azL:=@List.size_toArray
abbrev azM:=@List.push_toArray
abbrev azN:=@Nat.pow_succ
abbrev azO:=@List.append_toArray
abbrev azP:=@List.drop_append
abbrev azQ:=@List.take_append
abbrev azR:=@Ne.symm
abbrev azS:=@Bool.eq_iff_iff
abbrev azT:=@Array.getD_eq_getD_getElem?
abbrev azU:=@List.map_map
abbrev azV:=@List.length_map
abbrev azW:=@List.getElem?_eq_none
abbrev azX:=@Prod.mk.injEq
abbrev azY:=@List.foldl_append
abbrev azZ:=@List.drop_eq_getElem_cons
abbrev az0:=@Array.append_assoc
abbrev az1:=@List.getElem?_cons_succ
abbrev az2:=@Nat.add_sub_cancel
abbrev az3:=@Int.eq_ofNat_of_zero_le
abbrev az4:=@Array.extract_size
abbrev az5:=@Option.map_eq_some_iff
abbrev az6:=@Array.size_append
abbrev az7:=@Array.getElem?_setIfInBounds_ne
abbrev az8:=@List.drop_zero
abbrev az9:=@List.getElem?_toArray
abbrev aAa:=@List.take_append_drop
abbrev aAb:=@Array.getElem?_modify
abbrev aAc:=@Array.getElem?_append
abbrev aAd:=@Nat.lt_succ_self
abbrev aAe:=@List.mem_of_mem_drop
abbrev aAf:=@List.mem_of_mem_take
abbrev aAg:=@Array.toList_append
abbrev aAh:=@Option.some.inj
abbrev aAi:=@List.map_append
abbrev aAj:=@List.mem_filter
abbrev aAk:=@Int.le_refl
abbrev aAl:=@List.foldl_cons
abbrev aAm:=@List.getElem?_range
abbrev aAn:=@Nat.sub_self
abbrev aAo:=@List.getElem?_take
abbrev aAp:=@List.nodup_nil
abbrev aAq:=@List.pairwise_map
abbrev aAs:=@Nat.mul_one
abbrev aAt:=@List.foldlM_cons
abbrev aAu:=@Nat.lt_of_not_le
abbrev aAv:=@Option.getD_some
abbrev aAw:=@List.getElem_set
abbrev aAx:=@List.getElem_mem
abbrev aAy:=@Option.bind_some
abbrev aAB:=@List.foldlM_nil
abbrev aAE:=@Array.ext'
abbrev aAH:=@Nat.mul_le_mul
abbrev aCR:=@List.mem_range
abbrev aDG:=@List.map_congr_left
theorem om{P:Prop}(h:P:=by omega):P:=h
theorem kr{P:Prop}(h:P:=by kernel_rfl):P:=h
theorem dd{P:Prop}(h:P:=by decide):P:=h
abbrev CP:=Calls Tryz.prog
abbrev Bw(w w':World):Prop:=Below w.heap.size w w'
abbrev CB(f:FuncId)(args:Array Value)(w:World)(v:Value):Prop:=Calls Tryz.prog f args w fun e w'=>e=.returned v∧Below w.heap.size w w'
abbrev fR(t:Array Value):Act:={tmps:=t,defers:=[]}
abbrev U0:=@Tryz.underlying0
abbrev U3:=@Tryz.underlying3
abbrev U4:=@Tryz.underlying4
abbrev U5:=@Tryz.underlying5
abbrev U9:=@Tryz.underlying9
abbrev U21:=@Tryz.underlying21
abbrev U22:=@Tryz.underlying22
abbrev U26:=@Tryz.underlying26
abbrev U27:=@Tryz.underlying27
abbrev U31:=@Tryz.underlying31
abbrev U33:=@Tryz.underlying33
abbrev U34:=@Tryz.underlying34
abbrev U36:=@Tryz.underlying36
abbrev U38:=@Tryz.underlying38
abbrev U40:=@Tryz.underlying40
abbrev U42:=@Tryz.underlying42
abbrev U56:=@Tryz.underlying56
abbrev U57:=@Tryz.underlying57
abbrev U62:=@Tryz.underlying62
abbrev U64:=@Tryz.underlying64
abbrev U70:=@Tryz.underlying70
abbrev U74:=@Tryz.underlying74
abbrev U76:=@Tryz.underlying76
abbrev U78:=@Tryz.underlying78
abbrev U80:=@Tryz.underlying80
abbrev U85:=@Tryz.underlying85
abbrev U97:=@Tryz.underlying97
abbrev U105:=@Tryz.underlying105
abbrev U106:=@Tryz.underlying106
abbrev U109:=@Tryz.underlying109
abbrev U118:=@Tryz.underlying118
abbrev U121:=@Tryz.underlying121
abbrev U122:=@Tryz.underlying122
abbrev U131:=@Tryz.underlying131
abbrev U144:=@Tryz.underlying144
abbrev U156:=@Tryz.underlying156
abbrev U157:=@Tryz.underlying157
abbrev U158:=@Tryz.underlying158
abbrev U163:=@Tryz.underlying163
abbrev U165:=@Tryz.underlying165
abbrev U166:=@Tryz.underlying166
abbrev U189:=@Tryz.underlying189
abbrev U199:=@Tryz.underlying199
abbrev U215:=@Tryz.underlying215
abbrev U240:=@Tryz.underlying240
abbrev U245:=@Tryz.underlying245
abbrev U248:=@Tryz.underlying248
abbrev U264:=@Tryz.underlying264
abbrev U267:=@Tryz.underlying267
abbrev U268:=@Tryz.underlying268
abbrev U273:=@Tryz.underlying273
abbrev U281:=@Tryz.underlying281
abbrev U310:=@Tryz.underlying310
abbrev U324:=@Tryz.underlying324
abbrev U333:=@Tryz.underlying333
abbrev U353:=@Tryz.underlying353
abbrev U354:=@Tryz.underlying354
abbrev U377:=@Tryz.underlying377
abbrev U379:=@Tryz.underlying379
abbrev U391:=@Tryz.underlying391
abbrev U394:=@Tryz.underlying394
abbrev U396:=@Tryz.underlying396
abbrev U398:=@Tryz.underlying398
abbrev U408:=@Tryz.underlying408
abbrev U409:=@Tryz.underlying409
abbrev U411:=@Tryz.underlying411
abbrev U412:=@Tryz.underlying412
abbrev U414:=@Tryz.underlying414
abbrev U417:=@Tryz.underlying417
abbrev U421:=@Tryz.underlying421
abbrev U422:=@Tryz.underlying422
variable{S:Nat→Prop}{a b c w w1 W:World}{g:Nat}{cs:Array Value}{t:TypeId}{v:Value}{a':Act}{N:Option Tmp}{f:FuncId}{fn:Func}
structure As(p:Prop):Prop where mk::(out:p)
structure au(S:Nat→Prop)(w w':World):Prop where
 os:w'.os=w.os
 tape:w'.tape=w.tape
 output:w'.output=w.output
 size:w.heap.size≤w'.heap.size
 block:∀k,k<w.heap.size→¬S k→w'.heap[k]?=w.heap[k]?
theorem au.refl(S:Nat→Prop)(w:World):au S w w:=⟨rfl,rfl,rfl,ayp _,fun _ _ _=>rfl⟩
theorem au.trans(h:au S a b)(k:au (fun i=>S i∨a.heap.size≤i) b c):au S a c:=⟨k.os.trans h.os,k.tape.trans h.tape,k.output.trans h.output,ayo h.size k.size,fun i hi hs=>(k.block i (ayu hi h.size) (fun q=>q.elim hs om)).trans (h.block i hi hs)⟩
theorem au.mono{S':Nat→Prop}(h:au S a b)(hs:∀i,i<a.heap.size→S i→S' i):au S' a b:=⟨h.os,h.tape,h.output,h.size,fun i hi hn=>h.block i hi (fun q=>hn (hs i hi q))⟩
theorem au.drew(h:au S a b):au S a b.drew:=⟨h.os,h.tape,h.output,h.size,h.block⟩
theorem au.alloc(h:au S a b)(o:Obj):au S a (b.alloc o):=⟨h.os,h.tape,h.output,by have:=h.size;simp;omega,fun i hi hs=>(Below.heap_alloc _ _ _ (ayu hi h.size)).trans (h.block i hi hs)⟩
theorem au.setCell(h:au S a b){p:Addr}(hp:S p.block∨a.heap.size≤p.block)(u:Value):au S a (b.setCell p u):=⟨h.os,h.tape,h.output,by have:=h.size;simp[World.setCell];omega,fun i hi hs=>(Below.heap_setCell _ _ _ _ (fun e=>by subst e;exact hp.elim hs om)).trans (h.block i hi hs)⟩
theorem au.aW(h:Bw a b):au S a b:=⟨h.os,h.tape,h.output,h.size,fun i hi _=>h.block i hi⟩
theorem au.below(h:au (fun _=>False) a b):Bw a b:=⟨h.os,h.tape,h.output,h.size,fun i hi=>h.block i hi (fun q=>q)⟩
theorem au.step(h:au S a b)(k:Bw b c):au S a c:=h.trans (au.aW k)
def bH(w:World)(g:Nat)(cs:Array Value)(t:TypeId):Prop:=w.heap[g]?=some (.cells cs t (0,0))
theorem bH.lt(h:bH w g cs t):g<w.heap.size:=(ayv.1 h).1
theorem bH.cell(h:bH w g cs t)(i:Nat):w.cell? ⟨g,i,none⟩=cs[i]?:=cell_of_row w g i cs t (0,0) h
theorem bH.below(h:bH w g cs t)(hb:Bw w w1):bH w1 g cs t:=(hb.block g h.lt).trans h
theorem bH.turns(h:bH w g cs t)(hb:au S w w1)(hn:¬S g):bH w1 g cs t:=(hb.block g h.lt hn).trans h
theorem bH.drew(h:bH w g cs t):bH w.drew g cs t:=h
theorem bH.alloc(h:bH w g cs t)(o:Obj):bH (w.alloc o) g cs t:=(Below.heap_alloc w o g h.lt).trans h
theorem bH.new(w:World)(cs:Array Value)(t:TypeId):bH (w.alloc (.cells cs t (0,0))) w.heap.size cs t:=heap_alloc_new w _
theorem bH.set(h:bH w g cs t)(i:Nat)(u:Value):bH (w.setCell ⟨g,i,none⟩ u) g (cs.setIfInBounds i u) t:=heap_setCell_same w g i cs t u h
def fq(f:FuncId)(args:Array Value)(v:Value):Prop:=∀w:World,CP f args w fun e w'=>e=.returned v∧Bw w w'
theorem U{w2:World}(h:Bw w W)(k:Bw W w2):Bw w w2:=h.trans (k.mono h.size)
def mx(a b:Int):Int:=if a<b then b else a
def mn(a b:Int):Int:=if b<a then b else a
theorem uL(k k':IntKind)(x y:Int):Builtin.max2 (.int k x) (.int k' y)=pure (.int k (if x<y then y else x)):=by simp only[Builtin.max2,gt_iff_lt]
theorem yS(k k':IntKind)(x y:Int):Builtin.min2 (.int k x) (.int k' y)=pure (.int k (if y<x then y else x)):=by simp only[Builtin.min2]
theorem C1(ats:Array TypeId)(ty:TypeId)(a b:Value):Builtin.max_ ats ty #[a,b]=(Builtin.max2 a b >>= fun s=>pure s):=by simp only[Builtin.max_,aAt,aAB]
theorem C2(ats:Array TypeId)(ty:TypeId)(a b:Value):Builtin.min_ ats ty #[a,b]=(Builtin.min2 a b >>= fun s=>pure s):=by simp only[Builtin.min_,aAt,aAB]
theorem uM(n:Int):IntKind.i64.wrap n=wrap64 n:=by unfold wrap64;exact IntKind.wrap_i64 n
theorem w64{n:Int}(h1:-9223372036854775808≤n)(h2:n≤9223372036854775807):wrap64 n=n:=by unfold wrap64;omega
structure WQ(P:Program)(ops:Array Oper)(C:World→Prop)(Q:Act→Prop)(l:List Oper)(a:Act):Prop where out:wpQuiet P ops C Q l a
section
variable{P:Program}{ops:Array Oper}{C:World→Prop}{Q:Act→Prop}{a:Act}{o:Oper}{rest:List Oper}
theorem st(hr:∀w,C w→(execOp a.eval o).run P w=.ok (.value v) w)(hN:o.dst=N:=by rfl)(hw:Region.wanted o (yielded ops a.tmps)=true:=by rfl)(ha:a.put N v=a':=by(simp only[Act.put,ayI,ayU,ayT];rfl))(h:WQ P ops C Q rest a'):WQ P ops C Q (o::rest) a:=by subst ha;subst hN;refine⟨wpQuiet_step fun K hK=>?_⟩;rw[if_pos hw];refine⟨v,fun w hC=>?_,hK _ h.out⟩;unfold Oper.quietAt;rw[hr w hC];exact⟨rfl,rfl⟩
theorem sk(hN:o.dst=N:=by rfl)(hw:Region.wanted o (yielded ops a.tmps)=false:=by rfl)(ha:a.put N undef=a':=by(simp only[Act.put,ayI,ayU,ayT];rfl))(h:WQ P ops C Q rest a'):WQ P ops C Q (o::rest) a:=by subst ha;subst hN;refine⟨wpQuiet_step fun K hK=>?_⟩;rw[if_neg (by rw[hw];simp)];exact hK _ h.out
theorem oA(hf:P.funcs[f]?=some fn)(fQ:(fn.name== "runtime.NumGoroutine")=false)(hb:fn.body.isSome=true)(args:Array Value)(w:World):(callFunc f args).run P w=.ok (.enter f args) w:=by
 have h1:fn.name≠ "runtime.NumGoroutine":=by simpa using fQ
 obtain⟨c,hc⟩:=ayA.1 hb;simp[callFunc,hf,h1,hc]
theorem ca{xs:Array Operand}{ts:Array TypeId}(hf:P.funcs[f]?=some fn)(args:Array Value)(hc:∀w,C w→Calls P f args w fun e w'=>e=.returned v∧C w')(fQ:(fn.name== "runtime.NumGoroutine")=false:=by kernel_rfl)(hb:fn.body.isSome=true:=by rfl)(kg:o.op=.call {callee:=.value (.func f),args:=xs,argTypes:=ts}:=by rfl)(ft:xs.map a.eval=args:=by(simp only[ayH,ayC,ayB];rfl))(hN:o.dst=N:=by rfl)(hw:Region.wanted o (yielded ops a.tmps)=true:=by rfl)(ha:a.put N v=a':=by(simp only[Act.put,ayI,ayU,ayT];rfl))(h:WQ P ops C Q rest a'):WQ P ops C Q (o::rest) a:=by
 subst ha;subst hN;refine⟨wpQuiet_step fun K hK=>?_⟩;rw[if_pos hw];refine⟨v,fun w hC=>?_,hK _ h.out⟩;have he:=oA hf fQ hb args w;unfold Oper.quietAt;have Of:(execOp a.eval o).run P w=.ok (.enter f args) w:=by unfold execOp;simp[kg,resolve,Deferred.ofValue,invoke,Act.eval,ft,he]
 rw[Of];exact⟨rfl,hc w hC⟩
theorem ou(h:Q a):WQ P ops C Q [] a:=⟨h⟩
end
section
variable{P:Program}
theorem NM{id:Nat}{Q:Exit→Act→World→Prop}{a:Act}{l:List Oper}(C:World→Prop)(hC:C w.drew)(h:WQ P l.toArray C (fun a'=>∀w',C w'→Q .normal a' w') l a)(hm:P.follows .mixedOrders=true:=by kernel_rfl)(hB:Region.lexB .any l.toArray=true:=by kernel_rfl):(Code.region id l.toArray true).wp P Q a w:=wp_region_quiet hm hB hC (by simpa using h.out)
end
theorem bQ{args:Array Value}(h:fq f args v):∀w,Bw W w→CP f args w fun e w'=>e=.returned v∧Bw W w':=fun w hb=>(h w).mono fun _ _ ⟨he,k⟩=>⟨he,U hb k⟩
abbrev i6(n:Int):Value:=.int .i64 n
abbrev pA(g o:Nat):Value:=.pointer (some ⟨g,o,none⟩)
section
open Go.RowKit
variable{n g:Nat}{L:Array Bool→Act→Prop}
section
variable{P:Program}{ops:Array Oper}{md:Region.Mode}{C:World→Prop}
def pZ(P:Program)(md:Region.Mode)(ops:Array Oper)(C:World→Prop)(n:Nat)(L:Array Bool→Act→Prop):Nat→Array Bool→Act→Prop
 |0,aj,a=>L aj a
 |f+1,aj,a=>Region.ready md ops aj≠[]∧∀i∈Region.ready md ops aj,i<n∧qOp P ops C i (pZ P md ops C n L f (aj.setIfInBounds i true)) a
theorem xF{n g:Nat}{L:Array Bool→Act→Prop}{Q':Exit→Act→World→Prop}(hL:∀aj a w,C w→L aj a→wpAny P md ops Q' g aj a w):∀(f:Nat) (aj:Array Bool) (a:Act) (w:World),C w→pZ P md ops C n L f aj a→wpAny P md ops Q' (f+g) aj a w
 |0,aj,a,w,hw,h=>by rw[ayR];exact hL _ _ _ hw h
 |f+1,aj,a,w,hw,h=>by rw[show f+1+g=(f+g)+1 by omega];exact⟨fun h0=>absurd h0 h.1,fun i hi=>wpOp_of_qOp hw (fun a' w' GR h'=>xF hL f _ a' w' GR h') (h.2 i hi).2⟩
theorem GS{i:Nat}{oi:Oper}{v:Value}(hi:ops[i]?=some oi)(uN:∀(j:Nat) (o:Oper) cs b,ops[j]?=some o→o.op≠.select cs b)(hs:Region.sinkB md ops n=true)(hc:Region.chainB md ops n=true)(hn:n<ops.size)(jU:i<n)(EL:∀aj a,L aj a→∀j∈Region.ready md ops aj,n≤j):∀(f:Nat) (aj:Array Bool) (a:Act),HeadInv md ops n aj→(∀j oj,ops[j]?=some oj→j≠i→aj.getD j true=false→(∀e∈oj.after,Region.binds md e=true→e.on≠i)→oi.apart ops oj=true)→i∈Region.ready md ops aj→YieldsIn P ops C oi v a→pZ P md ops C n L f (aj.setIfInBounds i true) (a.put oi.dst v)→pZ P md ops C n L (f+1) aj a:=by
 intro f;induction f with
 |zero=>
  intro aj a inv _ hr hy H;refine⟨List.ne_nil_of_mem hr,fun j hj=>?_⟩;have hjn:j<n:=aAu fun h=>tail_waits hs hc hn inv _ i rfl jU (mem_ready.1 hr).1 j h hj;refine⟨hjn,?_⟩;by_cases EM:j=i;·subst EM;exact hy.qOp hi H
  ·have:=EL _ _ H j (ready_mono hj EM);omega
 |succ f ih=>
  intro aj a inv EN hr hy H;have hun:=(mem_ready.1 hr).1;refine⟨List.ne_nil_of_mem hr,fun j hj=>?_⟩;have hjn:j<n:=aAu fun h=>tail_waits hs hc hn inv _ i rfl jU hun j h hj;refine⟨hjn,?_⟩;by_cases EM:j=i;·subst EM;exact hy.qOp hi H
  ·obtain⟨Og,oj,GI,yT⟩:=mem_ready.1 hj;have YW:∀e∈oj.after,Region.binds md e=true→e.on≠i:=fun e he hb heq=>by have h1:=yT e he hb;rw[heq,getD_both hun]at h1;cases h1
   have h2:=qOp_put GI (EN j oj GI EM Og YW) (fun cs b=>uN i oi cs b hi) (fun cs b=>uN j oj cs b GI) hy (H.2 j (ready_mono hj EM)).2;refine qOp_mono (fun a' h3=>ih (aj.setIfInBounds j true) a' (inv.set hj hjn) (fun k ok hk hki hu hno=>EN k ok hk hki ?_ hno) (ready_mono hr (azR EM)) h3.1 ?_) h2
   ·by_cases Xj:j=k;·subst Xj;exact Og
    ·rw[getD_set_ne true Xj]at hu;exact hu
   ·rw[azI _ _ EM];exact h3.2
theorem uO{n g:Nat}{Lq:Act→Prop}(uN:Region.noSelect ops=true)(hs:Region.sinkB md ops n=true)(hc:Region.chainB md ops n=true)(hn:n<ops.size):∀(l:List Oper) (k:Nat) (aj:Array Bool) (a:Act),(∀j,j<l.length→l[j]?=ops[k+j]?)→k+l.length=n→HeadInv md ops n aj→Region.lexHead md ops g l.length k aj=true→wpQuiet P ops C Lq l a→pZ P md ops C n (fun bN a'=>Region.seqB md ops g n bN=true∧Lq a') l.length aj a
 |[],k,aj,a,_,hk,_,hB,h=>by
  obtain rfl:k=n:=by simpa using hk
  exact⟨by simpa[Region.lexHead]using hB,h⟩
 |o::l,k,aj,a,hl,hk,inv,hB,h=>by
  have h0:ops[k]?=some o:=by simpa using(hl 0 (by simp)).symm
  simp only[ayJ,Region.lexHead,ayF]at hB;obtain⟨⟨hr,hf⟩,YX⟩:=hB;have hkn:k<n:=by simp only[ayJ]at hk;omega
  have sC:k∈Region.ready md ops aj:=by simpa using hr
  obtain⟨v,hy,hK⟩:=yieldsIn_of_qOp (K:=wpQuiet P ops C Lq l) h0 (by unfold qOp;simp only[h0];exact h);exact GS h0 (Region.noSelect_spec uN) hs hc hn hkn (fun bN a' hL=>seqB_ready hL.1) l.length aj a inv (Region.free_spec h0 hf) sC hy (uO uN hs hc hn l (k+1) _ _ (fun j hj=>by have:=hl (j+1) (by simp;omega);simpa[Nat.add_assoc,Nat.add_comm 1 j]using this) (by simp only[ayJ]at hk;omega) (inv.set sC hkn) YX hK)
theorem uP{id:Nat}{Q:Exit→Act→World→Prop}{a:Act}{w:World}{l:List Oper}(n:Nat)(C:World→Prop)(hC:C w.drew)(h:WQ P l.toArray C (fun a'=>∀w',C w'→wpList P l.toArray Q (l.drop n) a' w') (l.take n) a)(hm:P.follows .mixedOrders=true:=by kernel_rfl)(hB:Region.lexTailB .any l.toArray n=true:=by kernel_rfl):(Code.region id l.toArray true).wp P Q a w:=by
 simp only[Region.lexTailB,ayF,decide_eq_true_eq]at hB;obtain⟨⟨⟨⟨uN,hn⟩,hs⟩,hc⟩,Oh⟩:=hB;have hn':n<l.length:=by simpa using hn
 have I3:(l.take n).length=n:=by simp;omega
 have KF:(l.drop n).length=l.toArray.size-n:=by simp
 have GU:HeadInv .any l.toArray n (Array.replicate l.toArray.size false):=⟨by simp,fun j oj _ hl=>(by rw[getD_replicate_false]at hl;cases hl),fun t _ ht=>getD_in (by simpa using ht) (getD_replicate_false _ _)⟩
 have H:=uO (P:=P) (C:=C) (md:=.any) (g:=l.toArray.size-n) uN hs hc hn (l.take n) 0 _ a (fun j hj=>by
  have NO:j<n:=by rw[I3]at hj;exact hj
  simp[NO]) (by simpa using I3) GU (by rw[I3];exact Oh) h.out
 refine wp_region_any hm ?_;have:=xF (Q':=Q) (g:=l.toArray.size-n) (fun aj a' w' GR hL=>by have:=wpAny_of_seq (P:=P) (md:=.any) (Q':=Q) (l.drop n) n aj a' w' (fun j=>by simp[azi]) (by rw[KF];exact hL.1) (hL.2 w' GR);rwa[KF]at this) _ _ _ _ hC H;rw[I3,show n+(l.toArray.size-n)=l.toArray.size by omega]at this;exact this
end
end
section
open Go.RowKit
variable{r:Option Nat}{n id:Nat}{P:Program}{f:FuncId}{args:Array Value}{w:World}{R:Ending→World→Prop}{a:Act}{K:Act→Prop}{K':Act→World→Prop}{Q' Q:Exit→Act→World→Prop}{l:List Oper}
def FW(r:Option Nat):Fence:={Fence.wide with round:=r}
theorem sD(h:Calls P f args w R):CallsIn (FW r) n P f args w R:=callsIn_wide.2 h
theorem EO(h:CallsIn (FW r) n P f args w R):Calls P f args w R:=(callsIn_wide (n:=n)).1 h
def jl(ops:Array Oper):Bool:=ops.all fun o=>match o.op with|.defer _=>false|_=>true
theorem uQ{ops:Array Oper}(h:jl ops=true)(j:Nat)(o:Oper)(ho:ops[j]?=some o)(c:Call):o.op≠.defer c:=fun e=>by obtain⟨gD,hj⟩:=ayv.1 ho;have:=(Array.all_eq_true.1 h) j gD;rw[hj,e]at this;exact Bool.noConfusion this
section
variable{P:Program}{ops:Array Oper}{md:Region.Mode}{C:World→Prop}{r:Option Nat}{n:Nat}
theorem Bj{o:Oper}(hd:∀c,o.op≠.defer c)(hw:C w)(h:∀a w',C w'→K a→K' a w')(hh:o.quiet P a C K):o.wpIn (FW r) n P a w K' Q':=by
 obtain⟨v,h1,h2⟩:=hh;have h3:=h1 w hw;unfold Oper.quietAt at h3;unfold Oper.wpIn;refine⟨fun _ _=>trivial,?_⟩;rw[Oper.semAt_eq _ _ _ hd];generalize (execOp a.eval o).run P w=res at*;cases res with
 |ok nx w'=>
  cases nx<;>simp only[Oper.quietUpon]at h3<;>simp only[Oper.uponIn];case value u=>obtain⟨e1,e2⟩:=h3;rw[e1,e2];exact h _ _ hw h2
  case skip=>obtain⟨e1,e2⟩:=h3;rw[e1,←e2];exact h _ _ hw h2
  case enter f args=>obtain⟨e1,hc⟩:=h3;rw[e1];exact⟨fun h=>(by cases h),sD (hc.mono fun e w'' ⟨he,YY⟩=>by subst he;exact h _ _ YY h2)⟩
 |halt x w'=>simp only[Oper.quietUpon]at h3
theorem tF{i:Nat}(hd:jl ops=true)(hC:C w)(h:∀a w',C w'→K a→K' a w')(hh:qOp P ops C i K a):wpOpIn (FW r) n P ops Q' i K' a w:=by
 unfold qOp at hh;unfold wpOpIn;split;·rename_i ho;simp only[ho]at hh;exact h _ _ hC hh
 ·rename_i o ho;simp only[ho]at hh;split;·rename_i hw;simp only[hw,if_true]at hh;exact Bj (uQ hd i o ho) hC h hh
  ·rename_i hw;simp only[hw]at hh;exact⟨fun _ _=>trivial,h _ _ hC hh⟩
theorem o7{Q:Act→Prop}{Q':Exit→Act→World→Prop}(hd:jl ops=true)(hQ:∀a w,C w→Q a→Q' .normal a w):∀(fuel:Nat) (aj:Array Bool) (a:Act) (w:World),C w→wpAnyQ P md ops C Q fuel aj a→wpAnyIn (FW r) n P md ops Q' fuel aj a w
 |0,_,_,_,hw,h=>⟨h.1,hQ _ _ hw h.2⟩
 |fuel+1,_,_,_,hw,h=>⟨fun h0=>hQ _ _ hw (h.1 h0),fun i hi=>tF hd hw (fun a' w' GR=>o7 hd hQ fuel _ a' w' GR) (h.2 i hi)⟩
theorem ald(C:World→Prop)(hC:C w.drew)(h:WQ P l.toArray C (fun a'=>∀w',C w'→Q .normal a' w') l a)(hm:P.follows .mixedOrders=true:=by kernel_rfl)(hB:Region.lexB .any l.toArray=true:=by kernel_rfl)(hd:jl l.toArray=true:=by kernel_rfl):(Code.region id l.toArray true).wpIn (FW r) n P Q a w:=by have YX:=hB;simp only[Region.lexB,ayF]at YX;refine wpIn_region_any hm (o7 hd (Q:=fun a'=>∀w',C w'→Q .normal a' w') (fun _ w' GR h=>h w' GR) _ _ _ _ hC ?_);have:=wpAnyQ_lex (P:=P) (C:=C) (md:=.any) YX.1 l 0 (Array.replicate l.toArray.size false) a (by simp) (by simpa using YX.2) h.out;simpa using this
theorem tG{m g:Nat}{L:Array Bool→Act→Prop}{Q':Exit→Act→World→Prop}(hd:jl ops=true)(hL:∀aj a w,C w→L aj a→wpAnyIn (FW r) n P md ops Q' g aj a w):∀(f:Nat) (aj:Array Bool) (a:Act) (w:World),C w→pZ P md ops C m L f aj a→wpAnyIn (FW r) n P md ops Q' (f+g) aj a w
 |0,aj,a,w,hw,h=>by rw[ayR];exact hL _ _ _ hw h
 |f+1,aj,a,w,hw,h=>by rw[show f+1+g=(f+g)+1 by omega];exact⟨fun h0=>absurd h0 h.1,fun i hi=>tF hd hw (fun a' w' GR h'=>tG hd hL f _ a' w' GR h') (h.2 i hi).2⟩
theorem nO{Q':Exit→Act→World→Prop}:∀(l:List Oper) (k:Nat) (aj:Array Bool) (a:Act) (w:World),(∀j,l[j]?=ops[k+j]?)→Region.seqB md ops l.length k aj=true→wpListIn (FW r) n P ops Q' l a w→wpAnyIn (FW r) n P md ops Q' l.length aj a w
 |[],k,aj,a,w,hl,hB,h=>⟨by simpa[Region.seqB]using hB,h⟩
 |o::l,k,aj,a,w,hl,hB,h=>by
  have h0:ops[k]?=some o:=by simpa using(hl 0).symm
  simp only[ayJ,Region.seqB,ayF]at hB;obtain⟨hr,YX⟩:=hB;replace hr:=of_decide_eq_true hr;refine⟨fun h1=>(by rw[hr]at h1;cases h1),fun i hi=>?_⟩;rw[hr]at hi;have Oi:i=k:=by simpa using hi
  subst Oi;unfold wpOpIn;simp only[h0];have ih:=fun a w=>nO (Q':=Q') l (i+1) (aj.setIfInBounds i true) a w (fun j=>by have:=hl (j+1);simpa[Nat.add_assoc,Nat.add_comm 1 j]using this) YX;simp only[wpListIn]at h;split;·rename_i hw;rw[if_pos hw]at h;exact Oper.wpIn_mono ih h
  ·rename_i hw;rw[if_neg hw]at h;exact⟨h.1,ih _ _ h.2⟩
theorem KG(m:Nat)(C:World→Prop)(hC:C w.drew)(h:WQ P l.toArray C (fun a'=>∀w',C w'→wpListIn (FW r) n P l.toArray Q (l.drop m) a' w') (l.take m) a)(hm:P.follows .mixedOrders=true:=by kernel_rfl)(hB:Region.lexTailB .any l.toArray m=true:=by kernel_rfl)(hd:jl l.toArray=true:=by kernel_rfl):(Code.region id l.toArray true).wpIn (FW r) n P Q a w:=by
 simp only[Region.lexTailB,ayF,decide_eq_true_eq]at hB;obtain⟨⟨⟨⟨uN,hn⟩,hs⟩,hc⟩,Oh⟩:=hB;have hn':m<l.length:=by simpa using hn
 have I3:(l.take m).length=m:=by simp;omega
 have KF:(l.drop m).length=l.toArray.size-m:=by simp
 have GU:HeadInv .any l.toArray m (Array.replicate l.toArray.size false):=⟨by simp,fun j oj _ hl=>(by rw[getD_replicate_false]at hl;cases hl),fun t _ ht=>getD_in (by simpa using ht) (getD_replicate_false _ _)⟩
 have H:=uO (P:=P) (C:=C) (md:=.any) (g:=l.toArray.size-m) uN hs hc hn (l.take m) 0 _ a (fun j hj=>by
  have NO:j<m:=by rw[I3]at hj;exact hj
  simp[NO]) (by simpa using I3) GU (by rw[I3];exact Oh) h.out
 refine wpIn_region_any hm ?_;have:=tG (r:=r) (n:=n) (Q':=Q) (g:=l.toArray.size-m) hd (fun aj a' w' GR hL=>by have:=nO (P:=P) (md:=.any) (r:=r) (n:=n) (Q':=Q) (l.drop m) m aj a' w' (fun j=>by simp[azi]) (by rw[KF];exact hL.1) (hL.2 w' GR);rwa[KF]at this) _ _ _ _ hC H;rw[I3,show m+(l.toArray.size-m)=l.toArray.size by omega]at this;exact this
end
end
section
open Go.RowKit
variable{id g i n off sz:Nat}{c:Code}{l:List Oper}{a' a:Act}{N:Option Tmp}{v v':Value}{w2 w w1:World}{f:FuncId}{R:Ending→World→Prop}{fn:Func}{xs:Array Operand}{ts:Array TypeId}{x:Operand}{args cs cs':Array Value}{t ty T e:TypeId}{u:Tmp}{vs:List Value}{L:List (Nat×Array Value×TypeId)}{S:Nat→Prop}{d:TypeDesc}{o:Oper}{k k':IntKind}{s j:Int}{p:Option Addr}{Q:Exit→Act→World→Prop}{K:Act→World→Prop}
structure WC(r:Option Nat)(c:Code)(Q:Exit→Act→World→Prop)(a:Act)(w:World):Prop where out:c.wpIn (FW r) 0 Tryz.prog Q a w
structure WL(r:Option Nat)(ops:Array Oper)(Q:Exit→Act→World→Prop)(l:List Oper)(a:Act)(w:World):Prop where out:wpListIn (FW r) 0 Tryz.prog ops Q l a w
section
variable{r:Option Nat}{ops:Array Oper}{Q:Exit→Act→World→Prop}{a:Act}{w:World}{rest:List Oper}{o:Oper}{x y:Code}
theorem aeu(h:WC r x (Exit.then (fun a w=>WC r y Q a w) Q) a w):WC r (.seq x y) Q a w:=⟨wpIn_seq (wpIn_mono h.out fun e a w q=>by cases e<;>first|exact q.out|exact q)⟩
theorem YZ(h:Q .normal a w):WC r .skip Q a w:=⟨wpIn_skip h⟩
theorem uR(h:Q .ret a w):WC r .ret Q a w:=⟨wpIn_ret h⟩
theorem Y0(h:Q (.exit id) a w):WC r (.exit id) Q a w:=⟨wpIn_exit h⟩
theorem c_t{c:Operand}(hc:a.eval c=.bool true)(h:WC r x Q a w):WC r (.cond c x y) Q a w:=⟨wpIn_cond_true hc h.out⟩
theorem c_f{c:Operand}(hc:a.eval c=.bool false)(h:WC r y Q a w):WC r (.cond c x y) Q a w:=⟨wpIn_cond_false hc h.out⟩
theorem Tm(h:WC r x (Exit.inBlock id Q) a w):WC r (.block id x) Q a w:=⟨wpIn_block h.out⟩
theorem Tn(h:Q .normal a w):Exit.inBlock id Q (.exit id) a w:=by simp only[Exit.inBlock,↓reduceIte];exact h
theorem aev(h:WL r l.toArray Q l a w):WC r (.region id l.toArray false) Q a w:=⟨wpIn_region_lit h.out⟩
theorem ale(C:World→Prop)(hC:C w.drew)(h:WQ Tryz.prog l.toArray C (fun a'=>∀w',C w'→Q .normal a' w') l a)(hB:Region.lexB .any l.toArray=true:=by kernel_rfl)(hd:jl l.toArray=true:=by kernel_rfl):WC r (.region id l.toArray true) Q a w:=⟨ald C hC h kr hB hd⟩
theorem alf(m:Nat)(C:World→Prop)(hC:C w.drew)(h:WQ Tryz.prog l.toArray C (fun a'=>∀w',C w'→WL r l.toArray Q (l.drop m) a' w') (l.take m) a)(hB:Region.lexTailB .any l.toArray m=true:=by kernel_rfl)(hd:jl l.toArray=true:=by kernel_rfl):WC r (.region id l.toArray true) Q a w:=by
 refine⟨KG m C hC ⟨?_⟩ kr hB hd⟩;have h':=h.out;revert h'
 have:∀(l':List Oper) (a:Act),wpQuiet Tryz.prog l.toArray C (fun a'=>∀w',C w'→WL r l.toArray Q (l.drop m) a' w') l' a→wpQuiet Tryz.prog l.toArray C (fun a'=>∀w',C w'→wpListIn (FW r) 0 Tryz.prog l.toArray Q (l.drop m) a' w') l' a:=by
  intro l';induction l' with
  |nil=>intro a h w' hw;exact(h w' hw).out
  |cons o l' ih=>
   intro a h;unfold wpQuiet at h ⊢;split;·rename_i hw;rw[if_pos hw]at h;exact⟨h.choose,h.choose_spec.1,ih _ h.choose_spec.2⟩
   ·rename_i hw;rw[if_neg hw]at h;exact ih _ h
 exact this _ _
theorem EP(h:Q .normal a w):WL r ops Q [] a w:=⟨h⟩
theorem ab(h:WL r ops Q rest a' w)(ha:a.put N v=a':=by(simp only[Act.put,ayI,ayU,ayT];rfl)):WL r ops Q rest (a.put N v) w:=by subst ha;exact h
theorem Oj(hr:(execOp a.eval o).run Tryz.prog w=.ok (.value v) w)(h:WL r ops Q rest a' w)(hd:∀c,o.op≠.defer c:=by(intro c hc;cases hc))(hN:o.dst=N:=by rfl)(hw:Region.wanted o (yielded ops a.tmps)=true:=by rfl)(ha:a.put N v=a':=by(simp only[Act.put,ayI,ayU,ayT];rfl)):WL r ops Q (o::rest) a w:=by subst ha;subst hN;refine⟨wpListIn_step fun K hK=>?_⟩;rw[if_pos hw];refine⟨fun _ _=>trivial,?_⟩;rw[Oper.semAt_eq _ _ _ hd,hr];exact hK _ _ h.out
theorem alh(h:WL r ops Q rest a' w)(hN:o.dst=N:=by rfl)(hw:Region.wanted o (yielded ops a.tmps)=false:=by rfl)(ha:a.put N undef=a':=by(simp only[Act.put,ayI,ayU,ayT];rfl)):WL r ops Q (o::rest) a w:=by subst ha;subst hN;refine⟨wpListIn_step fun K hK=>?_⟩;rw[if_neg (by rw[hw];simp)];exact⟨fun _ _=>trivial,hK _ _ h.out⟩
theorem qb(hr:(execOp a.eval o).run Tryz.prog w=.ok (.value v) w2)(h:WL r ops Q rest (a.put o.dst v) w2)(hd:∀c,o.op≠.defer c:=by(intro c hc;cases hc))(hw:Region.wanted o (yielded ops a.tmps)=true:=by rfl):WL r ops Q (o::rest) a w:=by refine⟨wpListIn_step fun K hK=>?_⟩;rw[if_pos hw];refine⟨fun _ _=>trivial,?_⟩;rw[Oper.semAt_eq _ _ _ hd,hr];exact hK _ _ h.out
theorem Ok(hr:(execOp a.eval o).run Tryz.prog w=.ok .skip w2)(h:WL r ops Q rest (a.put o.dst undef) w2)(hd:∀c,o.op≠.defer c:=by(intro c hc;cases hc))(hw:Region.wanted o (yielded ops a.tmps)=true:=by rfl):WL r ops Q (o::rest) a w:=by refine⟨wpListIn_step fun K hK=>?_⟩;rw[if_pos hw];refine⟨fun _ _=>trivial,?_⟩;rw[Oper.semAt_eq _ _ _ hd,hr];exact hK _ _ h.out
theorem I4{full:Array Value}(hr:(execOp a.eval o).run Tryz.prog w=.ok (.enter f full) w)(hc:CP f full w R)(h:∀e w',R e w'→∃v,e=.returned v∧WL r ops Q rest (a.put o.dst v) w')(hd:∀c,o.op≠.defer c)(hw:Region.wanted o (yielded ops a.tmps)=true):WL r ops Q (o::rest) a w:=by refine⟨wpListIn_step fun K hK=>?_⟩;rw[if_pos hw];refine⟨fun _ _=>trivial,?_⟩;rw[Oper.semAt_eq _ _ _ hd,hr];refine⟨fun h=>(by cases h),sD (hc.mono fun e w' hR=>?_)⟩;obtain⟨v,rfl,hk⟩:=h e w' hR;exact hK _ _ hk.out
theorem uc(hf:Tryz.prog.funcs[f]?=some fn)(args:Array Value)(hc:CP f args w R)(h:∀e w',R e w'→∃v,e=.returned v∧WL r ops Q rest (a.put o.dst v) w')(fQ:(fn.name== "runtime.NumGoroutine")=false:=by kernel_rfl)(hb:fn.body.isSome=true:=by rfl)(kg:o.op=.call {callee:=.value (.func f),args:=xs,argTypes:=ts}:=by rfl)(ft:xs.map a.eval=args:=by(simp only[ayH,ayC,ayB];rfl))(hw:Region.wanted o (yielded ops a.tmps)=true:=by rfl):WL r ops Q (o::rest) a w:=by refine I4 ?_ hc h (fun c hc=>by rw[kg]at hc;cases hc) hw;have he:=oA hf fQ hb args w;unfold execOp;simp[kg,resolve,Deferred.ofValue,invoke,Act.eval,ft,he]
theorem il{x:Operand}{cap:Array Value}(hf:Tryz.prog.funcs[f]?=some fn)(args full:Array Value)(hc:CP f full w R)(h:∀e w',R e w'→∃v,e=.returned v∧WL r ops Q rest (a.put o.dst v) w')(fQ:(fn.name== "runtime.NumGoroutine")=false:=by kernel_rfl)(hb:fn.body.isSome=true:=by rfl)(kg:o.op=.call {callee:=.value x,args:=xs,argTypes:=ts}:=by rfl)(hx:a.eval x=.func (.func f) #[] cap:=by rfl)(Ol:args++cap=full:=by(simp only[azO,azh,azj,azD]))(ft:xs.map a.eval=args:=by(simp only[ayH,ayC,ayB];rfl))(hw:Region.wanted o (yielded ops a.tmps)=true:=by rfl):WL r ops Q (o::rest) a w:=by subst Ol;refine I4 ?_ hc h (fun c hc=>by rw[kg]at hc;cases hc) hw;have he:=oA hf fQ hb (args++cap) w;unfold execOp;simp[kg,hx,resolve,Deferred.ofValue,invoke,ft,he]
end
def ud(fn:Func)(R:Ending→World→Prop):Exit→Act→World→Prop:=bodyPost Tryz.prog fn R
def o8(fn:Func)(R:Ending→World→Prop):Exit→Act→World→Prop:=bodyPostM (FW none) 0 Tryz.prog fn R
theorem To(hf:Tryz.prog.funcs[f]?=some fn)(h:WC none c (ud fn R) {tmps:=args++Array.replicate (fn.ntmps-args.size) undef,defers:=[]} w)(hb:fn.body=some c:=by rfl):CP f args w R:=EO (r:=none) (callsIn_of_wp (F:=FW none) (n:=0) hf hb trivial h.out)
theorem Om(hf:Tryz.prog.funcs[f]?=some fn)(h:WC none c (o8 fn R) {tmps:=args++Array.replicate (fn.ntmps-args.size) undef,defers:=[]} w)(hb:fn.body=some c:=by rfl):CP f args w R:=EO (r:=none) (callsIn_of_wp_marks (F:=FW none) (n:=0) hf hb trivial h.out)
theorem Y1{t:Tmp}(hR:R (.returned v) w)(h:fn.results=#[.tmp t]:=by rfl)(hv:a.tmps.getD t undef=v:=by rfl)(hd:a.defers=[]:=by rfl):ud fn R .ret a w:=⟨hd,v,by rw[results_tmp h,hv],hR⟩
theorem Y2{t:Tmp}(hR:R (.returned (.tuple #[v,v'])) w)(h:fn.results=#[.tmp t,.tmp u]:=by rfl)(hv:a.tmps.getD t undef=v:=by rfl)(hu:a.tmps.getD u undef=v':=by rfl)(hd:a.defers=[]:=by rfl):ud fn R .ret a w:=⟨hd,_,by rw[results_tmp2 h,hv,hu],hR⟩
theorem cK(hR:R (.returned (.tuple #[])) w)(h:fn.results=#[]:=by rfl)(hd:a.defers=[]:=by rfl):ud fn R .normal a w:=⟨hd,_,results_none h _ _ _,hR⟩
theorem C3(hR:R (.returned (.tuple #[])) w)(h:fn.results=#[]:=by rfl)(hd:a.defers=[]:=by rfl):ud fn R .ret a w:=⟨hd,_,results_none h _ _ _,hR⟩
structure jr(w w2:World)(g:Nat)(cs:Array Value)(t:TypeId):Prop where
 fA:bH w2 g cs t
 below:Bw w w2
 fresh:w.heap.size≤g
 lt:g<w2.heap.size
theorem jr.uS(w:World)(cs:Array Value)(t:TypeId):jr w (w.alloc (.cells cs t (0,0))) w.heap.size cs t:=⟨bH.new w cs t,(Below.refl _ _).alloc (ayp _) _,ayp _,by simp⟩
section
variable{r:Option Nat}{ops:Array Oper}{Q:Exit→Act→World→Prop}{a:Act}{w:World}{rest:List Oper}{o:Oper}
theorem Tp(w:World)(ty:TypeId)(v:Value):(Instr.box ty v).run Tryz.prog w=.ok (.pointer (some ⟨w.heap.size,0,none⟩)) (w.alloc (.cells v.cells ty (0,0))):=rfl
theorem lR(hx:a.eval x=v)(h:∀g w2,jr w w2 g v.cells ty→WL r ops Q rest (a.put o.dst (.pointer (some ⟨g,0,none⟩))) w2)(ho:o.op=.box ty x:=by rfl)(hw:Region.wanted o (yielded ops a.tmps)=true:=by rfl):WL r ops Q (o::rest) a w:=by subst hx;refine qb (v:=.pointer (some ⟨w.heap.size,0,none⟩)) (w2:=w.alloc (.cells (a.eval x).cells ty (0,0))) ?_ (h _ _ (jr.uS _ _ _)) (fun c hc=>by rw[ho]at hc;cases hc) hw;unfold execOp;simp only[ho,Sem.run_bind,Tp,Result.andThen_ok,Sem.run_pure]
theorem eK{z:Value}(hz:(Tryz.prog.info? ty).map (·.zero)=some (some z))(h:∀g w2,jr w w2 g z.cells ty→WL r ops Q rest (a.put o.dst (.pointer (some ⟨g,0,none⟩))) w2)(ho:o.op=.alloc ty:=by rfl)(hw:Region.wanted o (yielded ops a.tmps)=true:=by rfl):WL r ops Q (o::rest) a w:=by
 refine qb (v:=.pointer (some ⟨w.heap.size,0,none⟩)) (w2:=w.alloc (.cells z.cells ty (0,0))) ?_ (h _ _ (jr.uS _ _ _)) (fun c hc=>by rw[ho]at hc;cases hc) hw
 have hz':(zeroValue ty).run Tryz.prog w=.ok z w:=by
  cases hq:Tryz.prog.info? ty with
  |none=>simp[hq]at hz
  |some i=>simp only[hq,ay9,ay8]at hz;simp[zeroValue,typeInfo,hq,hz]
 unfold execOp;simp only[ho,Instr.alloc,Sem.run_bind,hz',Result.andThen_ok];rfl
def bt(cs:Array Value)(i:Nat)(vs:List Value):Array Value:=(cs.toList.take i++vs++cs.toList.drop (i+vs.length)).toArray
structure o1(w w2:World)(g:Nat)(cs:Array Value)(t:TypeId):Prop where
 fA:bH w2 g cs t
 turns:au (fun b=>b=g) w w2
 size:w2.heap.size=w.heap.size
theorem C4(hB:bH w g cs t)(hs:(Tryz.prog.info? ty).map (·.size)=some v.cells.size)(hi:i+v.cells.size≤cs.size)(h1:∀u∈v.cells.toList,u.oneCell'=true):(Instr.storeAt ty (.pointer (some ⟨g,i,none⟩)) v).run Tryz.prog w=.ok () (w.setRow g (bt cs i v.cells.toList)):=by
 have fB:=run_storeCells_at Tryz.prog g i t v.cells.toList 0 cs w hB (by simpa using hi) h1;simp only[azt,Addr.add_lit]at fB;unfold Instr.storeAt Instr.sureAddr storeVar;cases hq:Tryz.prog.info? ty with
 |none=>simp[hq]at hs
 |some z=>
  have hz:z.size=v.cells.size:=by simpa[hq]using hs
  simp only[Sem.run_bind,Sem.run_pure,Result.andThen_ok,sizeOf,typeInfo];simp[hq,hz];simpa[bt]using fB
theorem o1.yU(hB:bH w g cs t):o1 w (w.setRow g (bt cs i vs)) g (bt cs i vs) t:=⟨setRow_heap w g cs _ t _ hB,⟨rfl,rfl,rfl,by simp[World.setRow],fun k _ hk=>setRow_other w g k _ hk⟩,by simp[World.setRow]⟩
theorem aU{y:Operand}(hB:bH w g cs t)(hx:a.eval x=.pointer (some ⟨g,i,none⟩))(hy:a.eval y=v)(hs:(Tryz.prog.info? ty).map (·.size)=some v.cells.size)(hi:i+v.cells.size≤cs.size)(h1:∀u∈v.cells.toList,u.oneCell'=true)(h:∀w2,o1 w w2 g (bt cs i v.cells.toList) t→WL r ops Q rest (a.put o.dst undef) w2)(ho:o.op=.store ty x y:=by rfl)(hw:Region.wanted o (yielded ops a.tmps)=true:=by rfl):WL r ops Q (o::rest) a w:=by refine Ok (w2:=w.setRow g (bt cs i v.cells.toList)) ?_ (h _ (o1.yU hB)) (fun c hc=>by rw[ho]at hc;cases hc) hw;unfold execOp;simp only[ho,hx,hy,Sem.run_bind,C4 hB hs hi h1,Result.andThen_ok,Sem.run_pure]
end
def Hp(w:World)(L:List (Nat×Array Value×TypeId)):Prop:=(L.map (·.1)).Nodup∧∀x∈L,bH w x.1 x.2.1 x.2.2
theorem Hp.nil(w:World):Hp w []:=⟨aAp,fun _ h=>by cases h⟩
theorem Hp.at(h:Hp w L)(k:Nat)(he:L[k]?=some (g,cs,t):=by rfl):bH w g cs t:=h.2 _ (ayw he)
theorem Hp.below(h:Hp w L)(hb:Bw w w2):Hp w2 L:=⟨h.1,fun x hx=>(h.2 x hx).below hb⟩
theorem Hp.drew(h:Hp w L):Hp w.drew L:=h
theorem Hp.turns(h:Hp w L)(hb:au S w w2)(hS:∀x∈L,¬S x.1):Hp w2 L:=⟨h.1,fun x hx=>(h.2 x hx).turns hb (hS x hx)⟩
theorem Hp.new(h:Hp w L)(n:jr w w2 g cs t):Hp w2 ((g,cs,t)::L):=⟨ay3.2 ⟨fun hm=>by
 obtain⟨x,hx,e⟩:=ayM.1 hm;have:=(h.2 x hx).lt;have:=n.fresh;simp only at e;omega,h.1⟩,fun x hx=>by
 rcases ayE.1 hx with rfl|hx;·exact n.fA
 ·exact(h.2 x hx).below n.below⟩
theorem Hp.cons(h:Hp w L)(b:bH w g cs t)(hn:g∉L.map (·.1)):Hp w ((g,cs,t)::L):=⟨ay3.2 ⟨hn,h.1⟩,fun x hx=>by
 rcases ayE.1 hx with rfl|hx;·exact b
 ·exact h.2 x hx⟩
theorem Hp.tail{x:Nat×Array Value×TypeId}(h:Hp w (x::L)):Hp w L:=⟨(ay3.1 h.1).2,fun y hy=>h.2 y (ay6 _ hy)⟩
theorem Hp.put(h:Hp w L)(k:Nat)(p:o1 w w2 g cs' t)(he:L[k]?=some (g,cs,t):=by rfl):Hp w2 (L.set k (g,cs',t)):=by
 obtain⟨hk,hg⟩:=ays.1 he;refine⟨?_,fun x hx=>?_⟩
 ·have:(L.set k (g,cs',t)).map (·.1)=L.map (·.1):=by
   rw[List.map_set];refine azC fun i=>?_;rw[aze];split;·rename_i Oi;subst Oi;simp[hk,hg]
   ·rfl
  rw[this];exact h.1
 ·rcases ayX.1 hx with⟨i,hi⟩;rw[aze]at hi;split at hi;·rename_i Oi;subst Oi;simp only[hk,if_true,ay8]at hi;subst hi;exact p.fA
  ·rename_i Oi;refine(h.2 x (ayw hi)).turns p.turns fun e=>Oi ?_;obtain⟨p1,q1⟩:=ays.1 (show(L.map (·.1))[i]?=some x.1 by rw[ayL,hi];rfl);obtain⟨p2,q2⟩:=ays.1 (show(L.map (·.1))[k]?=some g by rw[ayL,he];rfl);have e':x.1=g:=e;have nd:=azv.1 h.1;rcases azJ i k with gD|heq|hgt;·exact absurd (q1.trans (e'.trans q2.symm)) (nd i k p1 p2 gD)
   ·exact heq.symm
   ·exact absurd (q2.trans (e'.symm.trans q1.symm)) (nd k i p2 p1 hgt)
theorem aex(hB:bH w g cs t)(hv:cs[i]?=some v)(hu:Tryz.prog.underlying ty=some d)(hd:(match d with|.struct _|.array _ _=>true|_=>false)=false):(loadVar ty ⟨g,i,none⟩).run Tryz.prog w=.ok v w:=by
 have hc:w.cell? ⟨g,i,none⟩=some v:=(hB.cell i).trans hv;have wh:(isAgg ty).run Tryz.prog w=.ok false w:=by unfold isAgg;rw[Sem.run_bind,run_underlying hu w];cases d<;>simp_all
 simp[Sem.run_bind,Result.andThen_ok,loadVar,wh,load,Sem.run,hc]
theorem aey{vs:Array Value}(hB:bH w g cs t)(hv:cs.extract i (i+n)=vs)(hn:i+n≤cs.size)(hu:Tryz.prog.underlying ty=some d)(jv:(Tryz.prog.info? ty).map (·.size)=some n)(hd:(match d with|.struct _|.array _ _=>true|_=>false)=true):(loadVar ty ⟨g,i,none⟩).run Tryz.prog w=.ok (.agg vs) w:=by
 subst hv
 have hl:(loadCells ⟨g,i,none⟩ (cs.extract i (i+n)).toList.length).run Tryz.prog w=.ok (cs.extract i (i+n)).toList.toArray w:=run_loadCells_list (P:=Tryz.prog) w ⟨g,i,none⟩ (cs.extract i (i+n)).toList (fun j v hv=>by
  have yV:(⟨g,i,none⟩:Addr).add j=⟨g,i+j,none⟩:=by unfold Addr.add;by_cases hj:j=0<;>simp[hj]
  rw[yV,hB.cell];have Tq:(cs.extract i (i+n))[j]?=some v:=by rw[ayt]at hv;exact hv
  rw[ayz]at Tq;split at Tq;·exact Tq
  ·cases Tq)
 have hlen:(cs.extract i (i+n)).size=n:=by simp;omega
 cases hq:Tryz.prog.info? ty with
 |none=>simp[hq]at jv
 |some z=>
  have hs:z.size=n:=by simpa[hq]using jv
  have wh:(isAgg ty).run Tryz.prog w=.ok true w:=by unfold isAgg;rw[Sem.run_bind,run_underlying hu w];cases d<;>simp_all
  simp only[ayy,hlen,azH]at hl;simp[loadVar,Sem.run_bind,wh,sizeOf,typeInfo,hq,hs,hl]
theorem ay(hB:bH w g cs t)(hv:cs[i]?=some v)(hu:Tryz.prog.underlying ty=some d)(hx:a.eval x=.pointer (some ⟨g,i,none⟩))(hd:(match d with|.struct _|.array _ _=>true|_=>false)=false:=by rfl)(ho:o.op=.load ty x:=by rfl):(execOp a.eval o).run Tryz.prog w=.ok (.value v) w:=by unfold execOp;simp only[ho,hx,Instr.loadAt,Instr.sureAddr,Sem.run_bind,Sem.run_pure,Result.andThen_ok,aex hB hv hu hd]
theorem aQ{vs:Array Value}(hB:bH w g cs t)(hv:cs.extract i (i+n)=vs)(hn:i+n≤cs.size)(hu:Tryz.prog.underlying ty=some d)(jv:(Tryz.prog.info? ty).map (·.size)=some n)(hx:a.eval x=.pointer (some ⟨g,i,none⟩))(hd:(match d with|.struct _|.array _ _=>true|_=>false)=true:=by rfl)(ho:o.op=.load ty x:=by rfl):(execOp a.eval o).run Tryz.prog w=.ok (.value (.agg vs)) w:=by unfold execOp;simp only[ho,hx,Instr.loadAt,Instr.sureAddr,Sem.run_bind,Sem.run_pure,Result.andThen_ok,aey hB hv hn hu jv hd]
theorem dJ{W:World}(hb:Bw W w)(h:CP f args w fun e w'=>e=.returned v∧Bw w w'):CP f args w fun e w'=>e=.returned v∧Bw W w':=h.mono fun _ _ ⟨he,k⟩=>⟨he,U hb k⟩
section
variable{w:World}{a:Act}{o:Oper}{x y z:Operand}{t t':TypeId}{v:Value}{m n:Int}{b:Bool}
theorem alj(hv:a.eval x=v)(ho:o.op=.move x:=by rfl):(execOp a.eval o).run Tryz.prog w=.ok (.value v) w:=by subst hv;unfold execOp;simp only[ho];rfl
theorem alk(hv:a.eval x=v)(ho:o.op=.assign x:=by rfl):(execOp a.eval o).run Tryz.prog w=.ok (.value v) w:=by subst hv;unfold execOp;simp only[ho];rfl
theorem alm(hc:a.eval x=.bool true)(hv:a.eval y=v)(ho:o.op=.pick x y z:=by rfl):(execOp a.eval o).run Tryz.prog w=.ok (.value v) w:=by subst hv;unfold execOp;simp only[ho,hc];rfl
theorem aln(hc:a.eval x=.bool false)(hv:a.eval z=v)(ho:o.op=.pick x y z:=by rfl):(execOp a.eval o).run Tryz.prog w=.ok (.value v) w:=by subst hv;unfold execOp;simp only[ho,hc];rfl
theorem gK{op:BinOp}(ho:o.op=.binOp op t x y t')(hx:a.eval x=.int k m)(hy:a.eval y=.int k n)(hg:(eqGuard op t x y (.int k m) (.int k n)).run Tryz.prog w=.ok () w){r:Value}(hr:(binOp op t (.int k m) (.int k n)).run Tryz.prog w=.ok r w):(execOp a.eval o).run Tryz.prog w=.ok (.value r) w:=by unfold execOp;simp only[ho,hx,hy,Sem.run_bind,hg,hr,Result.andThen_ok,Sem.run_pure]
theorem tH(hx:a.eval x=.int k m)(hy:a.eval y=.int k n)(h:decide (m<n)=b)(ho:o.op=.binOp .lss t x y t':=by rfl):(execOp a.eval o).run Tryz.prog w=.ok (.value (.bool b)) w:=gK ho hx hy rfl (by subst h;simp[binOp,Op.intCmp])
theorem On(hx:a.eval x=.int k m)(hy:a.eval y=.int k n)(h:decide (m≤n)=b)(ho:o.op=.binOp .leq t x y t':=by rfl):(execOp a.eval o).run Tryz.prog w=.ok (.value (.bool b)) w:=gK ho hx hy rfl (by subst h;simp[binOp,Op.intCmp])
theorem BD(hx:a.eval x=.int k m)(hy:a.eval y=.int k n)(h:decide (n<m)=b)(ho:o.op=.binOp .gtr t x y t':=by rfl):(execOp a.eval o).run Tryz.prog w=.ok (.value (.bool b)) w:=gK ho hx hy rfl (by subst h;simp[binOp,Op.intCmp])
theorem BE(hx:a.eval x=.int k m)(hy:a.eval y=.int k n)(h:decide (n≤m)=b)(ho:o.op=.binOp .geq t x y t':=by rfl):(execOp a.eval o).run Tryz.prog w=.ok (.value (.bool b)) w:=gK ho hx hy rfl (by subst h;simp[binOp,Op.intCmp])
theorem Xk{m':Bool}(hx:a.eval x=.bool m')(h:(!m')=b)(ho:o.op=.unOp .not t x:=by rfl):(execOp a.eval o).run Tryz.prog w=.ok (.value (.bool b)) w:=by subst h;unfold execOp;simp only[ho,hx];rfl
theorem aC(hx:a.eval x=.int .i64 m)(hy:a.eval y=.int .i64 n)(h:wrap64 (m+n)=s)(ho:o.op=.binOp .add t x y t':=by rfl):(execOp a.eval o).run Tryz.prog w=.ok (.value (.int .i64 s)) w:=gK ho hx hy rfl (by subst h;simp[binOp,Op.intArith,uM])
theorem fH(hx:a.eval x=.int .i64 m)(hy:a.eval y=.int .i64 n)(h:wrap64 (m-n)=s)(ho:o.op=.binOp .sub t x y t':=by rfl):(execOp a.eval o).run Tryz.prog w=.ok (.value (.int .i64 s)) w:=gK ho hx hy rfl (by subst h;simp[binOp,Op.intArith,uM])
theorem dZ(hx:a.eval x=.int .i64 m)(hy:a.eval y=.int .i64 n)(h:wrap64 (m*n)=s)(ho:o.op=.binOp .mul t x y t':=by rfl):(execOp a.eval o).run Tryz.prog w=.ok (.value (.int .i64 s)) w:=gK ho hx hy rfl (by subst h;simp[binOp,Op.intArith,uM])
theorem tI{vs:Array Value}(hx:a.eval x=.tuple vs)(hv:vs[i]?=some v)(ho:o.op=.extract x i:=by rfl):(execOp a.eval o).run Tryz.prog w=.ok (.value v) w:=by unfold execOp;simp only[ho,hx,Instr.extract,hv];rfl
theorem alo{p:Addr}(hx:a.eval x=.pointer (some p))(ho:o.op=.nilCheck x:=by rfl):(execOp a.eval o).run Tryz.prog w=.ok (.value (.pointer (some p))) w:=by unfold execOp;simp only[ho,hx];rfl
theorem aez{s:Option Addr}{l c:Nat}(hu:Tryz.prog.underlying T=some (.slice e))(hx:a.eval x=.slice s l c)(ho:o.op=.call {callee:=.builtin .len,args:=#[x],argTypes:=#[T]}:=by rfl):(execOp a.eval o).run Tryz.prog w=.ok (.value (.int .i64 l)) w:=by unfold execOp;simp[ho,hx,resolve,invoke,builtin,Builtin.len_,goInt,run_underlying hu]
theorem ER(hx:a.eval x=.int k m)(hy:a.eval y=.int k n)(h:decide (m=n)=b)(hu:Tryz.prog.underlying t=some (.int k'))(ho:o.op=.binOp .eql t x y t':=by rfl):(execOp a.eval o).run Tryz.prog w=.ok (.value (.bool b)) w:=gK ho hx hy rfl (by subst h;simp[binOp,Op.intCmp];rw[azS];simp)
theorem GV(hx:a.eval x=.int k m)(hy:a.eval y=.int k n)(h:decide (m=n)=b){b':Bool}(hb:(!b)=b')(hu:Tryz.prog.underlying t=some (.int k'))(ho:o.op=.binOp .neq t x y t':=by rfl):(execOp a.eval o).run Tryz.prog w=.ok (.value (.bool b')) w:=gK ho hx hy rfl (by subst hb;subst h;simp[binOp,Op.intCmp];rw[azS];simp)
theorem yW{t:TypeId}(hu:Tryz.prog.underlying t=some (.pointer e)):Tryz.prog.underlying t=some (.pointer (Tryz.prog.pointee t)):=by simp[Program.pointee,hu]
theorem I5(hu:Tryz.prog.underlying t=some (.pointer e))(hx:a.eval x=.pointer p)(hy:a.eval y=.pointer none)(h:p.isNone=b)(ho:o.op=.binOp .eql t x y t':=by rfl):(execOp a.eval o).run Tryz.prog w=.ok (.value (.bool b)) w:=by subst h;unfold execOp;simp only[ho,hx,hy];cases p<;>simp[eqGuard,run_eql_pointer_nil _ _ _ (yW hu),Sem.run_bind]
theorem I6(hu:Tryz.prog.underlying t=some (.pointer e))(hx:a.eval x=.pointer p)(hy:a.eval y=.pointer none)(h:p.isSome=b)(ho:o.op=.binOp .neq t x y t':=by rfl):(execOp a.eval o).run Tryz.prog w=.ok (.value (.bool b)) w:=by subst h;unfold execOp;simp only[ho,hx,hy];cases p<;>simp[eqGuard,run_neq_pointer_nil _ _ _ (yW hu),Sem.run_bind]
theorem alp{d:Nat}{s:TypeId}{k:Nat}{fs:Array Field}{fd:Field}(hu:Tryz.prog.underlying s=some (.struct fs))(hf:fs[k]?=some fd)(hs:((Tryz.prog.info? fd.type).map (·.size)).getD 0≠0)(hx:a.eval x=.pointer (some ⟨g,i,none⟩))(hd:i+fd.offset=d)(ho:o.op=.fieldAddr s x k:=by rfl):(execOp a.eval o).run Tryz.prog w=.ok (.value (.pointer (some ⟨g,d,none⟩))) w:=by
 subst hd;have yV:(⟨g,i,none⟩:Addr).add fd.offset=⟨g,i+fd.offset,none⟩:=by unfold Addr.add;by_cases hj:fd.offset=0<;>simp[hj]
 cases hq:Tryz.prog.info? fd.type with
 |none=>simp[hq]at hs
 |some z=>
  have hz:z.size≠0:=by simpa[hq]using hs
  unfold execOp;simp[ho,hx,Instr.fieldAt,Instr.sureAddr,run_underlying hu,hf,fieldPlace,sizeOf,typeInfo,hq,hz,yV,Sem.run_bind]
theorem cX{l c d:Nat}(hu:Tryz.prog.underlying T=some (.slice e))(hs:(Tryz.prog.info? e).map (·.size)=some sz)(hx:a.eval x=.slice (some ⟨g,off,none⟩) l c)(hy:a.eval y=.int .i64 j)(h0:0≤j)(h1:j<l)(hd:off+j.toNat*sz=d)(ho:o.op=.indexAddr T x y:=by rfl):(execOp a.eval o).run Tryz.prog w=.ok (.value (.pointer (some ⟨g,d,none⟩))) w:=by
 subst hd;have yV:(⟨g,off,none⟩:Addr).add (j.toNat*sz)=⟨g,off+j.toNat*sz,none⟩:=by unfold Addr.add;split<;>simp_all
 cases hq:Tryz.prog.info? e with
 |none=>simp[hq]at hs
 |some z=>
  have hz:z.size=sz:=by simpa[hq]using hs
  unfold execOp;simp[ho,hx,hy,Instr.indexAt,asIntOf,run_underlying hu,sizeOf,typeInfo,hq,hz,yV,Sem.run_bind,h0,h1]
theorem ed{n d:Nat}(hu:Tryz.prog.underlying T=some (.array n e))(hs:(Tryz.prog.info? e).map (·.size)=some sz)(hx:a.eval x=.pointer (some ⟨g,off,none⟩))(hy:a.eval y=.int .i64 j)(h0:0≤j)(h1:j<n)(hd:off+j.toNat*sz=d)(ho:o.op=.indexAddr T x y:=by rfl):(execOp a.eval o).run Tryz.prog w=.ok (.value (.pointer (some ⟨g,d,none⟩))) w:=by
 subst hd;have yV:(⟨g,off,none⟩:Addr).add (j.toNat*sz)=⟨g,off+j.toNat*sz,none⟩:=by unfold Addr.add;split<;>simp_all
 cases hq:Tryz.prog.info? e with
 |none=>simp[hq]at hs
 |some z=>
  have hz:z.size=sz:=by simpa[hq]using hs
  unfold execOp;simp[ho,hx,hy,Instr.indexAt,Instr.sureAddr,asIntOf,run_underlying hu,sizeOf,typeInfo,hq,hz,yV,Sem.run_bind,h0,h1]
end
theorem aN(h:Below n w w1)(p:o1 w1 w2 g cs t)(hg:n≤g):Below n w w2:=⟨p.turns.os.trans h.os,p.turns.tape.trans h.tape,p.turns.output.trans h.output,ayo h.size (ay4 p.size.symm),fun i hi=>by
 by_cases gD:i<w1.heap.size;·exact(p.turns.block i gD om).trans (h.block i hi)
 ·have:=h.block i hi;rw[ayN om]at this;rw[ayN (by have:=p.size;omega)];exact this⟩
theorem au.put(h:au S w w1)(p:o1 w1 w2 g cs t)(hg:S g∨w.heap.size≤g):au S w w2:=h.trans (p.turns.mono fun i _ e=>by subst e;exact hg)
theorem cy{j k:Nat}(hj:j=i+k)(hk:k<vs.length)(hi:i≤cs.size):(bt cs i vs)[j]?=vs[k]?:=by
 subst hj;unfold bt;have hl:(cs.toList.take i).length=i:=by simp;omega
 simp only[az9,azK];rw[ayO om,hl,show i+k-i=k by omega,ayV hk]
theorem aV{j:Nat}(hj:j<i∨i+vs.length≤j)(hi:i+vs.length≤cs.size):(bt cs i vs)[j]?=cs[j]?:=by
 unfold bt;have hl:(cs.toList.take i).length=i:=by simp;omega
 simp only[az9,azK];rcases hj with hj|hj;·rw[ayV om,azz hj,ayt]
 ·rw[ayO om,hl,ayO om,azi,ayt];congr 1;omega
theorem bp(hi:i+vs.length≤cs.size):(bt cs i vs).size=cs.size:=by unfold bt;simp;omega
theorem Y3{t s:Tmp}{Xl:Value}(hR:R (.returned (.tuple #[v,v',Xl])) w)(h:fn.results=#[.tmp t,.tmp u,.tmp s]:=by rfl)(hv:a.tmps.getD t undef=v:=by rfl)(hu:a.tmps.getD u undef=v':=by rfl)(hs:a.tmps.getD s undef=Xl:=by rfl)(hd:a.defers=[]:=by rfl):ud fn R .ret a w:=⟨hd,_,by rw[results_tmp3 h,hv,hu,hs],hR⟩
def rvS(tmps:Array Value):ResultVar→Sem Value
 |.tmp t=>pure (tmps.getD t undef)
 |.cell a t=>do loadVar t (←asAddr (tmps.getD a undef))
structure RV(a:Act)(w:World)(x:ResultVar)(v:Value):Prop where out:(rvS a.tmps x).run Tryz.prog w=.ok v w
theorem fL{t:Tmp}(h:a.tmps.getD t undef=v:=by rfl):RV a w (.tmp t) v:=⟨by subst h;rfl⟩
theorem el{s:Tmp}(hB:bH w g cs t)(hu:Tryz.prog.underlying ty=some d)(jv:(Tryz.prog.info? ty).map (·.size)=some cs.size)(hd:(match d with|.struct _|.array _ _=>true|_=>false)=true:=by rfl)(h:a.tmps.getD s undef=.pointer (some ⟨g,0,none⟩):=by rfl):RV a w (.cell s ty) (.agg cs):=⟨by have:=aey (i:=0) (vs:=cs) hB (by simp) om hu jv hd;unfold rvS;simp only[h,asAddr,Sem.run_bind,Sem.run_pure,Result.andThen_ok,this]⟩
theorem alq{s:Tmp}(hB:bH w g cs t)(hv:cs[0]?=some v)(hu:Tryz.prog.underlying ty=some d)(hd:(match d with|.struct _|.array _ _=>true|_=>false)=false:=by rfl)(h:a.tmps.getD s undef=.pointer (some ⟨g,0,none⟩):=by rfl):RV a w (.cell s ty) v:=⟨by have:=aex hB hv hu hd;unfold rvS;simp only[h,asAddr,Sem.run_bind,Sem.run_pure,Result.andThen_ok,this]⟩
theorem jw(fn:Func)(tmps:Array Value):results fn tmps=(do let vs ←fn.results.mapM (rvS tmps);pure (if h:vs.size=1 then vs[0]else .tuple vs)):=rfl
section
variable{fn:Func}{R:Ending→World→Prop}{a:Act}{w:World}{x y z u:ResultVar}{v v' Xl v3:Value}
theorem kh(h1:RV a w x v)(hR:R (.returned v) w)(h:fn.results=#[x]:=by rfl)(hd:a.defers=[]:=by rfl):ud fn R .ret a w:=⟨hd,v,by rw[jw,h];simp[Sem.run_bind,h1.out],hR⟩
theorem jV(h1:RV a w x v)(h2:RV a w y v')(hR:R (.returned (.tuple #[v,v'])) w)(h:fn.results=#[x,y]:=by rfl)(hd:a.defers=[]:=by rfl):ud fn R .ret a w:=⟨hd,_,by rw[jw,h];simp[Sem.run_bind,h1.out,h2.out],hR⟩
theorem alr(h1:RV a w x v)(h2:RV a w y v')(h3:RV a w z Xl)(h4:RV a w u v3)(hR:R (.returned (.tuple #[v,v',Xl,v3])) w)(h:fn.results=#[x,y,z,u]:=by rfl)(hd:a.defers=[]:=by rfl):ud fn R .ret a w:=⟨hd,_,by rw[jw,h];simp[Sem.run_bind,h1.out,h2.out,h3.out,h4.out],hR⟩
end
theorem yX{p:Nat→Prop}(h:∃m,p m):∃m,p m∧∀k,p k→m≤k:=by
 obtain⟨m,hm⟩:=h;induction m using Nat.strongRecOn with
 |_ m ih=>
  by_cases h:∃k,k<m∧p k;·obtain⟨k,hk,hp⟩:=h;exact ih k hk hp
  ·exact⟨m,hm,fun k hk=>Nat.le_of_not_lt fun gD=>h ⟨k,gD,hk⟩⟩
theorem cT{r:Option Nat}(I:Nat→Act→World→Prop)(m:Nat)(h0:I m a w)(h:∀m a w,I m a w→WC r c (Exit.then (fun a' w'=>∃m',m'<m∧I m' a' w') Q) a w):WC r (.loop c) Q a w:=by
 refine⟨wpIn_loop (fun a w=>∃m,I m a w) (fun a w=>open Classical in if h:∃m,I m a w then(yX h).choose else 0) ⟨m,h0⟩ fun a w hI=>?_⟩;have hm:=(yX hI).choose_spec;refine wpIn_mono (h _ a w hm.1).out fun e a' w' q=>?_;cases e with
 |normal=>obtain⟨m',gD,hI'⟩:=q;refine⟨⟨m',hI'⟩,?_⟩;rw[dif_pos (show ∃m,I m a' w' from⟨m',hI'⟩),dif_pos hI];exact Nat.lt_of_le_of_lt ((yX ⟨m',hI'⟩).choose_spec.2 m' hI') gD
 |_=>exact q
theorem als(h:Q (.exit id) a w):Exit.then K Q (.exit id) a w:=h
theorem alu{id':Nat}(fC:id'≠id)(h:Q (.exit id') a w):Exit.inBlock id Q (.exit id') a w:=by simp only[Exit.inBlock,fC,↓reduceIte];exact h
theorem cL(p:o1 w w2 g cs t)(h:cs=cs'):o1 w w2 g cs' t:=h▸p
theorem cz{vs:Array Value}(p:o1 w w2 g (bt cs 0 vs.toList) t)(h:vs.size=cs.size):o1 w w2 g vs t:=by
 have:bt cs 0 vs.toList=vs:=by unfold bt;simp[h,List.drop_of_length_le]
 rwa[this]at p
theorem aeA(h:Q .ret a w):Exit.then K Q .ret a w:=h
theorem C5(h:Q .ret a w):Exit.inBlock id Q .ret a w:=h
section
variable{w:World}{a:Act}{o:Oper}{x y:Operand}{m n:Int}
theorem qF(hx:a.eval x=.int k m)(hy:a.eval y=.int k' n)(ho:o.op=.call {callee:=.builtin .max,args:=#[x,y],argTypes:=ts}:=by rfl):(execOp a.eval o).run Tryz.prog w=.ok (.value (.int k (mx m n))) w:=by unfold execOp;simp[ho,hx,hy,resolve,invoke,builtin,C1,uL,mx,Sem.run_bind]
theorem xG(hx:a.eval x=.int k m)(hy:a.eval y=.int k' n)(ho:o.op=.call {callee:=.builtin .min,args:=#[x,y],argTypes:=ts}:=by rfl):(execOp a.eval o).run Tryz.prog w=.ok (.value (.int k (mn m n))) w:=by unfold execOp;simp[ho,hx,hy,resolve,invoke,builtin,C2,yS,mn,Sem.run_bind]
end
end
section
open Go.RowKit
variable{r:Option Nat}{c:Code}{Q:Exit→Act→World→Prop}{w:World}{e b:Bool}{f:FuncId}{args:Array Value}
def RN(r:Option Nat)(c:Code)(Q:Exit→Act→World→Prop):Nat→Act→World→Prop
 |0=>fun _ _=>False
 |m+1=>fun a w=>WC r c (Exit.then (RN r c Q m) Q) a w
theorem RN.rounds{r:Option Nat}{c:Code}{Q:Exit→Act→World→Prop}:∀{m:Nat} {a:Act} {w:World},RN r c Q m a w→Code.roundsIn (FW r) 0 Tryz.prog c Q m a w
 |0,_,_,h=>h.elim
 |m+1,a,w,h=>wpIn_mono (WC.out h) fun e a w q=>by cases e<;>first|exact RN.rounds q|exact q
theorem iR(m:Nat){a:Act}(h:RN r c Q m a w):WC r (.loop c) Q a w:=⟨wpIn_loop_rounds m h.rounds⟩
theorem ob{R:Result Next}(h:e=b)(p:R=.ok (.value (.bool e)) w):R=.ok (.value (.bool b)) w:=h▸p
theorem eW(h:e=b)(p:fq f args (.bool e)):fq f args (.bool b):=h▸p
theorem mu(h:e=b)(p:CP f args w fun x w'=>x=.returned (.bool e)∧Bw w w'):CP f args w fun x w'=>x=.returned (.bool b)∧Bw w w':=h▸p
section
variable{a:Act}{w:World}{o:Oper}{x y:Operand}{t t':TypeId}{m n:Int}
theorem ES(hx:a.eval x=.int .i64 m)(ho:o.op=.unOp .neg t x:=by rfl):(execOp a.eval o).run Tryz.prog w=.ok (.value (.int .i64 (wrap64 (-m)))) w:=by unfold execOp;simp[ho,hx,Op.unary,Op.intArith,uM,show(0:Int)-m=-m by omega]
theorem aeB{k:Nat}(hx:a.eval x=.int .i64 m)(hy:a.eval y=.int .i64 n)(hn:n=(k:Int))(hk:k≤64)(ho:o.op=.binOp .shl t x y t':=by rfl):(execOp a.eval o).run Tryz.prog w=.ok (.value (.int .i64 (wrap64 (m*2^k)))) w:=by subst hn;refine gK ho hx hy rfl ?_;have:min k IntKind.i64.bits=k:=azE hk;simp[binOp,Op.shift,uM,this]
end
end
section
open Go.RowKit
variable{α:Type}{s k off n g i id:Nat}{t ty:TypeId}{f:Nat→Act}{z v y v':Value}{u:Tmp}{a:Act}{o:Oper}{N:Option Tmp}{x:Operand}{l vs l':List Value}{w:World}{L L':List (Nat×Array Value×TypeId)}{cs cs' args:Array Value}{G G':Prop}{xs:Array Operand}{ts:Array TypeId}{R:Ending→World→Prop}{K:Act→World→Prop}{fn:Func}{c:Code}
def faT:List (Nat×Nat×Nat):=[(33,0,0),(33,1,1),(33,2,2),(33,3,3),(33,4,4),(33,5,5),(36,0,0),(36,1,1),(36,2,2),(36,3,3),(38,0,0),(38,1,1),(38,2,2),(38,3,3),(38,4,4),(38,5,5),(38,6,6),(38,7,7),(38,8,39),(38,9,45),(40,0,0),(40,1,49),(49,0,0),(56,0,0),(56,1,1),(56,2,2),(62,0,0),(62,1,1),(62,2,2),(62,3,34),(62,4,35),(62,5,36),(62,6,37),(62,7,38),(62,8,39),(62,9,40),(62,10,41),(62,11,42),(70,0,0),(70,1,1),(70,2,2),(83,0,0),(83,1,1),(83,2,2),(83,3,3),(83,4,4),(83,5,5),(85,0,0),(85,1,1),(100,0,0),(100,1,1),(100,2,4),(100,3,5),(103,0,0),(103,1,1),(109,0,0),(109,1,1),(109,2,2),(109,3,3),(109,4,35),(118,0,0),(118,1,1),(118,2,2),(118,3,3),(118,4,4),(121,0,0),(121,1,1),(121,2,2),(121,3,3),(121,4,4),(121,5,5),(121,6,6),(121,7,11),(121,8,16),(121,9,17),(125,0,0),(125,1,1),(142,0,0),(142,1,4),(147,0,0),(147,1,1),(160,0,0),(160,1,12),(160,2,13),(165,0,0),(165,1,2),(168,0,0),(170,0,0),(199,0,0),(199,1,1),(217,0,0),(217,1,1),(217,2,3),(217,3,4),(225,0,0),(225,1,1),(225,2,2),(232,0,0),(232,1,1),(232,2,2),(232,3,3),(232,4,4),(242,0,0),(247,0,0),(250,0,0),(281,0,0),(281,1,2),(321,0,0),(321,1,8),(324,0,0),(324,1,2),(333,0,0),(333,1,2),(396,0,0),(396,1,1),(411,0,0),(411,1,1),(411,2,2),(414,0,0),(414,1,1),(414,2,2),(417,0,0),(417,1,1),(417,2,2)]
def Y4:List Nat:=[3,4,5,9,24,26,34,42,57,64,68,74,76,78,80,97,101,106,122,123,131,144,145,157,158,166,189,215,240,245,248,262,267,298,305,391,398,402,408,409,412]
def ptT:List Nat:=[24,42,46,57,64,78,80,97,101,123,157,158,215]
def slT:List Nat:=[22,26,34,74,76,90,106,122,131,166,240,245,248,264,273,298,354,394,408,409]
def agT:List (Nat×Nat):=[(31,32),(33,6),(36,4),(38,49),(40,50),(56,3),(62,45),(70,3),(85,2),(109,36),(118,5),(121,18),(163,2),(165,47),(199,2),(268,8),(281,8),(310,16),(324,3),(333,3),(396,2),(417,3)]
def itT:List Nat:=[3,5,21,27,384,391,412]
def KH:List Nat:=[2,3,4,5,6,7,8,9,10,11,12,13,14,15,16,17,18,19,20,21,22,23,24,25,26,27,28,29,30,31,32,33,34,35,36,37,38,39,40,41,42,43,44,45,46,47,48,49,50,51,52,53,54,55,56,57,58,59,60,61,62,63,64,65,66,67,68,69,70,71,72,73,74,75,76,77,78,79,80,81,82,83,84,85,86,87,88,89,90,91,92,93,94,95,96,97,98,99,100,101,102,103,104,105,106,107,108,109,110,111,112,113,114,115,116,117,118,119,120,121,122,123,124,125,126,127,128,129,130,131,132,133,134,135,136,137,138,139,140,141,142,143,144,145,146,147,148,149,150,151,152,153,154,155,156,157,158,159,160,161,162,163,164,165,166,167,168,169,170,171,172,174,175,176,177,178,179,180,181,182,183,184,185,186,187,188,189,191,192,193,194,195,196,197,198,199,200,201,202,203,204,205,206,207,208,209,210,211,212,213,214,215,216,217,218,219,220,221,222,223,224,225,227,228,229,230,231,232,233,234,235,236,237,239,240,241,243,244,245,246,247,248,249,250,251,252,253,254,255,256,258,259,260,261,263,264,265,266,267,268,269,270,271,272,273,274,275,276,277,278,279,280,281,282,283,284,285,286,287,288,289,290,291,292,293,294,295,296,297,298,299,300,301,302,303,304,305,306,307,308,309,311,346]
def NP:List (Nat×Nat):=[(3,1),(4,1),(5,1),(9,1),(24,1),(26,1),(31,32),(33,6),(34,1),(36,4),(38,49),(40,50),(42,1),(56,3),(57,1),(62,45),(64,1),(68,1),(70,3),(74,1),(76,1),(78,1),(80,1),(85,2),(97,1),(101,1),(106,1),(109,36),(118,5),(121,18),(122,1),(123,1),(131,1),(142,5),(144,1),(145,1),(157,1),(158,1),(163,2),(165,47),(166,1),(189,1),(199,2),(215,1),(240,1),(245,1),(248,1),(262,1),(267,1),(268,8),(281,8),(298,1),(305,1),(310,16),(324,3),(333,3),(377,256),(391,1),(396,2),(398,1),(402,1),(408,1),(409,1),(412,1),(417,3)]
def zT:List (Nat×Value):=[(3,i6 0),(4,.bool false),(26,.slice none 0 0),(31,.agg #[.int .u8 0,.int .u8 0,.int .u8 0,.int .u8 0,.int .u8 0,.int .u8 0,.int .u8 0,.int .u8 0,.int .u8 0,.int .u8 0,.int .u8 0,.int .u8 0,.int .u8 0,.int .u8 0,.int .u8 0,.int .u8 0,.int .u8 0,.int .u8 0,.int .u8 0,.int .u8 0,.int .u8 0,.int .u8 0,.int .u8 0,.int .u8 0,.int .u8 0,.int .u8 0,.int .u8 0,.int .u8 0,.int .u8 0,.int .u8 0,.int .u8 0,.int .u8 0]),(33,.agg #[i6 0,.bool false,i6 0,i6 0,i6 0,i6 0]),(36,.agg #[i6 0,i6 0,i6 0,.slice none 0 0]),(38,.agg #[i6 0,i6 0,i6 0,i6 0,i6 0,i6 0,i6 0,.int .u8 0,.int .u8 0,.int .u8 0,.int .u8 0,.int .u8 0,.int .u8 0,.int .u8 0,.int .u8 0,.int .u8 0,.int .u8 0,.int .u8 0,.int .u8 0,.int .u8 0,.int .u8 0,.int .u8 0,.int .u8 0,.int .u8 0,.int .u8 0,.int .u8 0,.int .u8 0,.int .u8 0,.int .u8 0,.int .u8 0,.int .u8 0,.int .u8 0,.int .u8 0,.int .u8 0,.int .u8 0,.int .u8 0,.int .u8 0,.int .u8 0,.int .u8 0,i6 0,.bool false,i6 0,i6 0,i6 0,i6 0,i6 0,i6 0,i6 0,.slice none 0 0]),(56,.agg #[i6 0,i6 0,i6 0]),(62,.agg #[i6 0,i6 0,.int .u8 0,.int .u8 0,.int .u8 0,.int .u8 0,.int .u8 0,.int .u8 0,.int .u8 0,.int .u8 0,.int .u8 0,.int .u8 0,.int .u8 0,.int .u8 0,.int .u8 0,.int .u8 0,.int .u8 0,.int .u8 0,.int .u8 0,.int .u8 0,.int .u8 0,.int .u8 0,.int .u8 0,.int .u8 0,.int .u8 0,.int .u8 0,.int .u8 0,.int .u8 0,.int .u8 0,.int .u8 0,.int .u8 0,.int .u8 0,.int .u8 0,.int .u8 0,i6 0,i6 0,i6 0,.bool false,i6 0,i6 0,i6 0,i6 0,i6 0,i6 0,i6 0]),(70,.agg #[i6 0,i6 0,i6 0]),(74,.slice none 0 0),(85,.agg #[i6 0,i6 0]),(109,.agg #[i6 0,i6 0,i6 0,.int .u8 0,.int .u8 0,.int .u8 0,.int .u8 0,.int .u8 0,.int .u8 0,.int .u8 0,.int .u8 0,.int .u8 0,.int .u8 0,.int .u8 0,.int .u8 0,.int .u8 0,.int .u8 0,.int .u8 0,.int .u8 0,.int .u8 0,.int .u8 0,.int .u8 0,.int .u8 0,.int .u8 0,.int .u8 0,.int .u8 0,.int .u8 0,.int .u8 0,.int .u8 0,.int .u8 0,.int .u8 0,.int .u8 0,.int .u8 0,.int .u8 0,.int .u8 0,i6 0]),(118,.agg #[i6 0,i6 0,i6 0,i6 0,i6 0]),(121,.agg #[i6 0,i6 0,i6 0,i6 0,i6 0,i6 0,i6 0,i6 0,i6 0,i6 0,i6 0,i6 0,i6 0,i6 0,i6 0,i6 0,i6 0,i6 0]),(142,.agg #[i6 0,i6 0,i6 0,.slice none 0 0,i6 0]),(163,.agg #[i6 0,i6 0]),(165,.agg #[i6 0,i6 0,i6 0,i6 0,.int .u8 0,.int .u8 0,.int .u8 0,.int .u8 0,.int .u8 0,.int .u8 0,.int .u8 0,.int .u8 0,.int .u8 0,.int .u8 0,.int .u8 0,.int .u8 0,.int .u8 0,.int .u8 0,.int .u8 0,.int .u8 0,.int .u8 0,.int .u8 0,.int .u8 0,.int .u8 0,.int .u8 0,.int .u8 0,.int .u8 0,.int .u8 0,.int .u8 0,.int .u8 0,.int .u8 0,.int .u8 0,.int .u8 0,.int .u8 0,.int .u8 0,.int .u8 0,i6 0,i6 0,i6 0,.bool false,i6 0,i6 0,i6 0,i6 0,i6 0,i6 0,i6 0]),(189,.pointer none),(199,.agg #[i6 0,i6 0]),(268,.agg #[.int .u64 0,.int .u64 0,.int .u64 0,.int .u64 0,.int .u64 0,.int .u64 0,.int .u64 0,.int .u64 0]),(281,.agg #[i6 0,i6 0,i6 0,.bool false,i6 0,i6 0,i6 0,i6 0]),(310,.agg #[.int .u64 0,.int .u64 0,.int .u64 0,.int .u64 0,.int .u64 0,.int .u64 0,.int .u64 0,.int .u64 0,.int .u64 0,.int .u64 0,.int .u64 0,.int .u64 0,.int .u64 0,.int .u64 0,.int .u64 0,.int .u64 0]),(333,.agg #[i6 0,i6 0,i6 0]),(396,.agg #[i6 0,i6 0]),(402,.int .u64 0),(417,.agg #[.int .u32 0,.int .u32 0,.int .u32 0])]
def fnd(s k:Nat):List (Nat×Nat×Nat)→Option Nat
 |[]=>none
 |(a,b,c)::l=>bif a==s&&b==k then some c else fnd s k l
def xH{α:Type}(s:Nat):List (Nat×α)→Option α
 |[]=>none
 |(a,c)::l=>bif a==s then some c else xH s l
def ki(s:Nat):List Nat→Bool
 |[]=>false
 |a::l=>bif a==s then true else ki s l
noncomputable def faB(p:Nat×Nat×Nat):Bool:=match Tryz.prog.underlying p.1 with
 |some (.struct fs)=>(match fs[p.2.1]? with
  |some fd=>fd.offset==p.2.2&&!(((Tryz.prog.info? fd.type).map (·.size)).getD 0==0)
  |none=>false)
 |_=>false
noncomputable def scB(t:Nat):Bool:=match Tryz.prog.underlying t with
 |some (.struct _)=>false
 |some (.array _ _)=>false
 |some _=>true
 |none=>false
noncomputable def ptB(t:Nat):Bool:=match Tryz.prog.underlying t with
 |some (.pointer _)=>true
 |_=>false
noncomputable def slB(t:Nat):Bool:=match Tryz.prog.underlying t with
 |some (.slice _)=>true
 |_=>false
noncomputable def szB(p:Nat×Nat):Bool:=match(Tryz.prog.info? p.1).map (·.size)with
 |some n=>n==p.2
 |none=>false
noncomputable def agB(p:Nat×Nat):Bool:=match Tryz.prog.underlying p.1 with
 |some (.struct _)=>szB p
 |some (.array _ _)=>szB p
 |_=>false
noncomputable def itB(t:Nat):Bool:=match Tryz.prog.underlying t with
 |some (.int _)=>true
 |_=>false
noncomputable def fnB(f:Nat):Bool:=match Tryz.prog.funcs[f]? with
 |some fn=>fn.body.isSome&&!(fn.name== "runtime.NumGoroutine")
 |none=>false
theorem I7{s k off:Nat}:∀{l},fnd s k l=some off→(s,k,off)∈l
 |[],h=>by cases h
 |(a,b,c)::l,h=>by
  unfold fnd at h;cases q:a==s&&b==k with
  |true=>rw[q]at h;simp only[cond_true,ay8]at h;simp only[ayF,beq_iff_eq]at q;rw[←q.1,←q.2,←h];exact azs
  |false=>rw[q]at h;exact ay6 _ (I7 h)
theorem yF{α:Type}{s:Nat}{x:α}:∀{l},xH s l=some x→(s,x)∈l
 |[],h=>by cases h
 |(a,c)::l,h=>by
  unfold xH at h;cases q:a==s with
  |true=>rw[q]at h;simp only[cond_true,ay8]at h;simp only[beq_iff_eq]at q;rw[←q,←h];exact azs
  |false=>rw[q]at h;exact ay6 _ (yF h)
theorem o9{s:Nat}:∀{l},ki s l=true→s∈l
 |[],h=>by cases h
 |a::l,h=>by
  unfold ki at h;cases q:a==s with
  |true=>simp only[beq_iff_eq]at q;rw[q];exact azs
  |false=>rw[q]at h;exact ay6 _ (o9 h)
theorem Y5:faT.all faB=true:=by kernel_rfl
theorem Y6:Y4.all scB=true:=by kernel_rfl
theorem Y7:ptT.all ptB=true:=by kernel_rfl
theorem Y8:slT.all slB=true:=by kernel_rfl
theorem Y9:agT.all agB=true:=by kernel_rfl
theorem Za:itT.all itB=true:=by kernel_rfl
theorem Zb:KH.all fnB=true:=by kernel_rfl
theorem Zc:NP.all szB=true:=by kernel_rfl
theorem aeD:zT.map (fun p=>(Tryz.prog.info? p.1).map (·.zero))=zT.map (fun p=>some (some p.2)):=by kernel_rfl
theorem aeE(h:fnd s k faT=some off):∃fs fd,Tryz.prog.underlying s=some (.struct fs)∧fs[k]?=some fd∧((Tryz.prog.info? fd.type).map (·.size)).getD 0≠0∧fd.offset=off:=by
 have h2:=ayS.1 Y5 _ (I7 h);unfold faB at h2;split at h2
 ·split at h2;·simp only[ayF,beq_iff_eq,Bool.not_eq_eq_eq_not,Bool.not_true]at h2;exact⟨_,_,by assumption,by assumption,by simpa using h2.2,h2.1⟩
  ·cases h2
 ·cases h2
theorem aeF{t:Nat}(h:ki t Y4=true):∃d,Tryz.prog.underlying t=some d∧(match d with|.struct _|.array _ _=>true|_=>false)=false:=by
 have h2:=ayS.1 Y6 _ (o9 h);unfold scB at h2;split at h2;·cases h2
 ·cases h2
 ·rename_i d h3 h4 h5;refine⟨d,h5,?_⟩;split;·exact(h3 _ rfl).elim
  ·exact(h4 _ _ rfl).elim
  ·rfl
 ·cases h2
theorem I8{t:Nat}(h:ki t ptT=true):∃e,Tryz.prog.underlying t=some (.pointer e):=by
 have h2:=ayS.1 Y7 _ (o9 h);unfold ptB at h2;split at h2;·exact⟨_,by assumption⟩
 ·cases h2
theorem aeG{t:Nat}(h:ki t slT=true):∃e,Tryz.prog.underlying t=some (.slice e):=by
 have h2:=ayS.1 Y8 _ (o9 h);unfold slB at h2;split at h2;·exact⟨_,by assumption⟩
 ·cases h2
theorem I9{t:Nat}(h:ki t itT=true):∃k,Tryz.prog.underlying t=some (.int k):=by
 have h2:=ayS.1 Za _ (o9 h);unfold itB at h2;split at h2;·exact⟨_,by assumption⟩
 ·cases h2
theorem Ja{f:Nat}(h:ki f KH=true):∃fn,Tryz.prog.funcs[f]?=some fn∧(fn.name== "runtime.NumGoroutine")=false∧fn.body.isSome=true:=by
 have h2:=ayS.1 Zb _ (o9 h);unfold fnB at h2;split at h2;·simp only[ayF,Bool.not_eq_eq_eq_not,Bool.not_true]at h2;exact⟨_,by assumption,h2.2,h2.1⟩
 ·cases h2
theorem Xm{t:Nat}(h:xH t NP=some n):(Tryz.prog.info? t).map (·.size)=some n:=by
 have h2:=ayS.1 Zc _ (yF h);unfold szB at h2;split at h2;·rename_i m h3;simp only[beq_iff_eq]at h2;rw[←h2];exact h3
 ·cases h2
theorem aeH{t:Nat}(h:xH t agT=some n):∃d,Tryz.prog.underlying t=some d∧(match d with|.struct _|.array _ _=>true|_=>false)=true∧(Tryz.prog.info? t).map (·.size)=some n:=by
 have h2:=ayS.1 Y9 _ (yF h)
 have key:szB (t,n)=true→(Tryz.prog.info? t).map (·.size)=some n:=by
  intro q;unfold szB at q;split at q;·rename_i m h3;simp only[beq_iff_eq]at q;rw[←q];exact h3
  ·cases q
 unfold agB at h2;split at h2;·exact⟨_,by assumption,rfl,key h2⟩
 ·exact⟨_,by assumption,rfl,key h2⟩
 ·cases h2
theorem aly{t:Nat}(h:xH t zT=some z):(Tryz.prog.info? t).map (·.zero)=some (some z):=by have:=List.map_inj_left.1 aeD (t,z) (yF h);exact this
def s4:List Value→Nat→Option Value
 |[],_=>none
 |x::_,0=>some x
 |_::l,n+1=>s4 l n
theorem yG:∀(l:List Value) (n:Nat),s4 l n=l[n]?
 |[],_=>rfl
 |_::_,0=>rfl
 |_::l,n+1=>by show s4 l n=_;rw[yG l n];rfl
def nb:Value→Option Value
 |.bool true=>some (.bool true)
 |.bool false=>some (.bool false)
 |v=>some v
theorem Xn{u:Value}(h:nb v=some u):v=u:=by unfold nb at h;split at h<;>cases h<;>rfl
def Xo(ev:Operand→Value):Op→Option Value
 |.move x=>some (ev x)
 |.assign x=>some (ev x)
 |.pick c x y=>match ev c with|.bool true=>some (ev x)|.bool false=>some (ev y)|_=>none
 |.extract x i=>match ev x with|.tuple vs=>(s4 vs.toList i).bind nb|_=>none
 |.unOp .not _ x=>match ev x with|.bool true=>some (.bool false)|.bool false=>some (.bool true)|_=>none
 |.nilCheck x=>match ev x with|.pointer (some p)=>some (.pointer (some p))|_=>none
 |.fieldAddr s x k=>match ev x with
  |.pointer (some ⟨g,i,none⟩)=>(match fnd s k faT with|some off=>some (.pointer (some ⟨g,i+off,none⟩))|none=>none)
  |_=>none
 |.binOp .eql t x y _=>match ki t ptT,ev x,ev y with
  |true,.pointer none,.pointer none=>some (.bool true)
  |true,.pointer (some _),.pointer none=>some (.bool false)
  |_,_,_=>none
 |.binOp .neq t x y _=>match ki t ptT,ev x,ev y with
  |true,.pointer none,.pointer none=>some (.bool false)
  |true,.pointer (some _),.pointer none=>some (.bool true)
  |_,_,_=>none
 |.call c=>match c.callee,c.args.toList,c.argTypes.toList with
  |.builtin .len,[x],[t]=>(match ki t slT,ev x with
   |true,.slice _ l _=>some (.int .i64 (l:Int))
   |_,_=>none)
  |_,_,_=>none
 |_=>none
def XR(a:Act)(o:Oper)(v:Value):Prop:=∀w,(execOp a.eval o).run Tryz.prog w=.ok (.value v) w
theorem alz(h:Xo a.eval o.op=some v):XR a o v:=by
 intro w;unfold Xo at h;split at h;·cases h;exact alj rfl (by assumption)
 ·cases h;exact alk rfl (by assumption)
 ·split at h;·cases h;exact alm (by assumption) rfl (by assumption)
  ·cases h;exact aln (by assumption) rfl (by assumption)
  ·cases h
 ·split at h;·rename_i vs hv;obtain⟨u,h1,h2⟩:=aza.1 h;cases Xn h2;exact tI hv (by rw[yG]at h1;rw[←h1];exact(ayt ..).symm) (by assumption)
  ·cases h
 ·split at h;·cases h;exact Xk (by assumption) rfl (by assumption)
  ·cases h;exact Xk (by assumption) rfl (by assumption)
  ·cases h
 ·split at h;·cases h;exact alo (by assumption) (by assumption)
  ·cases h
 ·split at h
  ·split at h;·cases h;rename_i hf;obtain⟨fs,fd,h1,h2,h3,rfl⟩:=aeE hf;exact alp h1 h2 h3 (by assumption) rfl (by assumption)
   ·cases h
  ·cases h
 ·split at h;·cases h;rename_i h1 h2 h3;obtain⟨e,he⟩:=I8 h1;exact I5 he h2 h3 rfl (by assumption)
  ·cases h;rename_i h1 h2 h3;obtain⟨e,he⟩:=I8 h1;exact I5 he h2 h3 rfl (by assumption)
  ·cases h
 ·split at h;·cases h;rename_i h1 h2 h3;obtain⟨e,he⟩:=I8 h1;exact I6 he h2 h3 rfl (by assumption)
  ·cases h;rename_i h1 h2 h3;obtain⟨e,he⟩:=I8 h1;exact I6 he h2 h3 rfl (by assumption)
  ·cases h
 ·split at h
  ·split at h;·cases h;rename_i c ho cb xs ts x t hc hx ht b v p l cp h1 h2;obtain⟨e,he⟩:=aeG h1;refine aez he h2 ?_;rw[ho];obtain⟨c1,c2,c3⟩:=c;simp only at hc hx ht;cases hc;cases c2;cases c3;simp only at hx ht;subst hx;subst ht;rfl
   ·cases h
  ·cases h
 ·cases h
section
variable{a:Act}{o:Oper}{x y:Operand}{t t':TypeId}{m n:Int}{k:IntKind}
theorem aeI(ho:o.op=.binOp .lss t x y t')(hx:a.eval x=.int k m)(hy:a.eval y=.int k n)(h:m<n):XR a o (.bool true):=fun _=>tH hx hy (decide_eq_true h) ho
theorem aeJ(ho:o.op=.binOp .lss t x y t')(hx:a.eval x=.int k m)(hy:a.eval y=.int k n)(h:¬m<n):XR a o (.bool false):=fun _=>tH hx hy (decide_eq_false h) ho
theorem aeK(ho:o.op=.binOp .leq t x y t')(hx:a.eval x=.int k m)(hy:a.eval y=.int k n)(h:m≤n):XR a o (.bool true):=fun _=>On hx hy (decide_eq_true h) ho
theorem aeL(ho:o.op=.binOp .leq t x y t')(hx:a.eval x=.int k m)(hy:a.eval y=.int k n)(h:¬m≤n):XR a o (.bool false):=fun _=>On hx hy (decide_eq_false h) ho
theorem aeM(ho:o.op=.binOp .gtr t x y t')(hx:a.eval x=.int k m)(hy:a.eval y=.int k n)(h:n<m):XR a o (.bool true):=fun _=>BD hx hy (decide_eq_true h) ho
theorem aeN(ho:o.op=.binOp .gtr t x y t')(hx:a.eval x=.int k m)(hy:a.eval y=.int k n)(h:¬n<m):XR a o (.bool false):=fun _=>BD hx hy (decide_eq_false h) ho
theorem aeO(ho:o.op=.binOp .geq t x y t')(hx:a.eval x=.int k m)(hy:a.eval y=.int k n)(h:n≤m):XR a o (.bool true):=fun _=>BE hx hy (decide_eq_true h) ho
theorem aeP(ho:o.op=.binOp .geq t x y t')(hx:a.eval x=.int k m)(hy:a.eval y=.int k n)(h:¬n≤m):XR a o (.bool false):=fun _=>BE hx hy (decide_eq_false h) ho
theorem aeQ(ho:o.op=.binOp .eql t x y t')(hx:a.eval x=.int k m)(hy:a.eval y=.int k n)(h:m=n)(hu:ki t itT=true):XR a o (.bool true):=by obtain⟨_,hu⟩:=I9 hu;exact fun _=>ER hx hy (decide_eq_true h) hu ho
theorem aeR(ho:o.op=.binOp .eql t x y t')(hx:a.eval x=.int k m)(hy:a.eval y=.int k n)(h:¬m=n)(hu:ki t itT=true):XR a o (.bool false):=by obtain⟨_,hu⟩:=I9 hu;exact fun _=>ER hx hy (decide_eq_false h) hu ho
theorem aeS(ho:o.op=.binOp .neq t x y t')(hx:a.eval x=.int k m)(hy:a.eval y=.int k n)(h:¬m=n)(hu:ki t itT=true):XR a o (.bool true):=by obtain⟨_,hu⟩:=I9 hu;exact fun _=>GV hx hy (decide_eq_false h) rfl hu ho
theorem aeT(ho:o.op=.binOp .neq t x y t')(hx:a.eval x=.int k m)(hy:a.eval y=.int k n)(h:m=n)(hu:ki t itT=true):XR a o (.bool false):=by obtain⟨_,hu⟩:=I9 hu;exact fun _=>GV hx hy (decide_eq_true h) rfl hu ho
end
def isB:Op→Bool
 |.binOp _ _ _ _ _=>true
 |_=>false
theorem alA(hb:isB o.op=true)(h:XR a o v):XR a o v:=h
theorem XRA(h:XR a o v:=by first
 |exact alz (by rfl)
 |exact alA (by rfl) (by first
  |exact aeI rfl rfl rfl (by first|with_reducible assumption|decide)
  |exact aeJ rfl rfl rfl (by first|with_reducible assumption|decide)
  |exact aeK rfl rfl rfl (by first|with_reducible assumption|decide)
  |exact aeL rfl rfl rfl (by first|with_reducible assumption|decide)
  |exact aeM rfl rfl rfl (by first|with_reducible assumption|decide)
  |exact aeN rfl rfl rfl (by first|with_reducible assumption|decide)
  |exact aeO rfl rfl rfl (by first|with_reducible assumption|decide)
  |exact aeP rfl rfl rfl (by first|with_reducible assumption|decide)
  |exact aeQ rfl rfl rfl (by first|with_reducible assumption|decide) (by rfl)
  |exact aeR rfl rfl rfl (by first|with_reducible assumption|decide) (by rfl)
  |exact aeS rfl rfl rfl (by first|with_reducible assumption|decide) (by rfl)
  |exact aeT rfl rfl rfl (by first|with_reducible assumption|decide) (by rfl))):XR a o v:=h
theorem alC(l:List Value)(d:List Deferred)(i:Nat):(⟨l.toArray,d⟩:Act).eval (.tmp i)=l.getD i undef:=by simp[Act.eval,azT,List.getD]
theorem alD(a:Act)(v:Value):a.eval (.const v)=v:=rfl
theorem alE(a:Act)(g:Nat):a.eval (.global g)=.pointer (some ⟨g,0,none⟩):=rfl
theorem alF(a:Act)(f:FuncId):a.eval (.func f)=.func (.func f) #[] #[]:=rfl
theorem PT{a':Act}(h:a.put N v=a':=by(simp only[Act.put,ayI,ayU,ayT,alC,alD,alE,alF,List.getD_cons_zero,List.getD_cons_succ,ayR,azt,Int.cast_ofNat_Int];rfl)):a.put N v=a':=h
theorem KI{a':Nat→Act}{v:Nat→Value}(h:∀g,a.put N (v g)=a' g:=by(intro g;simp only[Act.put,ayI,ayU,ayT];rfl)):∀g,a.put N (v g)=a' g:=h
def uT(a:Act):Operand→Option Value
 |.tmp i=>s4 a.tmps.toList i
 |.const v=>some v
 |.global g=>some (.pointer (some ⟨g,0,none⟩))
 |.func f=>some (.func (.func f) #[] #[])
theorem my(h:uT a x=some v):a.eval x=v:=by
 cases x with
 |tmp i=>simp only[uT,yG]at h;simp only[Act.eval,azT,←ayt,h,aAv]
 |const u=>cases h;rfl
 |global g=>cases h;rfl
 |func f=>cases h;rfl
def pa:Value→Option (List Value)
 |.agg ⟨l⟩=>some l
 |v=>some [v]
theorem C6(h:pa v=some l):v.cells=l.toArray:=by
 unfold pa at h;split at h;·cases h;rfl
 ·cases h;rename_i hn;unfold Value.cells;split;·exact(hn _ rfl).elim
  ·rfl
theorem Hp.nf(h:Hp w L)(e:L=L':=by(simp only[ayU,ayT,azh,azj];rfl)):Hp w L':=e▸h
def Kn(L:List (Nat×Array Value×TypeId))(g:Nat)(cs:Array Value)(t:TypeId):Prop:=(g,cs,t)∈L
theorem alG:Kn ((g,cs,t)::L) g cs t:=azs
theorem alH{x:Nat×Array Value×TypeId}(h:Kn L g cs t):Kn (x::L) g cs t:=ay6 _ h
theorem KN(h:Kn L g (y::l).toArray t:=by(repeat (first|with_reducible exact alG|apply alH))):Kn L g (y::l).toArray t:=h
theorem Hp.kn(hp:Hp w L)(h:Kn L g cs t):bH w g cs t:=hp.2 _ h
theorem Jb(hB:bH w g l.toArray t)(ho:o.op=.load ty x)(hx:a.eval x=.pointer (some ⟨g,i,none⟩))(hv:(s4 l i).bind nb=some v)(hu:ki ty Y4=true):(execOp a.eval o).run Tryz.prog w=.ok (.value v) w:=by obtain⟨d,h1,h2⟩:=aeF hu;obtain⟨u,h3,h4⟩:=aza.1 hv;cases Xn h4;exact ay hB (by rw[yG]at h3;simpa using h3) h1 hx (by cases d<;>first|rfl|exact h2) ho
def NQ:List Value→Nat→Nat→List Value
 |_,_,0=>[]
 |x::l,0,n+1=>x::NQ l 0 n
 |_::l,i+1,n+1=>NQ l i (n+1)
 |[],_,_=>[]
theorem Tr(l:List Value)(i:Nat):NQ l i 0=[]:=by cases l<;>cases i<;>rfl
theorem Ts(x:Value)(l:List Value)(n:Nat):NQ (x::l) 0 (n+1)=x::NQ l 0 n:=rfl
theorem Tt(x:Value)(l:List Value)(i n:Nat):NQ (x::l) (i+1) (n+1)=NQ l i (n+1):=rfl
theorem GW:∀(l:List Value) (i n:Nat),i+n≤l.length→(l.drop i).take n=NQ l i n
 |l,i,0,h=>by simp[Tr]
 |[],i,n+1,h=>by simp at h
 |x::l,0,n+1,h=>by have:=GW l 0 n (by simp at h ⊢;omega);simp only[az8,Ts,List.take_succ_cons]at this ⊢;rw[this]
 |x::l,i+1,n+1,h=>by have:=GW l i (n+1) (by simp at h ⊢;omega);simp only[Tt,azu]at this ⊢;exact this
theorem Oo(hB:bH w g l.toArray t)(ho:o.op=.load ty x)(hx:a.eval x=.pointer (some ⟨g,i,none⟩))(hu:xH ty agT=some n)(hn:Nat.ble (i+n) l.length=true)(hv:NQ l i n=vs):(execOp a.eval o).run Tryz.prog w=.ok (.value (.agg vs.toArray)) w:=by obtain⟨d,h1,h2,h3⟩:=aeH hu;have hn:=ayr hn;refine aQ (n:=n) hB ?_ (by simpa using hn) h1 h3 hx (by cases d<;>first|rfl|exact h2) ho;rw[←hv,←GW l i n hn];apply Array.toList_inj.1;simp[List.extract_eq_take_drop,Nat.add_sub_cancel_left]
def SA(L:List (Nat×Array Value×TypeId))(g:Nat)(cs:Array Value)(t:TypeId)(cs':Array Value)(L':List (Nat×Array Value×TypeId)):Prop:=∃k,L[k]?=some (g,cs,t)∧L.set k (g,cs',t)=L'
theorem alI:SA ((g,cs,t)::L) g cs t cs' ((g,cs',t)::L):=⟨0,rfl,rfl⟩
theorem alJ{x:Nat×Array Value×TypeId}(h:SA L g cs t cs' L'):SA (x::L) g cs t cs' (x::L'):=
 let⟨k,h1,h2⟩:=h;⟨k+1,h1,by rw[ayT,h2]⟩
theorem Tu(h:SA L g cs t cs' L':=by(repeat (first|with_reducible exact alI|apply alJ))):SA L g cs t cs' L':=h
def Jc:List Value→Nat→List Value→List Value
 |l,_,[]=>l
 |x::l,0,v::vs=>v::Jc l 0 vs
 |x::l,n+1,v::vs=>x::Jc l n (v::vs)
 |[],_,_=>[]
theorem GX(l:List Value)(n:Nat):Jc l n []=l:=by cases l<;>cases n<;>rfl
theorem GY(x:Value)(l:List Value)(v:Value)(vs:List Value):Jc (x::l) 0 (v::vs)=v::Jc l 0 vs:=rfl
theorem GZ(x:Value)(l:List Value)(n:Nat)(v:Value)(vs:List Value):Jc (x::l) (n+1) (v::vs)=x::Jc l n (v::vs):=rfl
theorem G5:∀(l:List Value) (i:Nat) (vs:List Value),i+vs.length≤l.length→bt l.toArray i vs=(Jc l i vs).toArray
 |l,i,[],h=>by unfold bt;simp[GX]
 |[],i,v::vs,h=>by simp at h
 |x::l,0,v::vs,h=>by have:=G5 l 0 vs (by simp at h ⊢;omega);simp only[bt,List.take_zero,azj,ayR,ayJ,azu,GY]at this ⊢;rw[←List.toArray_inj this];rfl
 |x::l,n+1,v::vs,h=>by have:=G5 l n (v::vs) (by simp at h ⊢;omega);simp only[bt,GZ,List.take_succ_cons,azh,ayJ]at this ⊢;rw[←List.toArray_inj this];rw[show n+1+(vs.length+1)=(n+(vs.length+1))+1 by omega,azu]
section
variable{r:Option Nat}{ops:Array Oper}{Q:Exit→Act→World→Prop}{a a':Act}{w w0:World}{rest:List Oper}{o:Oper}{v:Value}{N:Option Tmp}{L L':List (Nat×Array Value×TypeId)}{n0:Nat}
theorem lx(h:WL r ops Q rest a' w)(hx:XR a o v:=by exact XRA)(hd:∀c,o.op≠.defer c:=by(intro c hc;cases hc))(hN:o.dst=N:=by rfl)(hw:Region.wanted o (yielded ops a.tmps)=true:=by rfl)(ha:a.put N v=a':=by exact PT):WL r ops Q (o::rest) a w:=Oj (hx w) h hd hN hw ha
theorem ll(h:WL r ops Q rest a' w)(ho:o.op=.load ty x:=by rfl)(hp:Hp w L:=by exact hp)(hx:a.eval x=.pointer (some ⟨g,i,none⟩):=by rfl)(hk:Kn L g (y::l).toArray t:=by exact KN)(hv:(s4 (y::l) i).bind nb=some v:=by rfl)(hu:ki ty Y4=true:=by rfl)(hN:o.dst=N:=by rfl)(hw:Region.wanted o (yielded ops a.tmps)=true:=by rfl)(ha:a.put N v=a':=by exact PT):WL r ops Q (o::rest) a w:=Oj (Jb (hp.kn hk) ho hx hv hu) h (fun c hc=>by rw[ho]at hc;cases hc) hN hw ha
theorem la(h:WL r ops Q rest a' w)(ho:o.op=.load ty x:=by rfl)(hu:xH ty agT=some n:=by rfl)(hp:Hp w L:=by exact hp)(hx:a.eval x=.pointer (some ⟨g,i,none⟩):=by rfl)(hk:Kn L g (y::l).toArray t:=by exact KN)(hn:Nat.ble (i+n) (y::l).length=true:=by rfl)(hv:NQ (y::l) i n=vs:=by(simp only[Tr,Ts,Tt];rfl))(hN:o.dst=N:=by rfl)(hw:Region.wanted o (yielded ops a.tmps)=true:=by rfl)(ha:a.put N (.agg vs.toArray)=a':=by exact PT):WL r ops Q (o::rest) a w:=Oj (Oo (hp.kn hk) ho hx hu hn hv) h (fun c hc=>by rw[ho]at hc;cases hc) hN hw ha
theorem lk(h:WL r ops Q rest a' w)(hN:o.dst=N:=by rfl)(hw:Region.wanted o (yielded ops a.tmps)=false:=by rfl)(ha:a.put N undef=a':=by exact PT):WL r ops Q (o::rest) a w:=alh h hN hw ha
theorem ls(v:Value)(hr:(execOp a.eval o).run Tryz.prog w=.ok (.value v) w)(h:WL r ops Q rest a' w)(hd:∀c,o.op≠.defer c:=by(intro c hc;cases hc))(hN:o.dst=N:=by rfl)(hw:Region.wanted o (yielded ops a.tmps)=true:=by rfl)(ha:a.put N v=a':=by exact PT):WL r ops Q (o::rest) a w:=Oj hr h hd hN hw ha
structure Hd(P:Prop):Prop where out:P
theorem wlI{l:List Oper}(h:WL r ops Q l a w):WL r ops Q l a w:=h
theorem GO(i:Hd G'→G:=by(intro hz;(repeat (first
 |((with_reducible apply wlI);first|refine EP ?_|refine ll ?_|refine lk ?_|refine lx ?_|refine la ?_)
 |refine aeu ?_|refine aev ?_|refine YZ ?_|refine c_t rfl ?_|refine c_f rfl ?_|refine Tm ?_|refine uR ?_|refine Y0 ?_
 |with_reducible refine aeA ?_|with_reducible refine C5 ?_|with_reducible refine als ?_|with_reducible refine Tn ?_|with_reducible refine alu dd ?_));exact hz.out)):Hd G'→G:=i
theorem go(h:G')(i:Hd G'→G:=by exact GO):G:=i ⟨h⟩
theorem bx(h:∀g w2,jr w w2 g l.toArray ty→Hp w2 ((g,l.toArray,ty)::L)→WL r ops Q rest (f g) w2)(ho:o.op=.box ty x:=by rfl)(hx:uT a x=some v:=by rfl)(hc:pa v=some l:=by rfl)(hp:Hp w L:=by exact hp)(hw:Region.wanted o (yielded ops a.tmps)=true:=by rfl)(ha:∀g,a.put o.dst (.pointer (some ⟨g,0,none⟩))=f g:=by exact KI):WL r ops Q (o::rest) a w:=lR (v:=v) (my hx) (fun g w2 n=>by rw[C6 hc]at n;rw[ha];exact h g w2 n (hp.new n)) ho hw
theorem al(h:∀g w2,jr w w2 g l.toArray ty→Hp w2 ((g,l.toArray,ty)::L)→WL r ops Q rest (f g) w2)(ho:o.op=.alloc ty:=by rfl)(hz:xH ty zT=some z:=by rfl)(hc:pa z=some l:=by rfl)(hp:Hp w L:=by exact hp)(hw:Region.wanted o (yielded ops a.tmps)=true:=by rfl)(ha:∀g,a.put o.dst (.pointer (some ⟨g,0,none⟩))=f g:=by exact KI):WL r ops Q (o::rest) a w:=eK (z:=z) (aly hz) (fun g w2 n=>by rw[C6 hc]at n;rw[ha];exact h g w2 n (hp.new n)) ho hw
theorem bB(h:∀g w2,jr w w2 g l.toArray ty→Hp w2 ((g,l.toArray,ty)::L)→w0.heap.size≤g→Bw w0 w2→WL r ops Q rest (f g) w2)(hB:Bw w0 w:=by exact hB)(ho:o.op=.box ty x:=by rfl)(hx:uT a x=some v:=by rfl)(hc:pa v=some l:=by rfl)(hp:Hp w L:=by exact hp)(hw:Region.wanted o (yielded ops a.tmps)=true:=by rfl)(ha:∀g,a.put o.dst (.pointer (some ⟨g,0,none⟩))=f g:=by exact KI):WL r ops Q (o::rest) a w:=bx (fun g w2 n hp=>h g w2 n hp (ayo hB.size n.fresh) (U hB n.below)) ho hx hc hp hw ha
theorem aB(h:∀g w2,jr w w2 g l.toArray ty→Hp w2 ((g,l.toArray,ty)::L)→w0.heap.size≤g→Bw w0 w2→WL r ops Q rest (f g) w2)(hB:Bw w0 w:=by exact hB)(ho:o.op=.alloc ty:=by rfl)(hz:xH ty zT=some z:=by rfl)(hc:pa z=some l:=by rfl)(hp:Hp w L:=by exact hp)(hw:Region.wanted o (yielded ops a.tmps)=true:=by rfl)(ha:∀g,a.put o.dst (.pointer (some ⟨g,0,none⟩))=f g:=by exact KI):WL r ops Q (o::rest) a w:=al (fun g w2 n hp=>h g w2 n hp (ayo hB.size n.fresh) (U hB n.below)) ho hz hc hp hw ha
theorem so{y:Operand}(h:∀w2,o1 w w2 g l'.toArray t→Hp w2 L'→WL r ops Q rest a' w2)(ho:o.op=.store ty x y:=by rfl)(hx:uT a x=some (.pointer (some ⟨g,i,none⟩)):=by rfl)(hy:uT a y=some v:=by rfl)(hs:xH ty NP=some n:=by rfl)(hv:pa v=some vs:=by rfl)(hn:(vs.length==n)=true:=by rfl)(hp:Hp w L:=by exact hp)(hk:SA L g (z::l).toArray t l'.toArray L':=by exact Tu)(hi:Nat.ble (i+vs.length) (z::l).length=true:=by rfl)(h1:vs.all Value.oneCell'=true:=by rfl)(hl:Jc (z::l) i vs=l':=by(simp only[GX,GY,GZ];rfl))(hw:Region.wanted o (yielded ops a.tmps)=true:=by rfl)(ha:a.put o.dst undef=a':=by exact PT):WL r ops Q (o::rest) a w:=by
 obtain⟨k,Zd,KJ⟩:=hk;have hc:=C6 hv;have mv:i+vs.length≤(z::l).length:=ayr hi;refine aU (hp.at k Zd) (my hx) (my hy) (by rw[hc];have:=Xm hs;simp only[beq_iff_eq]at hn;rw[this,←hn];rfl) (by rw[hc];simpa using mv) (by rw[hc];simpa using ayS.1 h1) (fun w2 p=>?_) ho hw;rw[hc]at p;have e:bt (z::l).toArray i vs.toArray.toList=l'.toArray:=by rw[←hl];exact G5 (z::l) i vs mv
 rw[e]at p;rw[ha];refine h w2 p ?_;rw[←KJ];exact hp.put k p Zd
theorem sB{y:Operand}(hf:w0.heap.size≤g)(h:∀w2,o1 w w2 g l'.toArray t→Hp w2 L'→Bw w0 w2→WL r ops Q rest a' w2)(hB:Bw w0 w:=by exact hB)(ho:o.op=.store ty x y:=by rfl)(hx:uT a x=some (.pointer (some ⟨g,i,none⟩)):=by rfl)(hy:uT a y=some v:=by rfl)(hs:xH ty NP=some n:=by rfl)(hv:pa v=some vs:=by rfl)(hn:(vs.length==n)=true:=by rfl)(hp:Hp w L:=by exact hp)(hk:SA L g (z::l).toArray t l'.toArray L':=by exact Tu)(hi:Nat.ble (i+vs.length) (z::l).length=true:=by rfl)(h1:vs.all Value.oneCell'=true:=by rfl)(hl:Jc (z::l) i vs=l':=by(simp only[GX,GY,GZ];rfl))(hw:Region.wanted o (yielded ops a.tmps)=true:=by rfl)(ha:a.put o.dst undef=a':=by exact PT):WL r ops Q (o::rest) a w:=so (fun w2 p hp=>h w2 p hp (aN hB p hf)) ho hx hy hs hv hn hp hk hi h1 hl hw ha
theorem cl{f:FuncId}(hc:CP f args w fun e w'=>e=.returned v∧Bw w w')(h:∀w2,Bw w w2→Hp w2 L→WL r ops Q rest a' w2)(hp:Hp w L:=by exact hp)(kg:o.op=.call {callee:=.value (.func f),args:=xs,argTypes:=ts}:=by rfl)(hf:ki f KH=true:=by rfl)(ft:xs.map a.eval=args:=by first|(simp only[ayH,ayC,ayB];rfl)|simp only[ayH,ayB])(hw:Region.wanted o (yielded ops a.tmps)=true:=by rfl)(ha:a.put o.dst v=a':=by exact PT):WL r ops Q (o::rest) a w:=by obtain⟨fn,h1,h2,h3⟩:=Ja hf;exact uc h1 args hc (fun e w' ⟨he,hb⟩=>⟨v,he,by rw[ha];exact h w' hb (hp.below hb)⟩) h2 h3 kg ft hw
theorem cB{f:FuncId}(hc:CP f args w fun e w'=>e=.returned v∧Bw w w')(h:∀w2,Bw w w2→Hp w2 L→Bw w0 w2→WL r ops Q rest a' w2)(hB:Bw w0 w:=by exact hB)(hp:Hp w L:=by exact hp)(kg:o.op=.call {callee:=.value (.func f),args:=xs,argTypes:=ts}:=by rfl)(hf:ki f KH=true:=by rfl)(ft:xs.map a.eval=args:=by first|(simp only[ayH,ayC,ayB];rfl)|simp only[ayH,ayB])(hw:Region.wanted o (yielded ops a.tmps)=true:=by rfl)(ha:a.put o.dst v=a':=by exact PT):WL r ops Q (o::rest) a w:=cl hc (fun w2 hb hp=>h w2 hb hp (U hB hb)) hp kg hf ft hw ha
theorem ce{f:FuncId}(hc:CP f args w R)(h:∀e w',R e w'→∃v,e=.returned v∧WL r ops Q rest (a.put o.dst v) w')(kg:o.op=.call {callee:=.value (.func f),args:=xs,argTypes:=ts}:=by rfl)(hf:ki f KH=true:=by rfl)(ft:xs.map a.eval=args:=by first|(simp only[ayH,ayC,ayB];rfl)|simp only[ayH,ayB])(hw:Region.wanted o (yielded ops a.tmps)=true:=by rfl):WL r ops Q (o::rest) a w:=by obtain⟨fn,h1,h2,h3⟩:=Ja hf;exact uc h1 args hc h h2 h3 kg ft hw
end
section
variable{r:Option Nat}{ops:Array Oper}{Q:Exit→Act→World→Prop}{a a':Act}{w w0:World}{rest:List Oper}{o:Oper}{v:Value}{N:Option Tmp}{L L':List (Nat×Array Value×TypeId)}{G0:Prop}{G1:World→Prop}{G2:Nat→World→Prop}
theorem ak(v:Value)(hr:(execOp a.eval o).run Tryz.prog w=.ok (.value v) w)(h:G0)(hd:∀c,o.op≠.defer c:=by(intro c hc;cases hc))(hN:o.dst=N:=by rfl)(hw:Region.wanted o (yielded ops a.tmps)=true:=by rfl)(ha:a.put N v=a':=by exact PT)(i:Hd G0→WL r ops Q rest a' w:=by exact GO):WL r ops Q (o::rest) a w:=Oj hr (i ⟨h⟩) hd hN hw ha
theorem bxg(h:∀g w2,jr w w2 g l.toArray ty→Hp w2 ((g,l.toArray,ty)::L)→G2 g w2)(ho:o.op=.box ty x:=by rfl)(hx:uT a x=some v:=by rfl)(hc:pa v=some l:=by rfl)(hp:Hp w L:=by exact hp)(hw:Region.wanted o (yielded ops a.tmps)=true:=by rfl)(ha:∀g,a.put o.dst (.pointer (some ⟨g,0,none⟩))=f g:=by exact KI)(i:∀g w2,Hp w2 ((g,l.toArray,ty)::L)→Hd (G2 g w2)→WL r ops Q rest (f g) w2:=by(intro g w2 hp;exact GO)):WL r ops Q (o::rest) a w:=bx (fun g w2 n hp=>i g w2 hp ⟨h g w2 n hp⟩) ho hx hc hp hw ha
theorem alg(h:∀g w2,jr w w2 g l.toArray ty→Hp w2 ((g,l.toArray,ty)::L)→G2 g w2)(ho:o.op=.alloc ty:=by rfl)(hz:xH ty zT=some z:=by rfl)(hc:pa z=some l:=by rfl)(hp:Hp w L:=by exact hp)(hw:Region.wanted o (yielded ops a.tmps)=true:=by rfl)(ha:∀g,a.put o.dst (.pointer (some ⟨g,0,none⟩))=f g:=by exact KI)(i:∀g w2,Hp w2 ((g,l.toArray,ty)::L)→Hd (G2 g w2)→WL r ops Q rest (f g) w2:=by(intro g w2 hp;exact GO)):WL r ops Q (o::rest) a w:=al (fun g w2 n hp=>i g w2 hp ⟨h g w2 n hp⟩) ho hz hc hp hw ha
theorem ic(h:∀g w2,jr w w2 g l.toArray ty→Hp w2 ((g,l.toArray,ty)::L)→w0.heap.size≤g→Bw w0 w2→G2 g w2)(hB:Bw w0 w:=by exact hB)(ho:o.op=.box ty x:=by rfl)(hx:uT a x=some v:=by rfl)(hc:pa v=some l:=by rfl)(hp:Hp w L:=by exact hp)(hw:Region.wanted o (yielded ops a.tmps)=true:=by rfl)(ha:∀g,a.put o.dst (.pointer (some ⟨g,0,none⟩))=f g:=by exact KI)(i:∀g w2,Hp w2 ((g,l.toArray,ty)::L)→Hd (G2 g w2)→WL r ops Q rest (f g) w2:=by(intro g w2 hp;exact GO)):WL r ops Q (o::rest) a w:=bB (fun g w2 n hp h1 h2=>i g w2 hp ⟨h g w2 n hp h1 h2⟩) hB ho hx hc hp hw ha
theorem jJ(h:∀g w2,jr w w2 g l.toArray ty→Hp w2 ((g,l.toArray,ty)::L)→w0.heap.size≤g→Bw w0 w2→G2 g w2)(hB:Bw w0 w:=by exact hB)(ho:o.op=.alloc ty:=by rfl)(hz:xH ty zT=some z:=by rfl)(hc:pa z=some l:=by rfl)(hp:Hp w L:=by exact hp)(hw:Region.wanted o (yielded ops a.tmps)=true:=by rfl)(ha:∀g,a.put o.dst (.pointer (some ⟨g,0,none⟩))=f g:=by exact KI)(i:∀g w2,Hp w2 ((g,l.toArray,ty)::L)→Hd (G2 g w2)→WL r ops Q rest (f g) w2:=by(intro g w2 hp;exact GO)):WL r ops Q (o::rest) a w:=aB (fun g w2 n hp h1 h2=>i g w2 hp ⟨h g w2 n hp h1 h2⟩) hB ho hz hc hp hw ha
theorem tJ{y:Operand}(h:∀w2,o1 w w2 g l'.toArray t→Hp w2 L'→G1 w2)(ho:o.op=.store ty x y:=by rfl)(hx:uT a x=some (.pointer (some ⟨g,i,none⟩)):=by rfl)(hy:uT a y=some v:=by rfl)(hs:xH ty NP=some n:=by rfl)(hv:pa v=some vs:=by rfl)(hn:(vs.length==n)=true:=by rfl)(hp:Hp w L:=by exact hp)(hk:SA L g (z::l).toArray t l'.toArray L':=by exact Tu)(hi:Nat.ble (i+vs.length) (z::l).length=true:=by rfl)(h1:vs.all Value.oneCell'=true:=by rfl)(hl:Jc (z::l) i vs=l':=by(simp only[GX,GY,GZ];rfl))(hw:Region.wanted o (yielded ops a.tmps)=true:=by rfl)(ha:a.put o.dst undef=a':=by exact PT)(i:∀w2,Hp w2 L'→Hd (G1 w2)→WL r ops Q rest a' w2:=by(intro w2 hp;exact GO)):WL r ops Q (o::rest) a w:=so (fun w2 p hp=>i w2 hp ⟨h w2 p hp⟩) ho hx hy hs hv hn hp hk hi h1 hl hw ha
theorem gG{y:Operand}(hf:w0.heap.size≤g)(h:∀w2,o1 w w2 g l'.toArray t→Hp w2 L'→Bw w0 w2→G1 w2)(hB:Bw w0 w:=by exact hB)(ho:o.op=.store ty x y:=by rfl)(hx:uT a x=some (.pointer (some ⟨g,i,none⟩)):=by rfl)(hy:uT a y=some v:=by rfl)(hs:xH ty NP=some n:=by rfl)(hv:pa v=some vs:=by rfl)(hn:(vs.length==n)=true:=by rfl)(hp:Hp w L:=by exact hp)(hk:SA L g (z::l).toArray t l'.toArray L':=by exact Tu)(hi:Nat.ble (i+vs.length) (z::l).length=true:=by rfl)(h1:vs.all Value.oneCell'=true:=by rfl)(hl:Jc (z::l) i vs=l':=by(simp only[GX,GY,GZ];rfl))(hw:Region.wanted o (yielded ops a.tmps)=true:=by rfl)(ha:a.put o.dst undef=a':=by exact PT)(i:∀w2,Hp w2 L'→Hd (G1 w2)→WL r ops Q rest a' w2:=by(intro w2 hp;exact GO)):WL r ops Q (o::rest) a w:=sB hf (fun w2 p hp hB=>i w2 hp ⟨h w2 p hp hB⟩) hB ho hx hy hs hv hn hp hk hi h1 hl hw ha
theorem tK{f:FuncId}(hc:CP f args w fun e w'=>e=.returned v∧Bw w w')(h:∀w2,Bw w w2→Hp w2 L→G1 w2)(hp:Hp w L:=by exact hp)(kg:o.op=.call {callee:=.value (.func f),args:=xs,argTypes:=ts}:=by rfl)(hf:ki f KH=true:=by rfl)(ft:xs.map a.eval=args:=by first|(simp only[ayH,ayC,ayB];rfl)|simp only[ayH,ayB])(hw:Region.wanted o (yielded ops a.tmps)=true:=by rfl)(ha:a.put o.dst v=a':=by exact PT)(i:∀w2,Hp w2 L→Hd (G1 w2)→WL r ops Q rest a' w2:=by(intro w2 hp;exact GO)):WL r ops Q (o::rest) a w:=cl hc (fun w2 hb hp=>i w2 hp ⟨h w2 hb hp⟩) hp kg hf ft hw ha
theorem cC{f:FuncId}(hc:CP f args w fun e w'=>e=.returned v∧Bw w w')(h:∀w2,Bw w w2→Hp w2 L→Bw w0 w2→G1 w2)(hB:Bw w0 w:=by exact hB)(hp:Hp w L:=by exact hp)(kg:o.op=.call {callee:=.value (.func f),args:=xs,argTypes:=ts}:=by rfl)(hf:ki f KH=true:=by rfl)(ft:xs.map a.eval=args:=by first|(simp only[ayH,ayC,ayB];rfl)|simp only[ayH,ayB])(hw:Region.wanted o (yielded ops a.tmps)=true:=by rfl)(ha:a.put o.dst v=a':=by exact PT)(i:∀w2,Hp w2 L→Hd (G1 w2)→WL r ops Q rest a' w2:=by(intro w2 hp;exact GO)):WL r ops Q (o::rest) a w:=cB hc (fun w2 hb hp hB=>i w2 hp ⟨h w2 hb hp hB⟩) hB hp kg hf ft hw ha
end
section
variable{r:Option Nat}{ops:Array Oper}{Q:Exit→Act→World→Prop}{a a':Act}{w w0:World}{rest:List Oper}{o:Oper}{v:Value}{N:Option Tmp}{L L':List (Nat×Array Value×TypeId)}{G1:World→Prop}{ty t:TypeId}{x y:Operand}{g i n:Nat}{cs cs':Array Value}{vs:List Value}
theorem sxo(h:∀w2,o1 w w2 g cs' t→Hp w2 L'→WL r ops Q rest a' w2)(ho:o.op=.store ty x y)(hx:uT a x=some (.pointer (some ⟨g,i,none⟩)))(hy:uT a y=some v)(hs:xH ty NP=some n)(hv:v.cells.toList=vs)(hn:vs.length=n)(hp:Hp w L)(hk:SA L g cs t cs' L')(he:bt cs i vs=cs')(hi:i+vs.length≤cs.size)(h1:∀u∈vs,u.oneCell'=true)(hw:Region.wanted o (yielded ops a.tmps)=true)(ha:a.put o.dst undef=a'):WL r ops Q (o::rest) a w:=by obtain⟨k,Zd,KJ⟩:=hk;subst hv;refine aU (hp.at k Zd) (my hx) (my hy) (by rw[Xm hs,←hn];simp) (by simpa using hi) h1 (fun w2 p=>?_) ho hw;rw[he]at p;rw[ha];refine h w2 p ?_;rw[←KJ];exact hp.put k p Zd
theorem bv(cs:Array Value){G2:Nat→World→Prop}(h:∀g w2,jr w w2 g cs ty→Hp w2 ((g,cs,ty)::L)→G2 g w2)(ho:o.op=.box ty x:=by rfl)(hx:uT a x=some (.agg cs):=by rfl)(hp:Hp w L:=by exact hp)(hw:Region.wanted o (yielded ops a.tmps)=true:=by rfl)(ha:∀g,a.put o.dst (.pointer (some ⟨g,0,none⟩))=f g:=by exact KI)(i:∀g w2,Hp w2 ((g,cs,ty)::L)→Hd (G2 g w2)→WL r ops Q rest (f g) w2:=by(intro g w2 hp;exact GO)):WL r ops Q (o::rest) a w:=lR (v:=.agg cs) (my hx) (fun g w2 n=>by rw[ha];exact i g w2 (hp.new n) ⟨h g w2 n (hp.new n)⟩) ho hw
theorem sx(he:bt cs i vs=cs')(h:∀w2,o1 w w2 g cs' t→Hp w2 L'→G1 w2)(ho:o.op=.store ty x y:=by rfl)(hx:uT a x=some (.pointer (some ⟨g,i,none⟩)):=by rfl)(hy:uT a y=some v:=by rfl)(hs:xH ty NP=some n:=by rfl)(hv:v.cells.toList=vs:=by rfl)(hp:Hp w L:=by exact hp)(hk:SA L g cs t cs' L':=by exact Tu)(hn:vs.length=n:=by first|rfl|exact Xp _|assumption)(hi:i+vs.length≤cs.size:=by first|exact ayr rfl|(rw[ao];exact ayr rfl)|(rw[aM hU];exact ayr rfl))(h1:∀u∈vs,u.oneCell'=true:=by first|exact ayS.1 rfl|exact iJ _|assumption)(hw:Region.wanted o (yielded ops a.tmps)=true:=by rfl)(ha:a.put o.dst undef=a':=by exact PT)(i:∀w2,Hp w2 L'→Hd (G1 w2)→WL r ops Q rest a' w2:=by(intro w2 hp;exact GO)):WL r ops Q (o::rest) a w:=sxo (fun w2 p hp=>i w2 hp ⟨h w2 p hp⟩) ho hx hy hs hv hn hp hk he hi h1 hw ha
theorem Bk(cs':Array Value)(h:∀w2,o1 w w2 g cs' t→Hp w2 L'→G1 w2)(ho:o.op=.store ty x y:=by rfl)(hx:uT a x=some (.pointer (some ⟨g,i,none⟩)):=by rfl)(hy:uT a y=some v:=by rfl)(hs:xH ty NP=some n:=by rfl)(hv:v.cells.toList=vs:=by rfl)(hp:Hp w L:=by exact hp)(hk:SA L g cs t cs' L':=by exact Tu)(he:bt cs i vs=cs':=by first|exact Oq _ _|exact Ze _ _|exact KK _ _|exact Ot _ _|exact Ou _ _|exact Zf _ _|exact Ov _ _)(hn:vs.length=n:=by rfl)(hi:i+vs.length≤cs.size:=by(rw[ao];exact ayr rfl))(h1:∀u∈vs,u.oneCell'=true:=by exact ayS.1 rfl)(hw:Region.wanted o (yielded ops a.tmps)=true:=by rfl)(ha:a.put o.dst undef=a':=by exact PT)(i:∀w2,Hp w2 L'→Hd (G1 w2)→WL r ops Q rest a' w2:=by(intro w2 hp;exact GO)):WL r ops Q (o::rest) a w:=sxo (fun w2 p hp=>i w2 hp ⟨h w2 p hp⟩) ho hx hy hs hv hn hp hk he hi h1 hw ha
theorem sf{as_:Array Value}(h1:∀u∈as_.toList,u.oneCell'=true)(hz:as_.size=n)(hc:cs.size=n)(h:∀w2,o1 w w2 g as_ t→Hp w2 L'→G1 w2)(ho:o.op=.store ty x y:=by rfl)(hx:uT a x=some (.pointer (some ⟨g,0,none⟩)):=by rfl)(hy:uT a y=some (.agg as_):=by rfl)(hs:xH ty NP=some n:=by rfl)(hp:Hp w L:=by exact hp)(hk:SA L g cs t as_ L':=by exact Tu)(hw:Region.wanted o (yielded ops a.tmps)=true:=by rfl)(ha:a.put o.dst undef=a':=by exact PT)(i:∀w2,Hp w2 L'→Hd (G1 w2)→WL r ops Q rest a' w2:=by(intro w2 hp;exact GO)):WL r ops Q (o::rest) a w:=sxo (vs:=as_.toList) (fun w2 p hp=>i w2 hp ⟨h w2 p hp⟩) ho hx hy hs rfl (by simpa using hz) hp hk (by unfold bt;simp[hz,hc,List.drop_of_length_le]) (by simp[hz,hc]) h1 hw ha
end
section
variable{ops:Array Oper}{Q:Act→Prop}{W w0:World}{a a':Act}{rest:List Oper}{o:Oper}{v:Value}{N:Option Tmp}{L:List (Nat×Array Value×TypeId)}{C:World→Prop}
theorem qx(h:WQ Tryz.prog ops C Q rest a')(hx:XR a o v:=by exact XRA)(hN:o.dst=N:=by rfl)(hw:Region.wanted o (yielded ops a.tmps)=true:=by rfl)(ha:a.put N v=a':=by exact PT):WQ Tryz.prog ops C Q (o::rest) a:=st (fun w _=>hx w) hN hw ha h
theorem ql(h:WQ Tryz.prog ops (Below W.heap.size W) Q rest a')(ho:o.op=.load ty x:=by rfl)(hp:Hp W L:=by exact hp)(hx:a.eval x=.pointer (some ⟨g,i,none⟩):=by rfl)(hk:Kn L g (y::l).toArray t:=by exact KN)(hv:(s4 (y::l) i).bind nb=some v:=by rfl)(hu:ki ty Y4=true:=by rfl)(hN:o.dst=N:=by rfl)(hw:Region.wanted o (yielded ops a.tmps)=true:=by rfl)(ha:a.put N v=a':=by exact PT):WQ Tryz.prog ops (Below W.heap.size W) Q (o::rest) a:=st (fun w hb=>Jb ((hp.kn hk).below hb) ho hx hv hu) hN hw ha h
theorem qa(h:WQ Tryz.prog ops (Below W.heap.size W) Q rest a')(ho:o.op=.load ty x:=by rfl)(hu:xH ty agT=some n:=by rfl)(hp:Hp W L:=by exact hp)(hx:a.eval x=.pointer (some ⟨g,i,none⟩):=by rfl)(hk:Kn L g (y::l).toArray t:=by exact KN)(hn:Nat.ble (i+n) (y::l).length=true:=by rfl)(hv:NQ (y::l) i n=vs:=by(simp only[Tr,Ts,Tt];rfl))(hN:o.dst=N:=by rfl)(hw:Region.wanted o (yielded ops a.tmps)=true:=by rfl)(ha:a.put N (.agg vs.toArray)=a':=by exact PT):WQ Tryz.prog ops (Below W.heap.size W) Q (o::rest) a:=st (fun w hb=>Oo ((hp.kn hk).below hb) ho hx hu hn hv) hN hw ha h
theorem qk(h:WQ Tryz.prog ops C Q rest a')(hN:o.dst=N:=by rfl)(hw:Region.wanted o (yielded ops a.tmps)=false:=by rfl)(ha:a.put N undef=a':=by exact PT):WQ Tryz.prog ops C Q (o::rest) a:=sk hN hw ha h
theorem qs(v:Value)(hr:∀w,C w→(execOp a.eval o).run Tryz.prog w=.ok (.value v) w)(h:WQ Tryz.prog ops C Q rest a')(hN:o.dst=N:=by rfl)(hw:Region.wanted o (yielded ops a.tmps)=true:=by rfl)(ha:a.put N v=a':=by exact PT):WQ Tryz.prog ops C Q (o::rest) a:=st hr hN hw ha h
theorem qc{f:FuncId}(hc:∀w,C w→CP f args w fun e w'=>e=.returned v∧C w')(h:WQ Tryz.prog ops C Q rest a')(kg:o.op=.call {callee:=.value (.func f),args:=xs,argTypes:=ts}:=by rfl)(hf:ki f KH=true:=by rfl)(ft:xs.map a.eval=args:=by first|(simp only[ayH,ayC,ayB];rfl)|simp only[ayH,ayB])(hN:o.dst=N:=by rfl)(hw:Region.wanted o (yielded ops a.tmps)=true:=by rfl)(ha:a.put N v=a':=by exact PT):WQ Tryz.prog ops C Q (o::rest) a:=by obtain⟨fn,h1,h2,h3⟩:=Ja hf;exact ca h1 args hc h2 h3 kg ft hN hw ha h
theorem gq(h:G')(i:Hd G'→G:=by(intro hz;(repeat (first|refine ql ?_|refine qk ?_|refine qx ?_|refine qa ?_));exact hz.out)):G:=i ⟨h⟩
theorem nl(h:∀w2,Bw W w2→Hp w2 L→K a w2)(hp:Hp W L:=by exact hp):WQ Tryz.prog ops (Below W.heap.size W) (fun a'=>∀w',Bw W w'→K a' w') [] a:=ou fun w2 hb=>h w2 hb (hp.below hb)
theorem nB(h:∀w2,Bw W w2→Hp w2 L→Bw w0 w2→K a w2)(hp:Hp W L:=by exact hp)(hB:Bw w0 W:=by exact hB):WQ Tryz.prog ops (Below W.heap.size W) (fun a'=>∀w',Bw W w'→K a' w') [] a:=ou fun w2 hb=>h w2 hb (hp.below hb) (U hB hb)
end
section
variable{r:Option Nat}{Q:Exit→Act→World→Prop}{a:Act}{w:World}
theorem vZ{l:List Oper}(h:WQ Tryz.prog l.toArray (Below w.heap.size w) (fun a'=>∀w',Bw w w'→Q .normal a' w') l a)(hB:Region.lexB .any l.toArray=true:=by kernel_rfl)(hd:jl l.toArray=true:=by kernel_rfl):WC r (.region id l.toArray true) Q a w:=ale _ (Below.refl _ _).drew h hB hd
theorem gu{l l1 l2:List Oper}(m:Nat)(h:WQ Tryz.prog l.toArray (Below w.heap.size w) (fun a'=>∀w',Bw w w'→WL r l.toArray Q l2 a' w') l1 a)(h1:l.take m=l1:=by rfl)(h2:l.drop m=l2:=by rfl)(hB:Region.lexTailB .any l.toArray m=true:=by kernel_rfl)(hd:jl l.toArray=true:=by kernel_rfl):WC r (.region id l.toArray true) Q a w:=alf m _ (Below.refl _ _).drew (by subst h1;subst h2;exact h) hB hd
theorem fe{f:FuncId}{t:Array Value}(hf:Tryz.prog.funcs[f]?=some fn)(hn:fn.ntmps=n)(h:WC none c (ud fn R) {tmps:=t,defers:=[]} w)(hb:fn.body=some c:=by rfl)(ht:args++Array.replicate (n-args.size) undef=t:=by(simp only[azL,ayJ,ayY,Nat.reduceAdd,Nat.reduceSub,azA,azB,azM,azO,azj,azh];rfl)):CP f args w R:=To hf (by rw[hn,ht];exact h) hb
theorem BF{f:FuncId}{t:Array Value}(hf:Tryz.prog.funcs[f]?=some fn)(hn:fn.ntmps=n)(h:WC none c (o8 fn R) {tmps:=t,defers:=[]} w)(hb:fn.body=some c:=by rfl)(ht:args++Array.replicate (n-args.size) undef=t:=by(simp only[azL,ayJ,ayY,Nat.reduceAdd,Nat.reduceSub,azA,azB,azM,azO,azj,azh];rfl)):CP f args w R:=Om hf (by rw[hn,ht];exact h) hb
theorem p1{t:Tmp}(hR:R (.returned v) w)(h:fn.results=#[.tmp t]:=by rfl)(hv:s4 a.tmps.toList t=some v:=by rfl)(hd:a.defers=[]:=by rfl):ud fn R .ret a w:=Y1 hR h (my (x:=.tmp t) hv) hd
theorem p2{t:Tmp}(hR:R (.returned (.tuple #[v,v'])) w)(h:fn.results=#[.tmp t,.tmp u]:=by rfl)(hv:s4 a.tmps.toList t=some v:=by rfl)(hu:s4 a.tmps.toList u=some v':=by rfl)(hd:a.defers=[]:=by rfl):ud fn R .ret a w:=Y2 hR h (my (x:=.tmp t) hv) (my (x:=.tmp u) hu) hd
theorem p3{t s:Tmp}{Xl:Value}(hR:R (.returned (.tuple #[v,v',Xl])) w)(h:fn.results=#[.tmp t,.tmp u,.tmp s]:=by rfl)(hv:s4 a.tmps.toList t=some v:=by rfl)(hu:s4 a.tmps.toList u=some v':=by rfl)(hs:s4 a.tmps.toList s=some Xl:=by rfl)(hd:a.defers=[]:=by rfl):ud fn R .ret a w:=Y3 hR h (my (x:=.tmp t) hv) (my (x:=.tmp u) hu) (my (x:=.tmp s) hs) hd
end
end
section
open Go.RowKit
variable{Q K:Act→World→Prop}{C:World→Prop}{o oi:Oper}{v:Value}{a a':Act}{i j fuel k:Nat}{w:World}{aj bN:Array Bool}
section
variable{r:Option Nat}{ops:Array Oper}{Q:Exit→Act→World→Prop}{D:Array Bool→World→Prop}
def nW(Q:Act→World→Prop):Exit→Act→World→Prop
 |.normal,a,w=>Q a w
 |_,_,_=>False
def dP(r:Option Nat)(ops:Array Oper)(Q:Act→World→Prop)(D:Array Bool→World→Prop):Nat→Array Bool→Act→World→Prop
 |0,aj,a,w=>∀w',Bw w w'→D aj w'∧Region.ready .any ops aj=[]∧Q a w'
 |fuel+1,aj,a,w=>∀w',Bw w w'→D aj w'∧(Region.ready .any ops aj=[]→Q a w')∧∀i∈Region.ready .any ops aj,wpOpIn (FW r) 0 Tryz.prog ops (nW Q) i (dP r ops Q D fuel (aj.setIfInBounds i true)) a w'
theorem dP.d{Q:Act→World→Prop}:∀{f:Nat} {aj:Array Bool} {a:Act} {w:World},dP r ops Q D f aj a w→D aj w
 |0,_,_,w,h=>(h w (Below.refl _ w)).1
 |_+1,_,_,w,h=>(h w (Below.refl _ w)).1
theorem dP.JE{Q:Act→World→Prop}:∀{f:Nat} {aj:Array Bool} {a:Act} {w w':World},dP r ops Q D f aj a w→Bw w w'→dP r ops Q D f aj a w'
 |0,_,_,_,_,h,k=>fun w2 hb=>h w2 (U k hb)
 |_+1,_,_,_,_,h,k=>fun w2 hb=>h w2 (U k hb)
theorem dP.any{Q:Act→World→Prop}:∀{f:Nat} {aj:Array Bool} {a:Act} {w:World},dP r ops Q D f aj a w→wpAnyIn (FW r) 0 Tryz.prog .any ops (nW Q) f aj a w
 |0,_,_,w,h=>⟨(h w (Below.refl _ w)).2.1,(h w (Below.refl _ w)).2.2⟩
 |_+1,_,_,w,h=>⟨(h w (Below.refl _ w)).2.1,fun i hi=>wpOpIn_mono (fun a w q=>dP.any q) ((h w (Below.refl _ w)).2.2 i hi)⟩
def YC(ops:Array Oper)(C:World→Prop)(o:Oper)(v:Value)(a:Act):Prop:=(Region.wanted o (yielded ops a.tmps)=true∧∀w,C w→(execOp a.eval o).run Tryz.prog w=.ok (.value v) w∨∃f args,(execOp a.eval o).run Tryz.prog w=.ok (.enter f args) w∧CP f args w fun e w'=>e=.returned v∧Bw w w')∨(Region.wanted o (yielded ops a.tmps)=false∧v=undef)
theorem YC.of_same(hy:YC ops C o v a)(he:execOp a'.eval o=execOp a.eval o)(hw:Region.wanted o (yielded ops a'.tmps)=Region.wanted o (yielded ops a.tmps)):YC ops C o v a':=by unfold YC;rw[hw,he];exact hy
theorem YC.wpOpIn{Q:Exit→Act→World→Prop}(hi:ops[i]?=some o)(Tb:∀c,o.op≠.defer c)(hy:YC ops C o v a)(hC:C w)(h:∀w',Bw w w'→K (a.put o.dst v) w'):Go.wpOpIn (FW r) 0 Tryz.prog ops Q i K a w:=by
 unfold Go.wpOpIn;simp only[hi];rcases hy with⟨hw,hv⟩|⟨hw,rfl⟩
 ·rw[if_pos hw];refine⟨fun _ _=>trivial,?_⟩;rw[Oper.semAt_eq _ _ _ Tb];rcases hv w hC with hv|⟨f,args,hv,hc⟩;·rw[hv];exact h w (Below.refl _ w)
  ·rw[hv];refine⟨fun h=>(by cases h),sD (hc.mono fun e w' q=>?_)⟩;obtain⟨rfl,hb⟩:=q;exact h w' hb
 ·rw[if_neg (by rw[hw];decide)];exact⟨fun _ _=>trivial,h w (Below.refl _ w)⟩
theorem Fx{Q:Act→World→Prop}{oj:Oper}(hj:ops[j]?=some oj)(hap:oi.apart ops oj=true)(Tb:∀c,oj.op≠.defer c)(hsi:∀cs b,oi.op≠.select cs b)(hsj:∀cs b,oj.op≠.select cs b)(hy:YC ops C oi v a)(h:Go.wpOpIn (FW r) 0 Tryz.prog ops (nW Q) j K (a.put oi.dst v) w):Go.wpOpIn (FW r) 0 Tryz.prog ops (nW Q) j (fun a' w'=>YC ops C oi v a'∧K (a'.put oi.dst v) w') a w:=by
 obtain⟨h1,h2,h3⟩:=Oper.apart_spec hap;have yj:∀(a:Act),YC ops C oi v a→∀u,YC ops C oi v (a.put oj.dst u):=fun a hy u=>hy.of_same (execOp_put oi hsi a oj.dst u h3) (wanted_put oi a oj.dst u h3);unfold Go.wpOpIn at*;simp only[hj]at*;rw[wanted_put oj a oi.dst v h1]at h;split
 ·rename_i hw;simp only[hw,if_true]at h;unfold Oper.wpIn at*;refine⟨fun _ _=>trivial,?_⟩;have h:=h.2;rw[Oper.semAt_eq _ _ _ Tb,execOp_put oj hsj a oi.dst v h1]at h;rw[Oper.semAt_eq _ _ _ Tb];generalize (execOp a.eval oj).run Tryz.prog w=q at*;cases q with
  |ok x w'=>
   cases x<;>simp only[Oper.uponIn]at h ⊢;case value u=>exact⟨yj a hy u,by rw[←Act.put_comm a v u h2];exact h⟩
   case skip=>exact⟨yj a hy _,by rw[←Act.put_comm a v undef h2];exact h⟩
   case defer d=>refine⟨yj {a with defers:=d::a.defers} (hy.of_same rfl rfl) _,?_⟩;rw[←Act.put_comm _ v undef h2,←Act.put_defers];exact h
   case enter f args=>
    refine⟨h.1,CallsIn.mono h.2 fun e w'' he=>?_⟩;cases e with
    |returned u=>exact⟨yj a hy u,by rw[←Act.put_comm a v u h2];exact he⟩
    |panicked c=>exact he.elim
    |outgrown=>exact he
   case row row args=>exact⟨h.1,RowsIn.mono h.2 fun u w'' he=>⟨yj a hy u,by rw[←Act.put_comm a v u h2];exact he⟩⟩
   case round l f tmps assign body=>
    refine⟨h.1,RoundIn.mono h.2 fun e w'' he=>?_⟩;cases e with
    |returned u=>exact⟨yj a hy u,by rw[←Act.put_comm a v u h2];exact he⟩
    |panicked c=>exact he.elim
    |outgrown=>exact he
  |halt x w'=>cases x<;>simp only[Oper.uponIn]at h ⊢;case panic u=>exact h.elim
 ·rename_i hw;simp only[hw]at h;exact⟨fun _ _=>trivial,yj a hy _,by rw[←Act.put_comm a v undef h2];exact h.2⟩
def Cl(ops:Array Oper)(aj:Array Bool):Prop:=∀j oj,ops[j]?=some oj→aj.getD j false=true→∀e∈oj.after,Region.binds .any e=true→aj.getD e.on false=true
theorem Cl.step(h:Cl ops aj)(hj:j∈Region.ready .any ops aj):Cl ops (aj.setIfInBounds j true):=fun k ok hk hl e he hb=>by
 obtain⟨_,oj,GI,yT⟩:=mem_ready.1 hj;by_cases Xj:j=k;·subst Xj;rw[GI]at hk;cases hk;exact getD_set_true (yT e he hb)
 ·rw[getD_set_ne false Xj]at hl;exact getD_set_true (h k ok hk hl e he hb)
theorem HG{Q:Act→World→Prop}(hi:ops[i]?=some oi)(uN:∀(j:Nat) (o:Oper) cs b,ops[j]?=some o→o.op≠.select cs b)(Tb:∀(j:Nat) (o:Oper) c,ops[j]?=some o→o.op≠.defer c)(hDC:∀aj w,Cl ops aj→aj.getD i true=false→D (aj.setIfInBounds i true) w→D aj w∧C w):∀(fuel:Nat) (aj:Array Bool) (a:Act) (w:World),Cl ops aj→(∀j oj,ops[j]?=some oj→j≠i→aj.getD j true=false→(∀e∈oj.after,Region.binds .any e=true→e.on≠i)→oi.apart ops oj=true)→i∈Region.ready .any ops aj→YC ops C oi v a→dP r ops Q D fuel (aj.setIfInBounds i true) (a.put oi.dst v) w→dP r ops Q D (fuel+1) aj a w:=by
 intro fuel;induction fuel with
 |zero=>
  intro aj a w0 A7 _ hr hy H0 w oq;have H:=H0.JE oq;have hu:=(mem_ready.1 hr).1;have hd:=hDC aj w A7 hu H.d;refine⟨hd.1,fun h=>(by rw[h]at hr;cases hr),fun j hj=>?_⟩;by_cases EM:j=i;·subst EM;exact hy.wpOpIn hi (fun c=>Tb j oi c hi) hd.2 (fun w' k=>H.JE k)
  ·have:=ready_mono hj EM;rw[(H w (Below.refl _ w)).2.1]at this;cases this
 |succ fuel ih=>
  intro aj a w0 A7 EN hr hy H0 w oq;have H:=H0.JE oq;have hu:=(mem_ready.1 hr).1;have hd:=hDC aj w A7 hu H.d;refine⟨hd.1,fun h=>(by rw[h]at hr;cases hr),fun j hj=>?_⟩;by_cases EM:j=i;·subst EM;exact hy.wpOpIn hi (fun c=>Tb j oi c hi) hd.2 (fun w' k=>H.JE k)
  ·have h1:=(H w (Below.refl _ w)).2.2 j (ready_mono hj EM);obtain⟨Og,oj,GI,yT⟩:=mem_ready.1 hj
   have YW:∀e∈oj.after,Region.binds .any e=true→e.on≠i:=fun e he hb heq=>by
    have h1:=yT e he hb;have h0:=(mem_ready.1 hr).1;rw[heq]at h1;rcases ayQ i aj.size with h'|h';·simp[h']at h0 h1;rw[h0]at h1;cases h1
    ·simp[ayN h']at h1
   have h2:=Fx GI (EN j oj GI EM Og YW) (fun c=>Tb j oj c GI) (fun cs b=>uN i oi cs b hi) (fun cs b=>uN j oj cs b GI) hy h1
   have aaG:∀k ok,ops[k]?=some ok→k≠i→(aj.setIfInBounds j true).getD k true=false→(∀e∈ok.after,Region.binds .any e=true→e.on≠i)→oi.apart ops ok=true:=fun k ok hk hki hun hno=>by
    refine EN k ok hk hki ?_ hno;by_cases Xj:j=k;·subst Xj;exact Og
    ·rw[getD_set_ne true Xj]at hun;exact hun
   refine wpOpIn_mono (fun a' w' h3=>ih (aj.setIfInBounds j true) a' w' (A7.step hj) aaG (ready_mono hr (azR EM)) h3.1 ?_) h2;rw[azI _ _ EM];exact h3.2
theorem XN{id:Nat}{l:List Oper}{Q:Exit→Act→World→Prop}(D:Array Bool→World→Prop)(h:dP r l.toArray (fun a w=>Q .normal a w) D l.length (Array.replicate l.length false) a w.drew):WC r (.region id l.toArray true) Q a w:=⟨wpIn_mono (Q:=nW fun a w=>Q .normal a w) (wpIn_region_any kr (by simpa using h.any)) fun e a w q=>by cases e<;>first|exact q|exact q.elim⟩
theorem a_q{Q:Act→World→Prop}(hi:ops[i]?=some oi)(hs:Region.noSelect ops=true)(hd:jl ops=true)(hf:Region.free .any ops aj i=true)(hr:(Region.ready .any ops aj).contains i=true)(A7:Cl ops aj)(hDC:∀aj w,Cl ops aj→aj.getD i true=false→D (aj.setIfInBounds i true) w→D aj w∧C w)(hy:YC ops C oi v a)(hl:aj.setIfInBounds i true=bN)(ha:a.put oi.dst v=a')(h:dP r ops Q D fuel bN a' w):dP r ops Q D (fuel+1) aj a w:=by subst hl;subst ha;exact HG hi (Region.noSelect_spec hs) (fun j o c ho=>uQ hd j o ho c) hDC fuel aj a w A7 (Region.free_spec hi hf) (by simpa using hr) hy h
theorem pB{Q:Act→World→Prop}(ho:ops[k]?=some o)(h:WL r ops (nW K) [o] a w):wpOpIn (FW r) 0 Tryz.prog ops (nW Q) k K a w:=by
 have h':=h.out;unfold Go.wpOpIn;simp only[ho];simp only[wpListIn]at h';split
 ·rename_i hw;rw[if_pos hw]at h';unfold Oper.wpIn at*;refine⟨h'.1,?_⟩;have h2:=h'.2;generalize (o.semAt (FW r).round a.eval).run Tryz.prog w=q at*;cases q with
  |ok x w'=>
   cases x<;>simp only[Oper.uponIn]at h2 ⊢<;>first
    |exact h2
    |exact⟨h2.1,CallsIn.mono h2.2 fun e w'' he=>by cases e<;>first|exact he|exact he.elim⟩
    |exact⟨h2.1,RoundIn.mono h2.2 fun e w'' he=>by cases e<;>first|exact he|exact he.elim⟩
  |halt x w'=>cases x<;>simp only[Oper.uponIn]at h2 ⊢<;>exact h2
 ·rename_i hw;rw[if_neg hw]at h';exact h'
theorem wH{Q:Act→World→Prop}(ho:ops[k]?=some o)(hr:Region.ready .any ops aj=[k])(hl:aj.setIfInBounds k true=bN)(h:∀w',Bw w w'→D aj w'∧WL r ops (nW fun a' w'=>dP r ops Q D fuel bN a' w') [o] a w'):dP r ops Q D (fuel+1) aj a w:=by
 subst hl;intro w' hb;obtain⟨hD,h⟩:=h w' hb;refine⟨hD,fun h1=>(by rw[hr]at h1;cases h1),fun i hi=>?_⟩;rw[hr]at hi;have Oi:i=k:=by simpa using hi
 subst Oi;exact pB ho h
theorem XO{Q:Act→World→Prop}(hr:Region.ready .any ops aj=[])(h:∀w',Bw w w'→D aj w'∧Q a w'):∀fuel,dP r ops Q D fuel aj a w
 |0=>fun w' hb=>⟨(h w' hb).1,hr,(h w' hb).2⟩
 |_+1=>fun w' hb=>⟨(h w' hb).1,fun _=>(h w' hb).2,fun i hi=>by rw[hr]at hi;cases hi⟩
end
end
end Go.Proofs.YtdkpbpjcbkibiaaGreatDoor.B
