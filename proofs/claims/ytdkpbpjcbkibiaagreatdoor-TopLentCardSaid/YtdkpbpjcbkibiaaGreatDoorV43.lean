/- Kyr -/
import Derived.Test.YtdkpbpjcbkibiaaGreatDoorV42
set_option linter.all false
set_option maxRecDepth 100000
set_option maxHeartbeats 4000000
namespace Go.Proofs.YtdkpbpjcbkibiaaGreatDoor.B
open Go.RowKit
section
open Go.RowKit
variable{arr:Array Value}{L:List Int}
section
variable{r:Option Nat}{ops:Array Oper}{Q:Exit→Act→World→Prop}{a:Act}{w:World}{rest:List Oper}{o:Oper}
theorem W7{t e ty:TypeId}{z:Value}{sz bytes m:Nat}{s x:Operand}{k:Int}(ac5:0<m)(hs:a.eval s=.slice none 0 0)(hx:a.eval x=.int .i64 k)(hk:k=(m:Int))(sF:Tryz.prog.underlying ty=some (.int .i64))(hu:Tryz.prog.underlying t=some (.slice e))(rj:(Tryz.prog.info? e).map (fun i=>(i.zero,i.size,i.bytes))=some (some z,sz,bytes))(Zo:z.cells.size=sz)(jv:0<sz)(Da:m<10000000)(hby:bytes≤1000)(h:∀c' arr w2 g',jr w w2 g' arr e→arr.size=c'*sz→m≤c'→WL r ops Q rest (a.put o.dst (.slice (some ⟨g',0,none⟩) m c')) w2)(ho:o.op=.call {callee:=.builtin .append,args:=#[s,x],argTypes:=#[t,ty]}:=by rfl)(hw:Region.wanted o (yielded ops a.tmps)=true:=by rfl):WL r ops Q (o::rest) a w:=by
 obtain⟨i,hi,xL,Oz,Tw⟩:∃i,Tryz.prog.info? e=some i∧i.zero=some z∧i.size=sz∧i.bytes=bytes:=by
  cases hq:Tryz.prog.info? e with
  |none=>simp[hq]at rj
  |some i=>simp only[hq,ay9,ay8,azX]at rj;exact⟨i,rfl,rj.1,rj.2.1,rj.2.2⟩
 subst Oz;subst hk;have G8:(0+m)*i.bytes≤140737488355328:=ayo (aAH (Nat.le_of_lt om) (Tw▸hby)) (show 10000000*1000≤140737488355328 by omega);have hn:¬(0+m≤0):=by omega
 have hn':¬(m≤0):=by omega
 have Tx:IntKind.i64.wrap (m:Int)=m:=by rw[IntKind.wrap_i64];omega
 have hm0:¬((m:Int)<0):=by omega
 have h48:¬(281474976710656<(m:Int)*i.bytes):=by
  have h2:((m*i.bytes:Nat):Int)≤140737488355328:=by rw[ayR]at G8;omega
  rw[Int.natCast_mul]at h2;omega
 have Ty:¬(9223372036854775807<(m:Int)):=by omega
 have Xs:=growslice_fits (need:=0+m) (old:=0) (bytes:=i.bytes) om G8;have Tz:¬(281474976710656<Builtin.nextslicecap m 0*i.bytes):=by rw[ayR]at Xs;omega
 have C9:=grownCap_ge w m 0 e;have hmz:¬(m*i.size=0):=by have:=Nat.mul_pos ac5 jv;omega
 have api:¬(m=0):=by omega
 have apj:¬(i.size=0):=by omega
 refine qb (v:=.slice (some ⟨w.heap.size,0,none⟩) m (grownCap w m 0 e)) (w2:=w.drew.alloc (.cells (Builtin.zeroCells z.cells m++Builtin.zeroCells z.cells (grownCap w m 0 e-m)) e)) ?_ (h _ _ _ _ ⟨heap_alloc_new w.drew _,⟨rfl,rfl,rfl,by simp,fun k hk=>heap_alloc_old w.drew _ hk⟩,ayp _,by simp⟩ ?_ C9) (fun c hc=>by rw[ho]at hc;cases hc) hw;·unfold execOp;simp[ho,resolve,invoke,builtin,hs,hx,Builtin.append_,run_underlying hu,run_underlying sF,sizeOf,typeInfo,zeroValue,hi,xL,asInt,asIntOf,Tx,hm0,h48,hn,hn',Ty,Tz,Question.forced,hmz,api,apj,newRow,grownCap,Builtin.firstCells,loadCells,loadCellsFrom]
 ·simp only[az6,size_zeroCells,Zo];rw[←ay0];congr 1;omega
end
def BB(j:Nat):Int:=if j<8 then dr j else 0
def st1:Nat→Int:=lh BB 0 (dM .u64 (BB 0) 16842784)
def GA(L:List Int):Nat→Nat→Int
 |0=>st1
 |k+1=>sv (GA L k) ((L.drop (128*k)).take 128) false
def eS(L:List Int):Nat→Int:=sv (GA L ((L.length-1)/128)) (L.drop (128*((L.length-1)/128))) true
def ib(S:Nat→Int):Nat→Nat→Int
 |0=>fun _=>0
 |i+1=>lh (ib S i) i (IntKind.u8.wrap (fF .u64 (S (i/8)) (8*(i%8))))
theorem SL(x:Int):0≤IntKind.u8.wrap x∧IntKind.u8.wrap x<256:=by
 have:IntKind.u8.wrap x=x%256:=by unfold IntKind.wrap;simp[IntKind.signed,IntKind.bits]
 rw[this];omega
theorem AT(S:Nat→Int):∀n i,0≤ib S n i∧ib S n i<256
 |0,i=>by simp[ib]
 |n+1,i=>by
  unfold ib lh;split;·exact SL _
  ·exact AT S n i
def IX(S:Nat→Int):bU:=⟨(List.range 32).map fun i=>UInt8.ofNat (ib S 32 i).toNat,by simp⟩
theorem IY(S:Nat→Int):aJ (IX S)=aH .u8 32 (ib S 32):=by
 unfold aJ IX aH eT;simp only[azU];congr 1;refine aDG fun i _=>?_;have h:=AT S 32 i;simp only[Function.comp];congr 1;have:(UInt8.ofNat (ib S 32 i).toNat).toNat=(ib S 32 i).toNat:=by rw[UInt8.toNat_ofNat'];omega
 rw[this];omega
theorem bE.aia(h:bE arr 1 bC L)(off n:Nat):Gx arr off ((L.drop off).take n):=⟨fun i x hx=>by
 rw[aAo]at hx;split at hx;·rw[azi]at hx;have:=h.get hx (j:=0) dd;rw[aAs,azt]at this;exact this
 ·cases hx⟩
theorem bE.ac8(h:bE arr 1 bC L)(off:Nat):Gx arr off (L.drop off):=⟨fun i x hx=>by rw[azi]at hx;have:=h.get hx (j:=0) dd;rw[aAs,azt]at this;exact this⟩
end
end Go.Proofs.YtdkpbpjcbkibiaaGreatDoor.B
