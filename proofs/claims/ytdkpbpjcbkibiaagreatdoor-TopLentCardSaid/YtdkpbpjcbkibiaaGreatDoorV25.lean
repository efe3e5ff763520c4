/- Cx -/
import Derived.Test.YtdkpbpjcbkibiaaGreatDoorV24
set_option linter.all false
set_option maxRecDepth 100000
set_option maxHeartbeats 4000000
namespace Go.Proofs.YtdkpbpjcbkibiaaGreatDoor.B
open Go.RowKit
section
open Go.RowKit
variable{xs ys:Array Value}
structure se where
 kind:Int
 dy:Int
 iV:Int
 n:Int
 ref:Int
 aa:Int
 level:Int
 sum:bU
 bZ:cZ
 call:bn
def sS(v:cZ):Array Value:=#[.int .i64 v.kind,.bool v.jP,.int .i64 v.level,.int .i64 v.a,.int .i64 v.n,.int .i64 v.s]
def xd(k w t n r tr l:Int)(hs:bU)(v:cZ)(cs:Array Value):List Value:=([.int .i64 k,.int .i64 w,.int .i64 t,.int .i64 n,.int .i64 r,.int .i64 tr,.int .i64 l]:List Value)++(eT hs++(ks v++cs.toList))
def cj(k w t n r tr l:Int)(hs:bU)(v:cZ)(cs:Array Value):Array Value:=(xd k w t n r tr l hs v cs).toArray
section
variable{k w t n r tr l:Int}{hs:bU}{v:cZ}{cs:Array Value}
theorem aM(h:cs.size=4):(cj k w t n r tr l hs v cs).size=49:=by unfold cj xd;simp[bK,ks,h]
theorem kp:(cj k w t n r tr l hs v cs)[0]?=some (.int .i64 k):=rfl
theorem j2:(cj k w t n r tr l hs v cs)[1]?=some (.int .i64 w):=rfl
theorem sg:(cj k w t n r tr l hs v cs)[2]?=some (.int .i64 t):=rfl
theorem oW:(cj k w t n r tr l hs v cs)[3]?=some (.int .i64 n):=rfl
theorem mJ:(cj k w t n r tr l hs v cs)[4]?=some (.int .i64 r):=rfl
theorem mK:(cj k w t n r tr l hs v cs)[5]?=some (.int .i64 tr):=rfl
theorem xe:(cj k w t n r tr l hs v cs)[6]?=some (.int .i64 l):=rfl
theorem eC(h:cs.size=4):(cj k w t n r tr l hs v cs).extract 0 (0+49)=cj k w t n r tr l hs v cs:=by rw[show 0+49=(cj k w t n r tr l hs v cs).size from(aM h).symm];exact az4
theorem oc:(cj k w t n r tr l hs v cs).extract 7 (7+32)=aJ hs:=by have h:=bK hs;apply aAE;simp[cj,xd,aJ,azQ,h]
theorem nK:(cj k w t n r tr l hs v cs).extract 39 (39+6)=sS v:=by have h:=bK hs;apply aAE;simp[cj,xd,sS,ks,azP,azQ,h]
theorem jO(hc:cs.size=4):(cj k w t n r tr l hs v cs).extract 45 (45+4)=cs:=by have h:=bK hs;apply aAE;have e1:(eT hs).drop 38=[]:=azb om;have e2:cs.toList.take 4=cs.toList:=azG (by simp[hc]);simp[cj,xd,ks,azP,azQ,h,hc,e1,e2]
theorem iy(h1:∀u∈cs.toList,u.oneCell'=true):∀u∈(cj k w t n r tr l hs v cs).toList,u.oneCell'=true:=by
 intro u hu;simp only[cj,xd,azk]at hu;rcases hu with hu|hu|hu|hu;·revert u;simp[Value.oneCell']
 ·exact oL _ u hu
 ·revert u;simp[ks,Value.oneCell']
 ·exact h1 u hu
theorem agJ(x:Int):bt (cj k w t n r tr l hs v cs) 2 [.int .i64 x]=cj k w x n r tr l hs v cs:=rfl
theorem abA(x:Int):bt (cj k w t n r tr l hs v cs) 3 [.int .i64 x]=cj k w t x r tr l hs v cs:=rfl
theorem Ur(x:Int):bt (cj k w t n r tr l hs v cs) 4 [.int .i64 x]=cj k w t n x tr l hs v cs:=rfl
theorem Us(x:Int):bt (cj k w t n r tr l hs v cs) 5 [.int .i64 x]=cj k w t n r x l hs v cs:=rfl
theorem anB(x:Int):bt (cj k w t n r tr l hs v cs) 6 [.int .i64 x]=cj k w t n r tr x hs v cs:=rfl
theorem QI(hs':bU):bt (cj k w t n r tr l hs v cs) 7 (aJ hs').toList=cj k w t n r tr l hs' v cs:=by have h:=bK hs;have h':=bK hs';unfold bt cj;congr 1;simp[xd,aJ,azP,h,h']
theorem Ut(v':cZ):bt (cj k w t n r tr l hs v cs) 39 (sS v').toList=cj k w t n r tr l hs v' cs:=by have h:=bK hs;unfold bt cj;congr 1;simp[xd,sS,ks,azP,azQ,h]
theorem Uu{cs':Array Value}(h0:cs.size=4)(h1:cs'.size=4):bt (cj k w t n r tr l hs v cs) 45 cs'.toList=cj k w t n r tr l hs v cs':=by have h:=bK hs;unfold bt cj;congr 1;have e1:(eT hs).drop 42=[]:=azb om;have e2:cs.toList.drop 4=[]:=azb (by simp[h0]);have e3:(eT hs).take 38=eT hs:=azG om;simp[xd,ks,azP,azQ,h,h0,h1,e1,e2,e3]
end
def cP:bU:=⟨List.replicate 32 0,rfl⟩
def db:cZ:=⟨0,false,0,0,0,0⟩
def ky:bn:=.mk 0 0 0 []
def bg:Array Value:=#[.int .i64 0,.int .i64 0,.int .i64 0,.slice none 0 0]
theorem fJ(w:World)(Z:Nat→Prop):bw w Z bg ky:=.leaf 0 0 0 none
theorem cZ.ext'{a b:cZ}(h1:a.kind=b.kind)(h2:a.jP=b.jP)(h3:a.level=b.level)(h4:a.a=b.a)(h5:a.n=b.n)(h6:a.s=b.s):a=b:=by cases a;cases b;cases h1;cases h2;cases h3;cases h4;cases h5;cases h6;rfl
instance:DecidableEq cZ:=fun a b=>if h:a.kind=b.kind∧a.jP=b.jP∧a.level=b.level∧a.a=b.a∧a.n=b.n∧a.s=b.s then .isTrue (cZ.ext' h.1 h.2.1 h.2.2.1 h.2.2.2.1 h.2.2.2.2.1 h.2.2.2.2.2)else .isFalse fun e=>h (by rw[e];exact⟨rfl,rfl,rfl,rfl,rfl,rfl⟩)
theorem J5{a:Act}{o:Oper}{w:World}{t t':TypeId}{x y:Operand}{b:Bool}(heq:∀w,(Op.equal t (.agg xs) (.agg ys)).run Tryz.prog w=.ok b w)(hx:a.eval x=.agg xs)(hy:a.eval y=.agg ys)(hm:Tryz.prog.eqGuardType Tryz.prog.depth t=false)(ho:o.op=.binOp .eql t x y t':=by rfl):(execOp a.eval o).run Tryz.prog w=.ok (.value (.bool b)) w:=by unfold execOp;simp only[ho,hx,hy];have h:=heq w;simp only[Op.equal,Op.maxDepth]at h;simp[Sem.run_bind,run_eqGuard_agg (P:=Tryz.prog) w .eql t x y xs ys hm,run_eql_struct,h,Result.andThen_ok]
theorem K31:Dz 31:=⟨5,by kernel_rfl,by kernel_rfl,by kernel_rfl⟩
theorem Cu(h h':bU)(w:World):(Op.equal 31 (.agg (aJ h)) (.agg (aJ h'))).run Tryz.prog w=.ok (decide (h=h')) w:=zv K31 w h h'
theorem J6:Tryz.prog.eqGuardType Tryz.prog.depth 31=false:=by kernel_rfl
theorem J7:Tryz.prog.eqGuardType Tryz.prog.depth 33=false:=by kernel_rfl
theorem Uv:Tryz.prog.underlying 33=some (.struct (Tryz.prog.fieldsOf 33)):=by kernel_rfl
theorem abC:Tryz.prog.stoodInHeld 33=false:=by kernel_rfl
theorem QJ:∃t1 t2 t3 t4 t5 t6 p1 p2 p3 p4 p5 p6 q1 q2 q3 q4 q5 q6 r1 r2 r3 r4 r5 r6,(Tryz.prog.fieldsOf 33).toList=[⟨ "Kind",3,0,t1,p1,q1,r1⟩,⟨ "Aye",4,1,t2,p2,q2,r2⟩,⟨ "Level",3,2,t3,p3,q3,r3⟩,⟨ "A",3,3,t4,p4,q4,r4⟩,⟨ "N",3,4,t5,p5,q5,r5⟩,⟨ "S",3,5,t6,p6,q6,r6⟩]:=⟨false,false,false,false,false,false, "", "", "", "", "", "", "", "", "", "", "", "",0,8,16,24,32,40,by kernel_rfl⟩
theorem dF{e:TypeId}{d:TypeDesc}(hu:Tryz.prog.underlying e=some d)(hd:(match d with|.struct _|.array _ _=>true|_=>false)=false){off:Nat}{v:Value}(hx:xs[off]?=some v)(w:World):(part e xs off).run Tryz.prog w=.ok v w:=by
 have wh:(isAgg e).run Tryz.prog w=.ok false w:=by unfold isAgg;rw[Sem.run_bind,run_underlying hu w];cases d<;>simp_all
 unfold part;simp only[Sem.run_bind,wh,Result.andThen_ok,hx];simp
theorem kV{d:Nat}{f:Field}{fs:List Field}{a b:Value}{r:Bool}(w:World)(hn:f.name≠ "_")(ha:(part f.type xs f.offset).run Tryz.prog w=.ok a w)(hb:(part f.type ys f.offset).run Tryz.prog w=.ok b w)(he:(Op.equalIn d f.type a b).run Tryz.prog w=.ok r w):(Op.eqFields d xs ys (f::fs)).run Tryz.prog w=if r then(Op.eqFields d xs ys fs).run Tryz.prog w else .ok false w:=by rw[Op.eqFields,if_pos hn];simp only[Sem.run_bind,ha,hb,he,Result.andThen_ok];cases r<;>simp
theorem Cv(a b:cZ)(w:World):(Op.equal 33 (.agg (sS a)) (.agg (sS b))).run Tryz.prog w=.ok (decide (a=b)) w:=by
 show(Op.equalIn (9998+1+1) 33 _ _).run _ w=_;obtain⟨t1,t2,t3,t4,t5,t6,p1,p2,p3,p4,p5,p6,q1,q2,q3,q4,q5,q6,r1,r2,r3,r4,r5,r6,hf⟩:=QJ;rw[run_equalIn_struct w (9998+1) 33 _ _ Uv abC,hf];have i3:=fun(x y:Int)=>run_equalIn_int (P:=Tryz.prog) w 9998 3 .i64 .i64 x y U3;have i4:=fun(x y:Bool)=>run_equalIn_bool' (P:=Tryz.prog) w 9998 4 x y U4;rw[kV w (by show "Kind"≠ "_";decide) (dF U3 rfl rfl w) (dF U3 rfl rfl w) (i3 a.kind b.kind)];rw[kV w (by show "Aye"≠ "_";decide) (dF U4 rfl rfl w) (dF U4 rfl rfl w) (i4 a.jP b.jP)];rw[kV w (by show "Level"≠ "_";decide) (dF U3 rfl rfl w) (dF U3 rfl rfl w) (i3 a.level b.level)];rw[kV w (by show "A"≠ "_";decide) (dF U3 rfl rfl w) (dF U3 rfl rfl w) (i3 a.a b.a)];rw[kV w (by show "N"≠ "_";decide) (dF U3 rfl rfl w) (dF U3 rfl rfl w) (i3 a.n b.n)];rw[kV w (by show "S"≠ "_";decide) (dF U3 rfl rfl w) (dF U3 rfl rfl w) (i3 a.s b.s)];have e:decide (a=b)=((a.kind==b.kind)&&((a.jP==b.jP)&&((a.level==b.level)&&((a.a==b.a)&&((a.n==b.n)&&(a.s==b.s)))))):=by rw[azS];simp only[decide_eq_true_eq,ayF,beq_iff_eq];exact⟨fun q=>by rw[q];exact⟨rfl,rfl,rfl,rfl,rfl,rfl⟩,fun⟨h1,h2,h3,h4,h5,h6⟩=>cZ.ext' h1 h2 h3 h4 h5 h6⟩
 rw[e];cases(a.kind==b.kind)<;>cases(a.jP==b.jP)<;>cases(a.level==b.level)<;>cases(a.a==b.a)<;>cases(a.n==b.n)<;>cases(a.s==b.s)<;>rfl
end
end Go.Proofs.YtdkpbpjcbkibiaaGreatDoor.B
