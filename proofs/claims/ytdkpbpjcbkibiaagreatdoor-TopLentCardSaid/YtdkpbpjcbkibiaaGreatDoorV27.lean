/- Md Prm -/
import Derived.Test.YtdkpbpjcbkibiaaGreatDoorV22
import Derived.Test.YtdkpbpjcbkibiaaGreatDoorV26
import Derived.Test.YtdkpbpjcbkibiaaGreatDoorV15
import Derived.Test.YtdkpbpjcbkibiaaGreatDoorV1
set_option linter.all false
set_option maxRecDepth 100000
set_option maxHeartbeats 4000000
namespace Go.Proofs.YtdkpbpjcbkibiaaGreatDoor.B
open Go.RowKit
section
open Go.RowKit
def kI(W:oH)(h:bU):Int:=(kO W h).getD 0
def Gb(s:bM)(h:bU):bM:=s.vD (tf s.W h (wrap64 (kI s.W h+1)))
def fb(s:bM)(h:bU):bM:=if 0<kI s.W h then s.vD (tf s.W h (wrap64 (kI s.W h-1)))else s
def de(H:bn→bU)(s:bM)(a:Int)(c:bn):(bU×Int)×bM:=
 if a<0 then((cP,1),s)else if 10≤a then((cP,1),s)
 else if an c 0=true then
  if(kO s.N (H c)).isSome=true then((cP,5),s)
  else if 6≤(s.N.length:Int)then((cP,3),s)
  else if dw s.fs s.K a 5=0 then((H c,0),(s.iP (ir s.fs s.K a 5)).ym (tf s.N (H c) (c,a)))
  else((cP,dw s.fs s.K a 5),s.iP (ir s.fs s.K a 5))
 else((cP,1),s)
def nt(s:bM)(a:Int)(h:bU):Int×bM:=
 match kO s.N h with
 |none=>(4,s)
 |some x=>
  if x.2=a then if 0<kI s.W h then(9,s)else(0,(s.iP (jB s.fs a 5)).ym (Fu s.N h))
  else(8,s)
def Ac(a b:cS):Int:=Hi [jt a.at_ b.at_,jt a.prio b.prio,jt a.name b.name]
def uA(A:List cS)(n:Int):Bool:=A.any fun t=>decide (t.name=n)
def sh(A:List cS)(t:cS)(i:Nat):Bool:=!decide (Ac (A.getD i t) t<0)
def kW(A:List cS)(t:cS):Nat:=wq (sh A t) (A.length+1) 0 A.length
def sj(A:List cS)(t:cS):Bool:=decide (kW A t<A.length)&&decide (Ac (A.getD (kW A t) t) t=0)
def dQ(A:List cS)(t:cS):Int×List cS:=
 if t.name<0 then(1,A)else if t.at_<0 then(1,A)else if t.prio<0 then(1,A)
 else if uA A t.name=true then(5,A)
 else if 12≤(A.length:Int)then(3,A)
 else(0,A.take (kW A t)++t::A.drop (kW A t))
def oy(now:Int):Nat→List cS→Nat
 |0,_=>0
 |_,[]=>0
 |k+1,t::A=>if t.at_≤now then oy now k A+1 else 0
def gZ(s:bM)(cap t n:Int):(List iY×Int)×bM:=
 if cap<n then(([],10),s)
 else if iu s.fs s.K 0 t n=0 then(([⟨3,t,n⟩],0),s.iP (fg s.fs s.K 0 t n))else(([],iu s.fs s.K 0 t n),s.iP (fg s.fs s.K 0 t n))
mutual
def aX(of_ now:Int):bn→bM→(List iY×Int)×bM
 |.mk k t n l,s=>
  if k=1 then(([⟨5,of_,n⟩],0),s)
  else if k=2 then gZ s (dt of_).cap t n
  else if k=5 then dG of_ now l [] s
  else if k=3 then if(dt of_).uh<1 then(([],8),s)else eZ s n now
  else if(dt of_).uh<2 then(([],8),s)else i9 s n now
def dG(of_ now:Int):List bn→List iY→bM→(List iY×Int)×bM
 |[],out,s=>((out,0),s)
 |c::l,out,s=>
  if(aX of_ now c s).1.2=0 then dG of_ now l (out++(aX of_ now c s).1.1) (aX of_ now c s).2
  else((out++(aX of_ now c s).1.1,(aX of_ now c s).1.2),(aX of_ now c s).2)
end
def oz(s:bM)(c:bn)(of_ now:Int):(List iY×Int)×bM:=
 if(NV of_).isSome=true then if an c 0=true then aX of_ now c s else(([],1),s)else(([],1),s)
def fG:aY:=⟨0,0,cP,0,0,0,false,0,0,0,0,⟨0,0,0⟩⟩
def Ec(s:bM)(e:iY)(x:aY):cS:=⟨e.a,wrap64 (s.now+mx (mx (dt x.aa).mQ x.after) 1),0,x.sum,x.aa⟩
def mL(s:bM)(e:iY):bM:=
 if e.k=1 then
  if e.b=2 then s.DE (dQ s.A (Ec s e ((bS s.L 0 e.a).getD fG))).2
  else fb s ((bS s.L 0 e.a).getD fG).sum
 else s
def bz(s:bM)(es:List iY):bM:=es.foldl mL s
def eA(s:bM)(t:cS):List iY×bM:=
 match kO s.N t.sum with
 |none=>([⟨4,t.name,0⟩],fb s t.sum)
 |some x=>((oz s x.1 t.aa s.now).1.1++[⟨2,t.name,(oz s x.1 t.aa s.now).1.2⟩],fb (bz (oz s x.1 t.aa s.now).2 (oz s x.1 t.aa s.now).1.1) t.sum)
def oX(a:List iY×bM)(t:cS):List iY×bM:=(a.1++(eA a.2 t).1,(eA a.2 t).2)
def qB(s:bM):bM:=s.DE (s.A.drop (oy s.now 2 s.A))
def lM(s:bM):List cS:=s.A.take (oy s.now 2 s.A)
def jj(s:bM):List iY×bM:=
 if 1073741824≤s.now then([],s)
 else
  let s1:=s.cq (s.now+1)
  let r:=(lM s1).foldl oX ([],qB s1)
  let q:=fW r.2 r.2.now
  (r.1++q.2,bz q.1 q.2)
def qC(s:bM)(e:se):Int×bM:=((gm s e.dy e.aa e.sum e.n s.now).1.2,if(gm s e.dy e.aa e.sum e.n s.now).1.2=0 then Gb (gm s e.dy e.aa e.sum e.n s.now).2 e.sum else(gm s e.dy e.aa e.sum e.n s.now).2)
def oY(s:bM)(e:se):Int×bM:=
 if e.kind=7 then mS s e.dy e.ref e.bZ
 else if e.kind=8 then kQ s e.dy e.ref s.now
 else if e.kind=9 then fh s e.dy e.aa e.iV e.level e.n
 else if e.kind=10 then gO s e.dy e.aa s.now
 else kR s e.dy e.aa s.now
def jF(H:bn→bU)(s:bM)(e:se):Int×bM:=
 if ee e=true then
  if e.kind=1 then(iu s.fs s.K e.dy e.iV e.n,s.iP (fg s.fs s.K e.dy e.iV e.n))
  else if e.kind=2 then((de H s e.dy e.call).1.2,(de H s e.dy e.call).2)
  else if e.kind=3 then nt s e.dy e.sum
  else if e.kind=4 then qC s e
  else if e.kind=5 then j7 s e.dy e.ref
  else if e.kind=6 then eu s e.dy e.ref
  else oY s e
 else(1,s)
end
section
open Go.RowKit
variable{e:TypeId}{z u:Value}{α:Type}{w w2:World}{b:Nat}{x:bU}{cs:Array Value}{c:bn}{col:Nat→Nat}{n:Int}
theorem QL:Tryz.prog.underlying 144=some (.map 31 142):=by kernel_rfl
theorem agM:Tryz.prog.underlying 145=some (.map 31 3):=by kernel_rfl
def Yj:Array Value:=#[.int .i64 0,.int .i64 0,.int .i64 0,.slice none 0 0,.int .i64 0]
theorem zeroV(hz:(Tryz.prog.info? e).map (·.zero)=some (some z))(w:World):(zeroValue e).run Tryz.prog w=.ok z w:=by
 cases hq:Tryz.prog.info? e with
 |none=>simp[hq]at hz
 |some i=>simp only[hq,ay9,ay8]at hz;simp[zeroValue,typeInfo,hq,hz]
theorem agN(w:World):(zeroValue 142).run Tryz.prog w=.ok (.agg Yj) w:=zeroV kr w
theorem z3(w:World):(zeroValue 3).run Tryz.prog w=.ok (.int .i64 0) w:=zeroV kr w
theorem fV.QM{R:α→Value→Prop}{L:List (bU×α)}(h:fV w b R L){t k:TypeId}(K:Dz k)(ht:Tryz.prog.underlying t=some (.map k e))(hz:∀w,(zeroValue e).run Tryz.prog w=.ok z w)(x:bU)(ok:Bool):∃v,(match kO L x with|some a=>R a v|none=>v=z)∧∀w',w'.heap[b]?=w.heap[b]?→(Instr.lookup t (.map (some b)) (dS x) ok).run Tryz.prog w'=.ok (if ok then .tuple #[v,.bool (kO L x).isSome]else v) w':=by
 obtain⟨es,c,hb,hk,hr,_,_⟩:=h.out;have pX:es.toList.map (·.key)=(L.map (·.1)).map dS:=by rw[hk,azU];rfl
 have hf:=fun w'=>nj K w' x es.toList (L.map (·.1)) pX;have hlen:es.size=L.length:=by have:=congrArg List.length hk;simpa using this
 unfold kO;rw[show((L.map (·.1)).findIdx? fun y=>decide (x=y))=jR L x from rfl]at hf;cases hq:jR L x with
 |none=>rw[hq]at hf;refine⟨z,rfl,fun w' hw=>?_⟩;rw[hb]at hw;cases ok<;>simp[Instr.lookup,run_underlying ht,MapKept.run_getObj_map hw,jD K,hf,hz]
 |some i=>
  rw[hq]at hf;obtain⟨a,ha⟩:=lD hq;have hi:i<es.size:=by rw[hlen];exact(ays.1 ha).1
  have he:es[i]?=some es[i]:=azw hi;have hv:((es.toList[i]?).map (·.val)).getD undef=(es[i]).val:=by rw[ayt,he];rfl
  refine⟨(es[i]).val,?_,fun w' hw=>?_⟩;·simp only[aAy,ha,ay9];exact hr i _ _ he ha
  ·rw[hb]at hw;simp only[ay9,hv]at hf;cases ok<;>simp[Instr.lookup,run_underlying ht,MapKept.run_getObj_map hw,jD K,hf,ha]
section
variable{w w2:World}{col:Nat→Nat}{f:CF}{m:CV}{s:bM}{pp pn pw:Nat}{N N':tS}{W W':oH}
theorem PC.ym(h:PC w col pp pn pw N W)(ht:au (fun b=>b=pn) w w2)(hm:fV w2 pn (Fv w fun b=>col b=0) N'):PC w2 col pp pn pw N' W:=⟨let⟨t,hb⟩:=h.fA;⟨t,hb.turns ht fun q=>by have:=h.cp;rw[q,h.cn]at this;cases this⟩,hm.mono fun x v q=>q.carry fun b arr ty hz hb=>⟨hb.turns ht (fun q=>(by subst q;rw[h.cn]at hz;cases hz)),hz⟩,h.zx.yj ht fun q=>h.ne q.symm,h.cp,h.cn,h.cw,h.ne⟩
theorem PC.vD(h:PC w col pp pn pw N W)(ht:au (fun b=>b=pw) w w2)(hm:fV w2 pw Pt W'):PC w2 col pp pn pw N W':=⟨let⟨t,hb⟩:=h.fA;⟨t,hb.turns ht fun q=>by have:=h.cp;rw[q,h.cw]at this;cases this⟩,(h.notes.mono fun x v q=>q.carry fun b arr ty hz hb=>⟨hb.turns ht (fun q=>(by subst q;rw[h.cw]at hz;cases hz)),hz⟩).yj ht fun q=>h.ne q,hm,h.cp,h.cn,h.cw,h.ne⟩
theorem xf(h:Ch w col f m s){y:bn×Int}(hx:kO s.N x=some y):∃cs,bw w (fun b=>col b=0) cs y.1∧∀w',Bw w w'→(Instr.lookup 144 (.map (some f.pn)) (dS x) true).run Tryz.prog w'=.ok (.tuple #[.agg (cs.push (.int .i64 y.2)),.bool true]) w':=by obtain⟨v,hv,hr⟩:=h.pre.notes.QM K31 QL agN x true;rw[hx]at hv hr;obtain⟨cs,rfl,hc⟩:=hv;exact⟨cs,hc,fun w' hb=>hr w' (hb.block _ h.pre.notes.lt)⟩
theorem xg(h:Ch w col f m s)(hx:kO s.N x=none):(Instr.lookup 144 (.map (some f.pn)) (dS x) true).run Tryz.prog w=.ok (.tuple #[.agg Yj,.bool false]) w:=by obtain⟨v,hv,hr⟩:=h.pre.notes.QM K31 QL agN x true;rw[hx]at hv hr;subst hv;exact hr w rfl
theorem kf(h:Ch w col f m s)(x:bU):(Instr.lookup 145 (.map (some f.pw)) (dS x) false).run Tryz.prog w=.ok (.int .i64 (kI s.W x)) w:=by
 obtain⟨v,hv,hr⟩:=h.pre.zx.QM K31 agM z3 x false
 have:v=.int .i64 (kI s.W x):=by
  unfold kI;cases hq:kO s.W x with
  |none=>rw[hq]at hv;exact hv
  |some a=>rw[hq]at hv;exact hv
 subst this;exact hr w rfl
theorem QN(h:Ch w col f m s)(ty:TypeId):(Builtin.len_ #[144] ty #[.map (some f.pn)]).run Tryz.prog w=.ok (.int .i64 s.N.length) w:=h.pre.notes.len QL ty
theorem Ih(L:List (bU×α))(x:bU)(a0:α):jR (th L x a0) x=some (zw L x):=by
 unfold th zw;cases hq:jR L x with
 |some i=>exact hq
 |none=>unfold jR at*;rw[aAi,List.findIdx?_append,hq];simp
theorem nL(W:oH)(x:bU):kI (th W x 0) x=kI W x:=by
 unfold kI kO;rw[Ih];unfold th zw;cases hq:jR W x with
 |some i=>simp
 |none=>simp
theorem DC.below{w w2:World}{R:α→Value→Prop}{L:List (bU×α)}{i s:Nat}(h:DC w b R L i s)(hb:Bw w w2):DC w2 b R L i s:=h.same (hb.block b h.lt)
theorem QO(L:List (bU×α))(x:bU)(a:α):(tf L x a).length≤L.length+1:=by unfold tf;split<;>simp
theorem agO(h:Ch w col f m s)(hc:bw w (fun b=>col b=0) cs c)(x:bU)(a:Int)(hl:s.N.length<6):∃w2,(Instr.mapUpdate 144 (.map (some f.pn)) (dS x) (.agg (cs.push (.int .i64 a)))).run Tryz.prog w=.ok () w2∧Out w col m s w2 col f m (s.ym (tf s.N x (c,a))):=by obtain⟨w2,hr,ht,_,hm⟩:=h.pre.notes.upd K31 QL x (a:=(c,a)) ⟨cs,rfl,hc⟩;exact⟨w2,hr,h.JD (h.pre.ym ht hm) ht (fun b q=>by subst q;exact h.pre.cn) (h.inv.ym (by have:=QO s.N x (c,a);omega))⟩
theorem Ii(h:Ch w col f m s)(x:bU):∃w2 k,(Instr.mapEntry 145 (.map (some f.pw)) (dS x)).run Tryz.prog w=.ok (.tuple #[.int .i64 (kI s.W x),.int .i64 (k:Nat)]) w2∧Out w col m s w2 col f m (s.vD (th s.W x 0))∧DC w2 f.pw Pt (th s.W x 0) (zw s.W x) k:=by
 obtain⟨w2,v,k,hr,ht,_,hv,he⟩:=h.pre.zx.ent K31 agM (z3 w) (a0:=0) rfl x;have:v=.int .i64 (kI s.W x):=hv;subst this;have hm:fV w2 f.pw Pt (th s.W x 0):=by obtain⟨es,c,h1,h2,h3,h4,h5,_⟩:=he.out;exact⟨es,c,h1,h2,h3,h4,h5⟩
 exact⟨w2,k,hr,h.JD (h.pre.vD ht hm) ht (fun b q=>by subst q;exact h.pre.cw) (h.inv.vD _),he⟩
theorem Uy(L:List (bU×α))(x:bU)(a0:α):∃a,(th L x a0)[zw L x]?=some (x,a):=by
 unfold th zw;cases hq:jR L x with
 |some i=>obtain⟨a,ha⟩:=lD hq;exact⟨a,ha⟩
 |none=>exact⟨a0,by simp⟩
theorem Ij{W:oH}(h:Ch w col f m (s.vD (th W x 0))){k:Nat}(he:DC w f.pw Pt (th W x 0) (zw W x) k)(n:Int):∃w2,(Instr.entryStore 145 (.map (some f.pw)) (.int .i64 (k:Nat)) (.int .i64 n)).run Tryz.prog w=.ok () w2∧Out w col m (s.vD (th W x 0)) w2 col f m (s.vD (tf W x n)):=by obtain⟨a,ha⟩:=Uy W x 0;obtain⟨w2,hr,ht,_,hm⟩:=he.store ha (a:=n) (u:=.int .i64 n) rfl 145;rw[Pr]at hm;exact⟨w2,hr,h.JD (W':=tf W x n) (h.pre.vD ht hm) ht (fun b q=>by subst q;exact h.pre.cw) ((h.inv.vD (tf W x n)))⟩
end
section
variable{r:Option Nat}{ops:Array Oper}{Q:Exit→Act→World→Prop}{a:Act}{w w2:World}{rest:List Oper}{o:Oper}{x y z:Operand}{t:TypeId}{v vm vk:Value}{ok:Bool}
theorem yA(hr:(Instr.lookup t vm vk ok).run Tryz.prog w=.ok v w)(hx:a.eval x=vm)(hy:a.eval y=vk)(ho:o.op=.lookup t x y ok:=by rfl):(execOp a.eval o).run Tryz.prog w=.ok (.value v) w:=by unfold execOp;simp only[ho,hx,hy,Sem.run_bind,hr,Result.andThen_ok,Sem.run_pure]
theorem abI(hr:∀ty,(Builtin.len_ #[t] ty #[vm]).run Tryz.prog w=.ok v w)(hx:a.eval x=vm)(ho:o.op=.call {callee:=.builtin .len,args:=#[x],argTypes:=#[t]}:=by rfl):(execOp a.eval o).run Tryz.prog w=.ok (.value v) w:=by unfold execOp;simp[ho,hx,resolve,invoke,builtin,hr]
theorem anO(hr:(Instr.mapUpdate t vm vk u).run Tryz.prog w=.ok () w2)(hx:a.eval x=vm)(hy:a.eval y=vk)(hz:a.eval z=u)(h:WL r ops Q rest (a.put o.dst undef) w2)(ho:o.op=.mapUpdate t x y z:=by rfl)(hw:Region.wanted o (yielded ops a.tmps)=true:=by rfl):WL r ops Q (o::rest) a w:=by refine Ok (w2:=w2) ?_ h (fun c hc=>by rw[ho]at hc;cases hc) hw;unfold execOp;simp only[ho,hx,hy,hz,Sem.run_bind,hr,Result.andThen_ok,Sem.run_pure]
theorem abJ(hr:(Instr.mapEntry t vm vk).run Tryz.prog w=.ok v w2)(hx:a.eval x=vm)(hy:a.eval y=vk)(h:WL r ops Q rest (a.put o.dst v) w2)(ho:o.op=.mapEntry t x y:=by rfl)(hw:Region.wanted o (yielded ops a.tmps)=true:=by rfl):WL r ops Q (o::rest) a w:=by refine qb (v:=v) (w2:=w2) ?_ h (fun c hc=>by rw[ho]at hc;cases hc) hw;unfold execOp;simp only[ho,hx,hy,Sem.run_bind,hr,Result.andThen_ok,Sem.run_pure]
theorem abK(hr:(Instr.entryStore t vm vk u).run Tryz.prog w=.ok () w2)(hx:a.eval x=vm)(hy:a.eval y=vk)(hz:a.eval z=u)(h:WL r ops Q rest (a.put o.dst undef) w2)(ho:o.op=.entryStore t x y z:=by rfl)(hw:Region.wanted o (yielded ops a.tmps)=true:=by rfl):WL r ops Q (o::rest) a w:=by refine Ok (w2:=w2) ?_ h (fun c hc=>by rw[ho]at hc;cases hc) hw;unfold execOp;simp only[ho,hx,hy,hz,Sem.run_bind,hr,Result.andThen_ok,Sem.run_pure]
end
theorem Ad:∀b,col b=0→¬own (col b):=fun b h=>by rw[h];exact kU
theorem iz(h:bU):(aJ h).extract 0 (0+32)=aJ h:=by rw[show 0+32=(aJ h).size from by rw[bd]];exact az4
theorem Ae(h:∀u∈cs.toList,u.oneCell'=true):∀u∈(cs.push (.int .i64 n)).toList,u.oneCell'=true:=by
 intro u hu;simp only[Array.toList_push,azk,List.mem_singleton]at hu;rcases hu with hu|rfl;·exact h u hu
 ·rfl
theorem QQ{v:Value}(h:cs.size=4):(cs.push v).extract 0 (0+4)=cs:=by
 apply ayW;intro i;rw[ayz,azm];split;·rw[if_neg om];simp
 ·rw[ayN (by simp at*;omega)]
theorem abM{a:Act}{o:Oper}{x y:Operand}(hx:a.eval x=.agg cs)(hy:a.eval y=.int .i64 n)(hs:cs.size=4)(ho:o.op=.build 142 #[(0,x),(1,y)]:=by rfl):(execOp a.eval o).run Tryz.prog w=.ok (.value (.agg (cs.push (.int .i64 n)))) w:=by
 obtain⟨l⟩:=cs;match l,hs with
 |[p,q,r,s],_=>
  have e:(Instr.build 142 #[(0,.agg #[p,q,r,s]),(1,.int .i64 n)]).run Tryz.prog w=.ok (.agg #[p,q,r,s,.int .i64 n]) w:=by kernel_rfl
  unfold execOp;simp[ho,hx,hy,Sem.run_bind,e]
theorem bw.out{et:Nat→Nat}{f:CF}{m m2:CV}{s s2:bM}(hc:bw w (fun b=>col b=0) cs c)(h:Out w col m s w2 et f m2 s2):bw w2 (fun b=>et b=0) cs c:=hc.carry fun b a t hz q=>⟨q.turns h.tn (Ad b hz),(h.fp b q.lt).trans hz⟩
def agP(i:Nat):Int:=if i=9∨i=10∨i=11∨i=12∨i=13∨i=32 then 1 else 0
def Bi(w:World):Prop:=∃arr t,j0 w 1 arr t∧∀i,i<256→arr[i]?=some (.int .u8 (agP i))
theorem Bi.turns{S:Nat→Prop}(h:Bi w)(ht:au S w w2)(hn:¬S 1):Bi w2:=let⟨arr,t,hb,ha⟩:=h;⟨arr,t,hb.turns ht hn,ha⟩
theorem Bi.below(h:Bi w)(hb:Bw w w2):Bi w2:=let⟨arr,t,hq,ha⟩:=h;⟨arr,t,hq.below hb,ha⟩
def Uz(H:bn→bU):Prop:=∀(w:World) (Z:Nat→Prop) (cs:Array Value) (c:bn),Bi w→bw w Z cs c→CB 70 #[.agg cs] w (.agg (aJ (H c)))
end
end Go.Proofs.YtdkpbpjcbkibiaaGreatDoor.B
