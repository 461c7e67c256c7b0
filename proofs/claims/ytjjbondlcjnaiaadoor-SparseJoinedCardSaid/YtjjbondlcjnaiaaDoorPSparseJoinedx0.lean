-- written by a program of this session, after the kit's print
import Derived.Test.YtjjbondlcjnaiaaDoorProg
import Derived.Shelf.Abstract
import Derived.WalkSpells
import Derived.Shelf.Small.Bits
import Derived.Ground.Names2Prog
import Derived.Maps.Own
import Derived.Maps.OwnOps
import Derived.Maps.Views
import Derived.Maps.RangeWalk
import Derived.StillTailTactics
import Derived.Deep.RegionLaw
import Derived.Test.YtjjbondlcjnaiaaDoorWFour
import Derived.Test.YtjjbondlcjnaiaaDoorWAt
import Derived.Test.YtjjbondlcjnaiaaDoorWEqStruct
import Derived.Test.YtjjbondlcjnaiaaDoorWRepsOne
import Derived.Test.YtjjbondlcjnaiaaDoorWInvWords
import Derived.Test.YtjjbondlcjnaiaaDoorWGuard
import Derived.Test.YtjjbondlcjnaiaaDoorWMore
namespace Go.Proofs.YtjjbondlcjnaiaaDoor.PSparseJoined
open Go.RowKit Go.Proofs.YtjjbondlcjnaiaaDoorW.PrintWords Go.Proofs.YtjjbondlcjnaiaaDoorW.PrintLast Go.Proofs.YtjjbondlcjnaiaaDoorW.PrintMore
attribute [local go_sem] max2_int min2_int max_two min_two max_three min_three max_four min_four
set_option linter.unusedVariables false
set_option linter.unusedSimpArgs false
def errW:Option Int→Value
 |none=> .nilIface
 |some c=> .iface 0 (.int .i64 c)
theorem errW_none:errW none= .nilIface:=rfl
theorem errW_some(c:Int):errW (some c)= .iface 0 (.int .i64 c):=rfl
def FnAny(g:Nat)(lb:Array Value)(x:Value)(b:Bool)(W:World):Prop:=
 Calls Tryd.prog g (#[x] ++lb) W fun e w'=>e= .returned (.bool b)∧Below W.heap.size W w'
theorem rr_len{α:Type}{R:α→List Value→Prop}{sz:Nat}{w:World}{A:Option Addr}{n m:Nat}{xs:List α}(h:n=m)(hc:ReadsRow R sz w A n xs):ReadsRow R sz w A m xs:=h▸hc
theorem R_make0{P:Program}{ops:Array Oper}{rest:List Oper}{o:Oper}{a:Act}{Q:Exit→Act→World→Prop}{α:Type}(d:Kd α){w0 W:World}(base e:Nat)(hgd:o.guard=none){N:Tmp}(hd:o.dst=some N)(t:TypeId)(x y:Operand)(ho:o.op= .makeSlice t x y)(n:Int)(hx:a.eval x= .int .i64 0)(hy:a.eval y= .int .i64 n)
  (ht:P.underlying t=some (.slice e)) (z:Value) (bytes:Nat) (hinfo:(P.info? e).map (fun i=>(i.zero,i.size,i.bytes))=some (some z,d.sz,bytes)) (hz:z.cells.size=d.sz) (hs0:0< d.sz) (hb0:0< bytes)
  (z0:α) {ok okp:Nat→Prop} (hzero:d.M W base okp z0 z.cells.toList) (hok: ∀k,okp k→ok k) (hfresh:ok W.heap.size) (h0:0≤n) (hl:n.toNat * bytes≤281474976710656) (HB:Below base w0 W) (hbase:base≤W.heap.size)
  (h: ∀v1 w1,d.R e w1 base ok v1 (List.replicate 0 z0)→Below base w0 w1→W.grownBy w1 none→(∃b,v1.ownBlock=some b∧W.heap.size≤b)→wpList P ops Q rest (a.put o.dst v1) w1):wpList P ops Q (o::rest) a W:=by
 obtain⟨m,rfl⟩:=Int.eq_ofNat_of_zero_le h0;simp only[Int.toNat_natCast]at hl;obtain⟨i0,hi,hzz⟩:=Option.map_eq_some_iff.1 hinfo;simp only[Prod.mk.injEq]at hzz;obtain⟨hz0,hz1,hz2⟩:=hzz;have hm:m≤281474976710656:=Nat.le_trans (Nat.le_mul_of_pos_right _ hb0) hl;have hr:=run_make (P:=P) W t e i0 z ht hi hz0 .i64 .i64 0 (m:Int) (by omega) (by omega)
  (by
   have h3:((i0.bytes * m:Nat):Int)≤281474976710656:=by rw[hz2,Nat.mul_comm];omega
   rwa [Int.natCast_mul]at h3) (by omega)
 simp only[Int.toNat_natCast]at hr;rw[hz1]at hr;have hrep:=Kd.reps_made (R:=d.M W base okp) hz hs0 hzero m;refine Kd.event_run hgd (by simp[execOp,ho,hx,hy,hr];exact⟨rfl,rfl⟩) (h _ _ ⟨fun k hk=>?_,[],?_,Reps.none _ _⟩ (HB.alloc hbase _) (World.grownBy_alloc W _ none) ⟨W.heap.size,by simp[Value.ownBlock],Nat.le_refl _⟩)
 ·have:W.heap.size=k:=by simpa [Value.ownBlock]using hk
  subst this;exact hfresh
 ·have h2:=World.ownsRow_lit (base:=base) (e:=e) (size:=d.sz) W (madeCells z.cells (m * d.sz)) m hbase (by simp[maxLen];omega) (by simpa using hrep.1);have h3:=own_take h2 (Nat.zero_le m)
  simpa using h3
theorem slice_form{w:World}{base:Nat}{e:TypeId}{n:Nat}{v:Value}{xs:List Value}(h:w.ownsRow base e 1 v n xs)(hb: ∃b,v.ownBlock=some b): ∃g cap,v= .slice (some ⟨g,0,none⟩) n cap:=by
 rcases h.2 with ⟨rfl,_⟩ | ⟨g,cap,cur,rfl,_⟩
 ·obtain⟨b,hb⟩:=hb;cases hb
 ·exact⟨g,cap,rfl⟩
theorem bQ{B:Nat}{W W':World}(h:Below B W W':=by repeat(first| (with_reducible first|exact HB.out|apply below_alloc|apply pw_below_drewN|apply below_drew1|refine below_set ?_ (Aside0.out (by assumption))) |exact HB.out)):Below B W W':=h
theorem kQ{W W':World}{g:Nat}{o:Obj}(h:W.heap[g]? =some o)(h':W'.heap[g]? =some o:=by(with_reducible repeat(first|refine blk_drewN ?_ _|refine blk_drew ?_|refine blk_alloc ?_ _));exact Aside0.out (by assumption)):W'.heap[g]? =some o:=h'
theorem pRQ{α:Type}{d:Kd α}{e b:Nat}{ok:Nat→Prop}{v:Value}{xs:List α}{W W':World}(h:d.R e W b ok v xs)(h':d.R e W' b ok v xs:=by(with_reducible repeat(first|apply Kd.R_alloc|apply Kd.R_drewN|apply Kd.R_drew));exact Aside0.out (by assumption)):d.R e W' b ok v xs:=h'
theorem pVQ{α:Type}{d:Kd α}{e b:Nat}{ok:Nat→Prop}{v:Value}{xs:List α}{W W':World}(h:Kd.V d e W b ok v xs)(h':Kd.V d e W' b ok v xs:=by(with_reducible repeat(first|apply Kd.V_alloc|apply Kd.V_drewN|apply Kd.V_drew));exact Aside0.out (by assumption)):Kd.V d e W' b ok v xs:=h'
theorem pNQ{α:Type}{d:Kd α}{e b:Nat}{ok:Nat→Prop}{v:Value}{xs:List α}{W W':World}(h:Kd.N d e W b ok v xs)(h':Kd.N d e W' b ok v xs:=by(with_reducible repeat(first|apply Kd.N_alloc|apply Kd.N_drewN|apply Kd.N_drew));exact Aside0.out (by assumption)):Kd.N d e W' b ok v xs:=h'
theorem dQ{p:Prop}[Decidable p](h:decide p=true:=by first| (with_reducible assumption) |assumption):p:=of_decide_eq_true h
theorem eQ{p:Prop}(h:p:=by first|rfl| (simp[errW_none,errW_some] <;>rfl) | (simp[*,errW_none,errW_some] <;>rfl)):p:=h
theorem c4Q{W:World}{g t:Nat}{a b c d:Value}(h:W.heap[g]? =some (.cells #[a,b,c,d] t (0,0))):W.cell? ⟨g,0,none⟩=some a∧W.cell? ⟨g,1,none⟩=some b∧W.cell? ⟨g,2,none⟩=some c∧W.cell? ⟨g,3,none⟩=some d∧
  W.frozen? ⟨g,0,none⟩=false∧W.frozen? ⟨g,1,none⟩=false∧W.frozen? ⟨g,2,none⟩=false∧W.frozen? ⟨g,3,none⟩=false:=
 ⟨(blk_cell h 0).trans rfl,(blk_cell h 1).trans rfl,(blk_cell h 2).trans rfl,(blk_cell h 3).trans rfl,blk_frozen h 0,blk_frozen h 1,blk_frozen h 2,blk_frozen h 3⟩
theorem cQ{α:Type}{d:Kd α}{A:Option Addr}{n:Nat}{xs:List α}{W W':World}(h:d.C W A n xs)(g:d.C W A n xs→d.C W' A n xs:=by intro h_;repeat(first|exact h_| (with_reducible refine Kd.C_alloc ?_ _) | (with_reducible refine Kd.C_drewN ?_ _) | (with_reducible refine Kd.C_drew ?_))):d.C W' A n xs:=g h
theorem mQ{p:Prop}(h:p:=by(try simp only[List.map_toArray,List.map_cons,List.map_nil]);first|done|rfl| (simp only[List.length_drop,List.length_take];rfl)):p:=h
theorem aI{p q:Prop}(h:p)(k:q):Aside0 p∧q:=⟨⟨h⟩,k⟩
abbrev T_:Bool:=true
abbrev F_:Bool:=false
def Mg:Nat→Nat→List Bool
 |0,_=> []
 |n+1,k=>(k % 2==1)::Mg n (k / 2)
def M_(n k:Nat):Array Bool:=(Mg n k).toArray
theorem nF: ¬(false=true):=by decide
section
variable {P:Program} {ops:Array Oper} {rest:List Oper} {Q:Exit→Act→World→Prop} {md:Region.Mode} {S:World→Prop} {ds:List Nat} {fuel:Nat} {l:Array Bool} {a a' b:Act} {w W W' w1 w2:World} {oi o:Oper} {v:Value} {g g' t:Nat} {cs:Array Value} {ob:Obj}
theorem pu_(i:Nat)(N:Option Tmp)(l':Array Bool)(h:wpAnyLast P md ops Q S ds fuel l' a' w)(hi:ops[i]? =some oi:=by exact rfl)(hN:oi.dst=N:=by exact rfl)(hc:anyB md ops l l' i=true:=by first|exact any_of (Aside0.out HT_) (by kernel_rfl) |kernel_rfl)(hQ: ∀c a w,Q (.panic c) (a.put oi.dst v) w→Q (.panic c) a w:=by exact fun _ _ _ h=>h)(hy:Yields P ops oi v a:=by refine Or.inl ⟨by rfl,?_⟩;intro w';go_simp;with_reducible rfl)(ha:a.put N v=a':=by simp only[Act.put,List.setIfInBounds_toArray,List.set_cons_zero,List.set_cons_succ,i64_w,i32_w];rfl):wpAnyLast P md ops Q S ds (fuel+1) l a w:=pure_ l' hi hN hc hQ hy ha h
theorem ta_(i:Nat)(N:Option Tmp)(l':Array Bool)(hS:S w)(h:wpAnyLast P md ops Q S ds fuel l' a' w)(hi:ops[i]? =some oi:=by exact rfl)(hN:oi.dst=N:=by exact rfl)(hc:takeB md ops ds l l' i=true:=by first|exact take_ofW (Aside0.out HT_) (Aside0.out HW_) (by kernel_rfl) |kernel_rfl)(hQ: ∀c a w,Q (.panic c) (a.put oi.dst v) w→Q (.panic c) a w:=by exact fun _ _ _ h=>h)(hy:YieldsIf P ops S oi v a:=by refine Or.inl ⟨by rfl,?_⟩;intro w' hS_;(repeat(have s_:=And.left hS_;replace hS_:=And.right hS_));go_simp;with_reducible rfl)(ha:a.put N v=a':=by simp only[Act.put,List.setIfInBounds_toArray,List.set_cons_zero,List.set_cons_succ,i64_w,i32_w];rfl):wpAnyLast P md ops Q S ds (fuel+1) l a w:=take_ l' hi hN hc hQ hy hS ha h
theorem no_(n:Nat)(h:wpAnyLast P md ops Q S ds fuel l a' w)(hb:a=b.put (some n) v:=by exact rfl)(ha:b.put (some n) v=a':=by simp only[Act.put,List.setIfInBounds_toArray,List.set_cons_zero,List.set_cons_succ,i64_w,i32_w];rfl):wpAnyLast P md ops Q S ds fuel l a w:=norm_ (hb.trans ha) h
theorem bx_(N:Tmp)(cs:Array Value)(t:TypeId)(h: ∀g,g=W.heap.size→ ∀w1,w1.heap[g]? =some (.cells cs t (0,0))→Below W.heap.size W w1→wpList P ops Q rest (a.put o.dst (.pointer (some ⟨g,0,none⟩))) w1)(hd:o.dst=some N:=by exact rfl)(hgd:o.guard=none:=by exact rfl)
  (hr:(execOp a.eval o).run P W= .ok (.value (.pointer (some ⟨W.heap.size,0,none⟩))) (W.alloc (.cells cs t (0,0))):=by first| (go_simp;done) | (go_simp;rfl)):wpList P ops Q (o::rest) a W:=box_event hgd hd hr h
theorem gQ(w:World)(hg:g=W.heap.size)(h:Below w.heap.size w W:=by exact bQ):w.heap.size≤g:=by rw[hg];exact below_size h
theorem lQ(hg:g'=W.heap.size)(h:W.heap[g]? =some ob):g≠g':=by rw[hg];exact Nat.ne_of_lt (blk_lt h)
theorem mQ'(hg:g'=W.heap.size)(h:W.heap[g]? =some ob):g'≠g:=(lQ hg h).symm
theorem bC(h:W.heap[g]? =some (.cells cs t (0,0)))(i:Nat)(e:cs[i]? =some v:=by rfl):W.cell? ⟨g,i,none⟩=some v:=(blk_cell h i).trans e
theorem cE{A:Addr}(hb:Below w.heap.size w W)(h:w.cell? A=some v):W.cell? A=some v:=(hb.cell (World.block_lt_of_cell? w _ h)).trans h
theorem bO{α β:Type}{x:Option α}{f:α→Option β}{r:β}(h:x.bind f=some r): ∃t,Aside0 (x=some t)∧f t=some r:=by
 obtain⟨t,a,b⟩:=Option.bind_eq_some_iff.mp h
 exact⟨t,⟨a⟩,b⟩
theorem by_{α β:Type}{x y:α}{f:α→Option β}{r:Option β}(e:y=x)(h:(some x).bind f=r):f y=r:=by
 subst e
 exact h
theorem si_{A B:Option Addr}{n m c d:Nat}(h:Value.slice A n c= .slice B m d):B=A∧d=c:=by
 injection h with h1 h2 h3
 exact⟨h1.symm,h3.symm⟩
theorem dK{n:Nat}(hq:World.drewN W n=W')(h:(World.drewN W n).heap[g]? =some ob):Aside0 (W'.heap[g]? =some ob):=⟨by rw[←hq];exact h⟩
theorem dB{n:Nat}(w:World)(hq:World.drewN W n=W')(h:Below w.heap.size w (World.drewN W n):=by exact bQ):Aside0 (Below w.heap.size w W'):=⟨by rw[←hq];exact h⟩
theorem kB(h:Aside0 (w1.heap[g]? =some ob))(hb:Below W.heap.size W w2)(h':W.heap[g]? =some ob:=by(with_reducible repeat(first|refine blk_drewN ?_ _|refine blk_drew ?_|refine blk_alloc ?_ _));exact Aside0.out (by assumption)):Aside0 (w2.heap[g]? =some ob):=⟨blk_below h' hb⟩
theorem hsQ(hb:Below W.heap.size W w2)(h:Below w.heap.size w W:=by exact bQ):Aside0 (Below w.heap.size w w2):=⟨below_step h hb⟩
theorem rL{α:Type}{d:Kd α}{e:Nat}{ok:Nat→Prop}{xs:List α}(w:World)(h:d.R e w2 W.heap.size ok v xs)(hb:Below w.heap.size w W:=by exact bQ):Aside0 (d.R e w2 w.heap.size ok v xs):=⟨Kd.R_lower h (below_size hb)⟩
theorem rB{α:Type}{d:Kd α}{e n:Nat}{ok:Nat→Prop}{xs:List α}(h:Aside0 (d.R e w1 n ok v xs))(hb:Below W.heap.size W w2)(h':d.R e W n ok v xs:=by(with_reducible repeat(first|apply Kd.R_alloc|apply Kd.R_drewN|apply Kd.R_drew));exact Aside0.out (by assumption)):Aside0 (d.R e w2 n ok v xs):=⟨Kd.R_below h' hb⟩
theorem vB{α:Type}{d:Kd α}{e n:Nat}{ok:Nat→Prop}{xs:List α}(h:Aside0 (Kd.V d e w1 n ok v xs))(hb:Below W.heap.size W w2)(h':Kd.V d e W n ok v xs:=by(with_reducible repeat(first|apply Kd.V_alloc|apply Kd.V_drewN|apply Kd.V_drew));exact Aside0.out (by assumption)):Aside0 (Kd.V d e w2 n ok v xs):=⟨Kd.V_below h' hb⟩
theorem nB{α:Type}{d:Kd α}{e n:Nat}{ok:Nat→Prop}{xs:List α}(h:Aside0 (Kd.N d e w1 n ok v xs))(hb:Below W.heap.size W w2)(h':Kd.N d e W n ok v xs:=by(with_reducible repeat(first|apply Kd.N_alloc|apply Kd.N_drewN|apply Kd.N_drew));exact Aside0.out (by assumption)):Aside0 (Kd.N d e w2 n ok v xs):=⟨Kd.N_below h' hb⟩
theorem gD(N:Tmp)(h:wpList P ops Q (o::rest) a W)(hN:o.dst=some N:=by with_reducible exact rfl):wpList P ops Q (o::rest) a W:=h
theorem gF(f:FuncId){xs:Array Operand}{ts:Array TypeId}(h:wpList P ops Q (o::rest) a W)(ho:o.op= .call { callee:= .value (.func f),args:=xs,argTypes:=ts} :=by with_reducible exact rfl):wpList P ops Q (o::rest) a W:=h
theorem gl_(N:Option Tmp){f:FuncId}{fn:Func}(hf:P.funcs[f]? =some fn){xs:Array Operand}{ts:Array TypeId}(args:Array Value)(h:Calls P f args W fun e w'=> ∃v,e= .returned v∧wpList P ops Q rest (a.put N v) w')
  (hd:oi.dst=N:=by exact rfl) (hg:oi.guard=none:=by exact rfl) (hop:oi.op= .call { callee:= .value (.func f),args:=xs,argTypes:=ts} :=by exact rfl) (hname:(fn.name== "runtime.NumGoroutine")=false:=by kernel_rfl) (hb:fn.body.isSome=true:=by exact rfl) (hargs:xs.map a.eval=args:=by exact mQ):wpList P ops Q (oi::rest) a W:=goesL_ N hd hg hf hname hb args hop hargs h
theorem bU{cs':Array Value}{u:Value}(i:Nat)(k:(W.setCell ⟨g,i,none⟩ u).heap[g]? =some (.cells cs' t (0,0))→W'.heap[g]? =some (.cells cs' t (0,0)):=by intro h_;(with_reducible repeat(first|refine blk_drewN ?_ _|refine blk_drew ?_|refine blk_alloc ?_ _));exact h_)(h:W.heap[g]? =some (.cells cs t (0,0)))(e:cs.setIfInBounds i u=cs':=by exact rfl):W'.heap[g]? =some (.cells cs' t (0,0)):=k (blk_put h i u e)
theorem bV(k:W.heap[g]? =some ob→W'.heap[g]? =some ob:=by intro h_;(with_reducible repeat(first|refine blk_drewN ?_ _|refine blk_drew ?_|refine blk_alloc ?_ _));exact h_)(h:W.heap[g]? =some ob):W'.heap[g]? =some ob:=k h
theorem rX{α:Type}{d:Kd α}{e n:Nat}{ok:Nat→Prop}{xs:List α}(k:d.R e W n ok v xs→d.R e W' n ok v xs:=by intro h_;(with_reducible repeat(first|apply Kd.R_alloc|apply Kd.R_drewN|apply Kd.R_drew));exact h_)(h:d.R e W n ok v xs):d.R e W' n ok v xs:=k h
theorem vX{α:Type}{d:Kd α}{e n:Nat}{ok:Nat→Prop}{xs:List α}(k:Kd.V d e W n ok v xs→Kd.V d e W' n ok v xs:=by intro h_;(with_reducible repeat(first|apply Kd.V_alloc|apply Kd.V_drewN|apply Kd.V_drew));exact h_)(h:Kd.V d e W n ok v xs):Kd.V d e W' n ok v xs:=k h
theorem sX{α:Type}{d:Kd α}{e n:Nat}{ok:Nat→Prop}{x:List α}(k:Kd.S d e W n ok v x→Kd.S d e W' n ok v x:=by intro h_;(with_reducible repeat(first|apply Kd.S_alloc|apply Kd.S_drewN|apply Kd.S_drew));exact h_)(h:Kd.S d e W n ok v x):Kd.S d e W' n ok v x:=k h
theorem nX{α:Type}{d:Kd α}{e n:Nat}{ok:Nat→Prop}{xs:List α}(k:Kd.N d e W n ok v xs→Kd.N d e W' n ok v xs:=by intro h_;(with_reducible repeat(first|apply Kd.N_alloc|apply Kd.N_drewN|apply Kd.N_drew));exact h_)(h:Kd.N d e W n ok v xs):Kd.N d e W' n ok v xs:=k h
theorem eS{p:Prop}(h:p:=by first|rfl| (simp;done) | (simp[*];done)):p:=h
theorem li_{α:Type}(d:Kd α)(e:Nat)(N:Tmp)(xs:List α)(inner:List Value)(hrep:Reps (d.M W W.heap.size (fun _=>True)) d.sz xs inner)
  (h: ∀v1 w1,d.R e w1 W.heap.size (fun _=>True) v1 xs→Below W.heap.size W w1→W.grownBy w1 none→(∃b,v1.ownBlock=some b∧W.heap.size≤b)→wpList P ops Q rest (a.put o.dst v1) w1) (hd:o.dst=some N:=by exact rfl) (hgd:o.guard=none:=by exact rfl)
  (hr:(execOp a.eval o).run P W= .ok (.value (.slice (some ⟨W.heap.size,0,none⟩) xs.length xs.length)) (W.alloc (.cells inner.toArray e)):=by first| (go_simp;done) | (go_simp;rfl)) (hm:xs.length≤9223372036854775807:=by simp):wpList P ops Q (o::rest) a W:=
 Kd.R_lit d _ e hgd hd (xs:=xs) (inner:=inner) (ok:=fun _=>True) (okp:=fun _=>True) hr hrep (fun _ hk=>hk) trivial (Below.refl _ _) (Nat.le_refl _) hm h
theorem ls_{α:Type}{Kc:Act→World→Prop}(d:Kd α)(e:Nat)(N:Tmp)(xs:List α)(inner:List Value)(hrep:Reps (d.M W W.heap.size (fun _=>True)) d.sz xs inner)
  (h: ∀v1 w1,d.R e w1 W.heap.size (fun _=>True) v1 xs→Below W.heap.size W w1→W.grownBy w1 none→(∃b,v1.ownBlock=some b∧W.heap.size≤b)→Kc (a.put o.dst v1) w1) (hd:o.dst=some N:=by exact rfl) (hw:Region.wanted o (yielded ops a.tmps)=true:=by exact rfl)
  (hr:(execOp a.eval o).run P W= .ok (.value (.slice (some ⟨W.heap.size,0,none⟩) xs.length xs.length)) (W.alloc (.cells inner.toArray e)):=by first| (go_simp;done) | (go_simp;rfl)) (hm:xs.length≤9223372036854775807:=by simp):if Region.wanted o (yielded ops a.tmps)=true then Oper.wp P o a W Kc Q else Kc (a.put o.dst undef) W:=
 Kd.R_lit_step d _ e hw hd (xs:=xs) (inner:=inner) (ok:=fun _=>True) (okp:=fun _=>True) hr hrep (fun _ hk=>hk) trivial (Below.refl _ _) (Nat.le_refl _) hm h
theorem nm_(h:wpAnyLast P md ops Q S ds fuel l a' w)(ha:a=a':=by first| (simp only[putAll,Act.put,List.setIfInBounds_toArray,List.set_cons_zero,List.set_cons_succ];done) | (simp only[putAll,Act.put,List.setIfInBounds_toArray,List.set_cons_zero,List.set_cons_succ];rfl)):wpAnyLast P md ops Q S ds fuel l a w:=norm_ ha h
theorem iN{α:Type}{p:Prop}[Decidable p]{x:Option α}{r:α}(h:(if p then x else none)=some r):p∧x=some r:=by
 by_cases hp:p
 ·rw[if_pos hp]at h
  exact⟨hp,h⟩
 ·rw[if_neg hp]at h
  cases h
theorem cbQ{α:Type}{d:Kd α}{A:Option Addr}{n:Nat}{xs:List α}(h:Aside0 (d.C w A n xs))(hb:Aside0 (Below w.heap.size w W))(g:d.C W A n xs→d.C W' A n xs:=by intro h_;exact cQ (h_)):d.C W' A n xs:=g (Kd.C_below h.out hb.out)
section
variable {α:Type} {d:Kd α} {e n i0 i1 i2 i3:Nat} {ok:Nat→Prop} {xs:List α} {u0 u1 u2 u3:Value} {c:Option Value} {A:Addr}
theorem rTw(h:d.R e W n ok v xs)(hk: ∀k,ok k→k≠g):d.R e ((W.setCell ⟨g,i0,none⟩ u0).setCell ⟨g,i1,none⟩ u1) n ok v xs:=Kd.R_far (p:=⟨g,i1,none⟩) (Kd.R_far (p:=⟨g,i0,none⟩) h hk u0) hk u1
theorem rFo(h:d.R e W n ok v xs)(hk: ∀k,ok k→k≠g):d.R e ((((W.setCell ⟨g,i0,none⟩ u0).setCell ⟨g,i1,none⟩ u1).setCell ⟨g,i2,none⟩ u2).setCell ⟨g,i3,none⟩ u3) n ok v xs:=rTw (rTw h hk) hk
theorem vTw(h:Kd.V d e W n ok v xs)(hk: ∀k,ok k→k≠g):Kd.V d e ((W.setCell ⟨g,i0,none⟩ u0).setCell ⟨g,i1,none⟩ u1) n ok v xs:=Kd.V_far (p:=⟨g,i1,none⟩) (Kd.V_far (p:=⟨g,i0,none⟩) h hk u0) hk u1
theorem vFo(h:Kd.V d e W n ok v xs)(hk: ∀k,ok k→k≠g):Kd.V d e ((((W.setCell ⟨g,i0,none⟩ u0).setCell ⟨g,i1,none⟩ u1).setCell ⟨g,i2,none⟩ u2).setCell ⟨g,i3,none⟩ u3) n ok v xs:=vTw (vTw h hk) hk
theorem cf2(h:A.block≠g)(e:W.cell? A=c):((W.setCell ⟨g,i0,none⟩ u0).setCell ⟨g,i1,none⟩ u1).cell? A=c:=(cell_far (p:=⟨g,i1,none⟩) h u1).trans ((cell_far (p:=⟨g,i0,none⟩) h u0).trans e)
theorem cf4(h:A.block≠g)(e:W.cell? A=c):((((W.setCell ⟨g,i0,none⟩ u0).setCell ⟨g,i1,none⟩ u1).setCell ⟨g,i2,none⟩ u2).setCell ⟨g,i3,none⟩ u3).cell? A=c:=cf2 h (cf2 h e)
end
end
theorem info3:(Tryd.prog.info? 3).map (fun i=>(i.zero,i.size,i.bytes))=some (some (.int .i64 0),1,8):=by kernel_rfl
theorem info4:(Tryd.prog.info? 4).map (fun i=>(i.zero,i.size,i.bytes))=some (some (.bool false),1,1):=by kernel_rfl
theorem info38:(Tryd.prog.info? 38).map (fun i=>(i.zero,i.size,i.bytes))=some (some (.slice none 0 0),1,24):=by kernel_rfl
theorem info40:(Tryd.prog.info? 40).map (fun i=>(i.zero,i.size,i.bytes))=some (some (.slice none 0 0),1,24):=by kernel_rfl
theorem info42:(Tryd.prog.info? 42).map (fun i=>(i.zero,i.size,i.bytes))=some (some (.agg #[(.int .i64 0),(.bool false),(.slice none 0 0),(.slice none 0 0)]),4,64):=by kernel_rfl
theorem info44:(Tryd.prog.info? 44).map (fun i=>(i.zero,i.size,i.bytes))=some (some (.agg #[(.int .i64 0),(.int .i64 0),(.int .i64 0),(.int .i64 0),(.bool false),(.slice none 0 0),(.slice none 0 0)]),7,88):=by kernel_rfl
theorem info63:(Tryd.prog.info? 63).map (fun i=>(i.zero,i.size,i.bytes))=some (some (.slice none 0 0),1,24):=by kernel_rfl
theorem info97:(Tryd.prog.info? 97).map (fun i=>(i.zero,i.size,i.bytes))=some (some (.int .u32 0),1,4):=by kernel_rfl
def rd_L3(xs:List (List Int))(i:Int):(List Int):=xs.getD i.toNat ([] :List Int)
theorem at_L3{w:World}{A:Option Addr}{n:Nat}{xs:List (List Int)}(h:Kd.C (Kd.slice 97 (Kd.int .u32)) w A n xs)(i:Int)(h0:0≤i)(h1:i< n): ∃ad A0 c0,A=some ad∧w.cell? (ad.add i.toNat)=some (.slice A0 (rd_L3 xs i).length c0)∧(rd_L3 xs i).length≤c0∧(Kd.int .u32).C w A0 (rd_L3 xs i).length (rd_L3 xs i):=by
 obtain⟨ad,c,e,_,hK,hc0⟩:=Kd.C_get h ([] :List Int) i h0 h1;have hc: ∀j u,c[j]? =some u→w.cell? (ad.add (i.toNat * 1+j))=some u:=hc0;obtain⟨A0,c0,rfl,l0,g0⟩:=hK;exact⟨ad,A0,c0,e,by have hq:=hc 0 _ rfl;rwa [Nat.mul_one,Nat.add_zero]at hq,l0,g0⟩
structure S42 where
 f0:Int
 f1:Bool
 f2:(List Int)
 f3:(List Int)
def z42:S42:=⟨(0:Int),false,([] :List Int),([] :List Int)⟩
def k42:Kd S42:=Kd.iso (Kd.pair (Kd.int .i64) (Kd.pair Kd.bool (Kd.pair (Kd.slice 97 (Kd.int .u32)) (Kd.slice 97 (Kd.int .u32))))) (fun x:S42=>(x.f0,x.f1,x.f2,x.f3))
theorem k42_heap:Kd.Heap k42:=Kd.heap_iso _ (Kd.heap_pair (Kd.heap_int .i64) (Kd.heap_pair Kd.heap_bool (Kd.heap_pair (Kd.heap_slice 97 (Kd.heap_int .u32)) (Kd.heap_slice 97 (Kd.heap_int .u32)))))
theorem k42_open{w:World}{x:S42}{cs:List Value}(h:k42.K w x cs): ∃A2 c2 A3 c3,cs= [.int .i64 x.f0,.bool x.f1,.slice A2 x.f2.length c2,.slice A3 x.f3.length c3] ∧x.f2.length≤c2∧(Kd.int .u32).C w A2 x.f2.length x.f2∧x.f3.length≤c3∧(Kd.int .u32).C w A3 x.f3.length x.f3:=by
 obtain⟨_,_,rfl,rfl,⟨_,_,rfl,rfl,⟨_,_,rfl,⟨A2,c2,rfl,l2,g2⟩,⟨A3,c3,rfl,l3,g3⟩⟩⟩⟩:=h;exact⟨A2,c2,A3,c3,rfl,l2,g2,l3,g3⟩
theorem k42_openM{w:World}{base:Nat}{ok:Nat→Prop}{x:S42}{cs:List Value}(h:k42.M w base ok x cs): ∃v2 v3,cs= [.int .i64 x.f0,.bool x.f1,v2,v3] ∧(Kd.int .u32).R 97 w base ok v2 x.f2∧(Kd.int .u32).R 97 w base ok v3 x.f3:=by
 obtain⟨_,_,rfl,rfl,⟨_,_,rfl,rfl,⟨_,_,rfl,⟨v2,rfl,g2⟩,⟨v3,rfl,g3⟩⟩⟩⟩:=h;exact⟨v2,v3,rfl,g2,g3⟩
theorem k42_mk(w:World)(x:S42){A2:Option Addr}{c2:Nat}(l2:x.f2.length≤c2)(g2:(Kd.int .u32).C w A2 x.f2.length x.f2){A3:Option Addr}{c3:Nat}(l3:x.f3.length≤c3)(g3:(Kd.int .u32).C w A3 x.f3.length x.f3):k42.K w x [.int .i64 x.f0,.bool x.f1,.slice A2 x.f2.length c2,.slice A3 x.f3.length c3] :=⟨[.int .i64 x.f0],[.bool x.f1,.slice A2 x.f2.length c2,.slice A3 x.f3.length c3],rfl,rfl,⟨[.bool x.f1],[.slice A2 x.f2.length c2,.slice A3 x.f3.length c3],rfl,rfl,⟨[.slice A2 x.f2.length c2],[.slice A3 x.f3.length c3],rfl,⟨A2,c2,rfl,l2,g2⟩,⟨A3,c3,rfl,l3,g3⟩⟩⟩⟩
theorem k42_mkM(w:World)(base:Nat)(ok:Nat→Prop)(x:S42){v2:Value}(g2:(Kd.int .u32).R 97 w base ok v2 x.f2){v3:Value}(g3:(Kd.int .u32).R 97 w base ok v3 x.f3):k42.M w base ok x [.int .i64 x.f0,.bool x.f1,v2,v3] :=⟨[.int .i64 x.f0],[.bool x.f1,v2,v3],rfl,rfl,⟨[.bool x.f1],[v2,v3],rfl,rfl,⟨[v2],[v3],rfl,⟨v2,rfl,g2⟩,⟨v3,rfl,g3⟩⟩⟩⟩
theorem k42_openF{W:World}{ok:Nat→Prop}{x:S42}{cs:List Value}(h:Kd.FK k42 W ok x cs): ∃A2 c2 A3 c3,cs= [.int .i64 x.f0,.bool x.f1,.slice A2 x.f2.length c2,.slice A3 x.f3.length c3] ∧x.f2.length≤c2∧Kd.F (Kd.int .u32) W ok A2 x.f2.length x.f2∧x.f3.length≤c3∧Kd.F (Kd.int .u32) W ok A3 x.f3.length x.f3:=by
 obtain⟨A2,c2,A3,c3,rfl,l2,_,l3,_⟩:=k42_open (Kd.FK_now h);exact⟨A2,c2,A3,c3,rfl,l2,(fun W' hW=>by obtain⟨A2_,c2_,A3_,c3_,he,l2_,g2_,l3_,g3_⟩:=k42_open (h W' hW);injection (Option.some.inj (show some (Value.slice A2 x.f2.length c2)=some (Value.slice A2_ x.f2.length c2_)from congrArg (fun l=>l[2]?) he))with ha_ _ _;rw[ha_];exact g2_),l3,(fun W' hW=>by obtain⟨A2_,c2_,A3_,c3_,he,l2_,g2_,l3_,g3_⟩:=k42_open (h W' hW);injection (Option.some.inj (show some (Value.slice A3 x.f3.length c3)=some (Value.slice A3_ x.f3.length c3_)from congrArg (fun l=>l[3]?) he))with ha_ _ _;rw[ha_];exact g3_)⟩
theorem k42_mkF(W:World)(ok:Nat→Prop)(x:S42){A2:Option Addr}{c2:Nat}(l2:x.f2.length≤c2)(g2:Kd.F (Kd.int .u32) W ok A2 x.f2.length x.f2){A3:Option Addr}{c3:Nat}(l3:x.f3.length≤c3)(g3:Kd.F (Kd.int .u32) W ok A3 x.f3.length x.f3):Kd.FK k42 W ok x [.int .i64 x.f0,.bool x.f1,.slice A2 x.f2.length c2,.slice A3 x.f3.length c3] :=fun W2 hW=>k42_mk W2 x l2 (g2 W2 hW) l3 (g3 W2 hW)
def rd_T42(xs:List S42)(i:Int):S42:=xs.getD i.toNat z42
theorem at_T42{w:World}{A:Option Addr}{n:Nat}{xs:List S42}(h:Kd.C k42 w A n xs)(i:Int)(h0:0≤i)(h1:i< n): ∃ad A2 c2 A3 c3,A=some ad∧w.cell? (ad.add (i.toNat * 4))=some (.int .i64 (rd_T42 xs i).f0)∧w.cell? ⟨(ad.add (i.toNat * 4)).block,(ad.add (i.toNat * 4)).off+1,none⟩=some (.bool (rd_T42 xs i).f1)∧w.cell? ⟨(ad.add (i.toNat * 4)).block,(ad.add (i.toNat * 4)).off+2,none⟩=some (.slice A2 (rd_T42 xs i).f2.length c2)∧w.cell? ⟨(ad.add (i.toNat * 4)).block,(ad.add (i.toNat * 4)).off+3,none⟩=some (.slice A3 (rd_T42 xs i).f3.length c3)∧(rd_T42 xs i).f2.length≤c2∧(Kd.int .u32).C w A2 (rd_T42 xs i).f2.length (rd_T42 xs i).f2∧(rd_T42 xs i).f3.length≤c3∧(Kd.int .u32).C w A3 (rd_T42 xs i).f3.length (rd_T42 xs i).f3:=by
 obtain⟨ad,c,e,_,hK,hc0⟩:=Kd.C_get h z42 i h0 h1;have hc: ∀j u,c[j]? =some u→w.cell? (ad.add (i.toNat * 4+j))=some u:=hc0;obtain⟨A2,c2,A3,c3,rfl,l2,g2,l3,g3⟩:=k42_open hK;exact⟨ad,A2,c2,A3,c3,e,hc 0 _ rfl,by rw[←add_field _ _ 1 (by omega)];exact hc 1 _ rfl,by rw[←add_field _ _ 2 (by omega)];exact hc 2 _ rfl,by rw[←add_field _ _ 3 (by omega)];exact hc 3 _ rfl,l2,g2,l3,g3⟩
structure S44 where
 f0:Int
 f1:Int
 f2:Int
 f3:S42
def z44:S44:=⟨(0:Int),(0:Int),(0:Int),z42⟩
def k44:Kd S44:=Kd.iso (Kd.pair (Kd.int .i64) (Kd.pair (Kd.int .i64) (Kd.pair (Kd.int .i64) k42))) (fun x:S44=>(x.f0,x.f1,x.f2,x.f3))
theorem k44_heap:Kd.Heap k44:=Kd.heap_iso _ (Kd.heap_pair (Kd.heap_int .i64) (Kd.heap_pair (Kd.heap_int .i64) (Kd.heap_pair (Kd.heap_int .i64) k42_heap)))
theorem k44_open{w:World}{x:S44}{cs:List Value}(h:k44.K w x cs): ∃A5 c5 A6 c6,cs= [.int .i64 x.f0,.int .i64 x.f1,.int .i64 x.f2,.int .i64 x.f3.f0,.bool x.f3.f1,.slice A5 x.f3.f2.length c5,.slice A6 x.f3.f3.length c6] ∧x.f3.f2.length≤c5∧(Kd.int .u32).C w A5 x.f3.f2.length x.f3.f2∧x.f3.f3.length≤c6∧(Kd.int .u32).C w A6 x.f3.f3.length x.f3.f3:=by
 obtain⟨_,_,rfl,rfl,⟨_,_,rfl,rfl,⟨_,_,rfl,rfl,s3⟩⟩⟩:=h;obtain⟨A5,c5,A6,c6,rfl,l5,g5,l6,g6⟩:=k42_open s3;exact⟨A5,c5,A6,c6,rfl,l5,g5,l6,g6⟩
theorem k44_openM{w:World}{base:Nat}{ok:Nat→Prop}{x:S44}{cs:List Value}(h:k44.M w base ok x cs): ∃v5 v6,cs= [.int .i64 x.f0,.int .i64 x.f1,.int .i64 x.f2,.int .i64 x.f3.f0,.bool x.f3.f1,v5,v6] ∧(Kd.int .u32).R 97 w base ok v5 x.f3.f2∧(Kd.int .u32).R 97 w base ok v6 x.f3.f3:=by
 obtain⟨_,_,rfl,rfl,⟨_,_,rfl,rfl,⟨_,_,rfl,rfl,s3⟩⟩⟩:=h;obtain⟨v5,v6,rfl,g5,g6⟩:=k42_openM s3;exact⟨v5,v6,rfl,g5,g6⟩
theorem k44_mk(w:World)(x:S44){A5:Option Addr}{c5:Nat}(l5:x.f3.f2.length≤c5)(g5:(Kd.int .u32).C w A5 x.f3.f2.length x.f3.f2){A6:Option Addr}{c6:Nat}(l6:x.f3.f3.length≤c6)(g6:(Kd.int .u32).C w A6 x.f3.f3.length x.f3.f3):k44.K w x [.int .i64 x.f0,.int .i64 x.f1,.int .i64 x.f2,.int .i64 x.f3.f0,.bool x.f3.f1,.slice A5 x.f3.f2.length c5,.slice A6 x.f3.f3.length c6] :=⟨[.int .i64 x.f0],[.int .i64 x.f1,.int .i64 x.f2,.int .i64 x.f3.f0,.bool x.f3.f1,.slice A5 x.f3.f2.length c5,.slice A6 x.f3.f3.length c6],rfl,rfl,⟨[.int .i64 x.f1],[.int .i64 x.f2,.int .i64 x.f3.f0,.bool x.f3.f1,.slice A5 x.f3.f2.length c5,.slice A6 x.f3.f3.length c6],rfl,rfl,⟨[.int .i64 x.f2],[.int .i64 x.f3.f0,.bool x.f3.f1,.slice A5 x.f3.f2.length c5,.slice A6 x.f3.f3.length c6],rfl,rfl,(k42_mk w x.f3 l5 g5 l6 g6)⟩⟩⟩
theorem k44_mkM(w:World)(base:Nat)(ok:Nat→Prop)(x:S44){v5:Value}(g5:(Kd.int .u32).R 97 w base ok v5 x.f3.f2){v6:Value}(g6:(Kd.int .u32).R 97 w base ok v6 x.f3.f3):k44.M w base ok x [.int .i64 x.f0,.int .i64 x.f1,.int .i64 x.f2,.int .i64 x.f3.f0,.bool x.f3.f1,v5,v6] :=⟨[.int .i64 x.f0],[.int .i64 x.f1,.int .i64 x.f2,.int .i64 x.f3.f0,.bool x.f3.f1,v5,v6],rfl,rfl,⟨[.int .i64 x.f1],[.int .i64 x.f2,.int .i64 x.f3.f0,.bool x.f3.f1,v5,v6],rfl,rfl,⟨[.int .i64 x.f2],[.int .i64 x.f3.f0,.bool x.f3.f1,v5,v6],rfl,rfl,(k42_mkM w base ok x.f3 g5 g6)⟩⟩⟩
theorem k44_openF{W:World}{ok:Nat→Prop}{x:S44}{cs:List Value}(h:Kd.FK k44 W ok x cs): ∃A5 c5 A6 c6,cs= [.int .i64 x.f0,.int .i64 x.f1,.int .i64 x.f2,.int .i64 x.f3.f0,.bool x.f3.f1,.slice A5 x.f3.f2.length c5,.slice A6 x.f3.f3.length c6] ∧x.f3.f2.length≤c5∧Kd.F (Kd.int .u32) W ok A5 x.f3.f2.length x.f3.f2∧x.f3.f3.length≤c6∧Kd.F (Kd.int .u32) W ok A6 x.f3.f3.length x.f3.f3:=by
 obtain⟨A5,c5,A6,c6,rfl,l5,_,l6,_⟩:=k44_open (Kd.FK_now h);exact⟨A5,c5,A6,c6,rfl,l5,(fun W' hW=>by obtain⟨A5_,c5_,A6_,c6_,he,l5_,g5_,l6_,g6_⟩:=k44_open (h W' hW);injection (Option.some.inj (show some (Value.slice A5 x.f3.f2.length c5)=some (Value.slice A5_ x.f3.f2.length c5_)from congrArg (fun l=>l[5]?) he))with ha_ _ _;rw[ha_];exact g5_),l6,(fun W' hW=>by obtain⟨A5_,c5_,A6_,c6_,he,l5_,g5_,l6_,g6_⟩:=k44_open (h W' hW);injection (Option.some.inj (show some (Value.slice A6 x.f3.f3.length c6)=some (Value.slice A6_ x.f3.f3.length c6_)from congrArg (fun l=>l[6]?) he))with ha_ _ _;rw[ha_];exact g6_)⟩
theorem k44_mkF(W:World)(ok:Nat→Prop)(x:S44){A5:Option Addr}{c5:Nat}(l5:x.f3.f2.length≤c5)(g5:Kd.F (Kd.int .u32) W ok A5 x.f3.f2.length x.f3.f2){A6:Option Addr}{c6:Nat}(l6:x.f3.f3.length≤c6)(g6:Kd.F (Kd.int .u32) W ok A6 x.f3.f3.length x.f3.f3):Kd.FK k44 W ok x [.int .i64 x.f0,.int .i64 x.f1,.int .i64 x.f2,.int .i64 x.f3.f0,.bool x.f3.f1,.slice A5 x.f3.f2.length c5,.slice A6 x.f3.f3.length c6] :=fun W2 hW=>k44_mk W2 x l5 (g5 W2 hW) l6 (g6 W2 hW)
def rd_T44(xs:List S44)(i:Int):S44:=xs.getD i.toNat z44
theorem at_T44{w:World}{A:Option Addr}{n:Nat}{xs:List S44}(h:Kd.C k44 w A n xs)(i:Int)(h0:0≤i)(h1:i< n): ∃ad A5 c5 A6 c6,A=some ad∧w.cell? (ad.add (i.toNat * 7))=some (.int .i64 (rd_T44 xs i).f0)∧w.cell? ⟨(ad.add (i.toNat * 7)).block,(ad.add (i.toNat * 7)).off+1,none⟩=some (.int .i64 (rd_T44 xs i).f1)∧w.cell? ⟨(ad.add (i.toNat * 7)).block,(ad.add (i.toNat * 7)).off+2,none⟩=some (.int .i64 (rd_T44 xs i).f2)∧w.cell? ⟨(ad.add (i.toNat * 7)).block,(ad.add (i.toNat * 7)).off+3,none⟩=some (.int .i64 (rd_T44 xs i).f3.f0)∧w.cell? ⟨(ad.add (i.toNat * 7)).block,(ad.add (i.toNat * 7)).off+4,none⟩=some (.bool (rd_T44 xs i).f3.f1)∧w.cell? ⟨(ad.add (i.toNat * 7)).block,(ad.add (i.toNat * 7)).off+5,none⟩=some (.slice A5 (rd_T44 xs i).f3.f2.length c5)∧w.cell? ⟨(ad.add (i.toNat * 7)).block,(ad.add (i.toNat * 7)).off+6,none⟩=some (.slice A6 (rd_T44 xs i).f3.f3.length c6)∧(rd_T44 xs i).f3.f2.length≤c5∧(Kd.int .u32).C w A5 (rd_T44 xs i).f3.f2.length (rd_T44 xs i).f3.f2∧(rd_T44 xs i).f3.f3.length≤c6∧(Kd.int .u32).C w A6 (rd_T44 xs i).f3.f3.length (rd_T44 xs i).f3.f3:=by
 obtain⟨ad,c,e,_,hK,hc0⟩:=Kd.C_get h z44 i h0 h1;have hc: ∀j u,c[j]? =some u→w.cell? (ad.add (i.toNat * 7+j))=some u:=hc0;obtain⟨A5,c5,A6,c6,rfl,l5,g5,l6,g6⟩:=k44_open hK;exact⟨ad,A5,c5,A6,c6,e,hc 0 _ rfl,by rw[←add_field _ _ 1 (by omega)];exact hc 1 _ rfl,by rw[←add_field _ _ 2 (by omega)];exact hc 2 _ rfl,by rw[←add_field _ _ 3 (by omega)];exact hc 3 _ rfl,by rw[←add_field _ _ 4 (by omega)];exact hc 4 _ rfl,by rw[←add_field _ _ 5 (by omega)];exact hc 5 _ rfl,by rw[←add_field _ _ 6 (by omega)];exact hc 6 _ rfl,l5,g5,l6,g6⟩
def rd_L7(xs:List (List Bool))(i:Int):(List Bool):=xs.getD i.toNat ([] :List Bool)
theorem at_L7{w:World}{A:Option Addr}{n:Nat}{xs:List (List Bool)}(h:Kd.C (Kd.slice 4 Kd.bool) w A n xs)(i:Int)(h0:0≤i)(h1:i< n): ∃ad A0 c0,A=some ad∧w.cell? (ad.add i.toNat)=some (.slice A0 (rd_L7 xs i).length c0)∧(rd_L7 xs i).length≤c0∧Kd.bool.C w A0 (rd_L7 xs i).length (rd_L7 xs i):=by
 obtain⟨ad,c,e,_,hK,hc0⟩:=Kd.C_get h ([] :List Bool) i h0 h1;have hc: ∀j u,c[j]? =some u→w.cell? (ad.add (i.toNat * 1+j))=some u:=hc0;obtain⟨A0,c0,rfl,l0,g0⟩:=hK;exact⟨ad,A0,c0,e,by have hq:=hc 0 _ rfl;rwa [Nat.mul_one,Nat.add_zero]at hq,l0,g0⟩
def rd_L8(xs:List (List S42))(i:Int):(List S42):=xs.getD i.toNat ([] :List S42)
theorem at_L8{w:World}{A:Option Addr}{n:Nat}{xs:List (List S42)}(h:Kd.C (Kd.slice 42 k42) w A n xs)(i:Int)(h0:0≤i)(h1:i< n): ∃ad A0 c0,A=some ad∧w.cell? (ad.add i.toNat)=some (.slice A0 (rd_L8 xs i).length c0)∧(rd_L8 xs i).length≤c0∧k42.C w A0 (rd_L8 xs i).length (rd_L8 xs i):=by
 obtain⟨ad,c,e,_,hK,hc0⟩:=Kd.C_get h ([] :List S42) i h0 h1;have hc: ∀j u,c[j]? =some u→w.cell? (ad.add (i.toNat * 1+j))=some u:=hc0;obtain⟨A0,c0,rfl,l0,g0⟩:=hK;exact⟨ad,A0,c0,e,by have hq:=hc 0 _ rfl;rwa [Nat.mul_one,Nat.add_zero]at hq,l0,g0⟩
end Go.Proofs.YtjjbondlcjnaiaaDoor.PSparseJoined
