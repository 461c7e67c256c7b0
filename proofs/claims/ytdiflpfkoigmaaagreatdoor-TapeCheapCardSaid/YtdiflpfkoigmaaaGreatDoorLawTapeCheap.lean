/- 'fluxion/fluxionlaw17.TapeCheap': for every input the law returns true; what it is given reads behind the call as it read before. What it lists of the package variable trace.has is tied to the program's text (the card). (The row, out of the law's plain statement and the walk of its code.) -/
import Derived.Test.YtdiflpfkoigmaaaGreatDoorRows
import Derived.Test.YtdiflpfkoigmaaaGreatDoorCards
import Derived.Test.YtdiflpfkoigmaaaGreatDoorTie
import Derived.SevenTiedAt
import Derived.Test.YtdiflpfkoigmaaaGreatDoorPTapeCheapx24
import Derived.Test.YtdiflpfkoigmaaaGreatDoorPureTapeCheap
import Derived.Test.YtdiflpfkoigmaaaGreatDoorOpen
import Derived.WalkKit
import Derived.ProofKit
import Derived.OpenShut
import Derived.ShutString
import Derived.ChangeOld
import Derived.ChangeSame
import Derived.ChangeVars
import Derived.JoinedOf
import Derived.Below
import Derived.SizedLaws
import Derived.LaidLaws
namespace Go.Proofs.YtdiflpfkoigmaaaGreatDoor.tapeCheap
open Go.ChangeShapes Go.WideShapes Go.ChangeAt Go.RowKit Go.Proofs.YtdiflpfkoigmaaaGreatDoorW Go.Proofs.YtdiflpfkoigmaaaGreatDoor.Open
open Go.ChangeMaps (open_string shut_string)
open PTapeCheap (HasT kindA kindB kindN)
set_option linter.unusedVariables false
set_option maxRecDepth 100000
theorem own:ownKnob Tryz.prog.godebug=none:=by kernel_rfl
theorem laidOut:laidOutB Tryz.prog=true:=by kernel_rfl
theorem gHas:Tryz.prog.globalNamed "fluxion/trace.has" =some 0:=by kernel_rfl
theorem gHasType:(Tryz.prog.globals[0]?).map (·.type)=some 139:=by kernel_rfl
theorem u139:Tryz.prog.underlying 139=some (.array 8 138):=by kernel_rfl
theorem u138:Tryz.prog.underlying 138=some (.array 3 4):=by kernel_rfl
theorem cells139:Tryz.prog.cellsOf 139=24:=by kernel_rfl
theorem cells138:Tryz.prog.cellsOf 138=3:=by kernel_rfl
theorem cells4:Tryz.prog.cellsOf 4=1:=by kernel_rfl
def row3{H:Type}(k:Nat):DataW H:= .agg [.lit (.bool (kindA k)),.lit (.bool (kindB k)),.lit (.bool (kindN k))]
theorem datum(H:Type):(Rows.laid_fluxion_trace_has:DataW H)= .agg ((List.range 8).map row3):=rfl
theorem three{H:Type}{enc:TypeId×Value→H}{w:World}{base:Nat}{sp:Nat→Bool}{held:Bool}{fuel:Nat}{cs:List Value}{a b c:Bool}{p:List MemPlace}
  (h:DataW.trod enc Tryz.prog w base sp held fuel 138 cs=some (.agg [.lit (.bool a),.lit (.bool b),.lit (.bool c)],p)):cs= [.bool a,.bool b,.bool c] :=by
 obtain⟨xs,m,rfl,hx,hl,hxl,hi⟩:=DataW.trod_array u138 h
 rw[cells138]at hl
 match xs,hxl with
 | [x0,x1,x2],_=>
  have e0:=hi 0 (by decide)
  have e1:=hi 1 (by decide)
  have e2:=hi 2 (by decide)
  rw[cells4]at e0 e1 e2
  match cs,hl with
  | [c0,c1,c2],_=>
   obtain⟨b0,h0,rfl⟩:=DataW.trod_bool Tryz.underlying4 (e0.trans rfl)
   obtain⟨b1,h1,rfl⟩:=DataW.trod_bool Tryz.underlying4 (e1.trans rfl)
   obtain⟨b2,h2,rfl⟩:=DataW.trod_bool Tryz.underlying4 (e2.trans rfl)
   simp at h0 h1 h2 hx
   obtain⟨⟨rfl,rfl,rfl⟩,_⟩:=hx
   rw[h0,h1,h2]
theorem hasT_of_laid{W:World}(h:laidMet Tryz.prog [("fluxion/trace.has",Rows.laid_fluxion_trace_has)] W):HasT W:=by
 obtain⟨ps,⟨g,t,cs,fuel,p,q,hg,ht,hvar,hd,_,_⟩,_⟩:=h
 obtain rfl:=Option.some.inj (gHas.symm.trans hg)
 obtain rfl:=Option.some.inj (gHasType.symm.trans ht)
 rw[datum]at hd
 obtain⟨xs,m,rfl,hx,hl,hxl,hi⟩:=DataW.trod_array u139 hd
 intro k hk
 have h1:=hi k hk
 have hx1:xs.map (·.1)=(List.range 8).map row3:=by injection hx with hx _;injection hx with hx;exact hx.symm
 have hk8:k< xs.length:=by omega
 have hv:xs[k].1=row3 k:=by
  have:=congrArg (·[k]?) hx1
  simp only[List.getElem?_map,List.getElem?_eq_getElem hk8,List.getElem?_range hk,Option.map_some,Option.some.injEq]at this
  exact this
 rw[List.getElem?_eq_getElem hk8,cells138,show xs[k] =(row3 k,xs[k].2)from by rw[←hv]]at h1
 have h2:=three h1
 have at_: ∀j,j< 3→W.cell? ⟨0,k * 3+j,none⟩=([.bool (kindA k),.bool (kindB k),.bool (kindN k)] :List Value)[j]?:=fun j hj=>by
  rw[World.var?_cell gHas hvar (k * 3+j),←h2]
  simp[List.getElem?_drop,hj]
 exact⟨at_ 0 (by decide),at_ 1 (by decide),at_ 2 (by decide)⟩
theorem opens_rat:Opens Tryz.prog PTapeCheap.k59 (fun x=>(Lit.int .i64 x.f0).wf=true∧True∧(∀a,a∈x.f2→(Lit.int .u32 a).wf=true)∧(∀a,a∈x.f3→(Lit.int .u32 a).wf=true)) 59:=
 opens_struct4 Tryz.underlying59 (by kernel_rfl) (by kernel_rfl) (by kernel_rfl) (by kernel_rfl) (by kernel_rfl) rfl rfl rfl rfl (fun a b c d=>⟨⟨a,b,c,d⟩,rfl⟩) (opens_int (by kernel_rfl)) (opens_bool (by kernel_rfl)) (opens_slice (by kernel_rfl) (by kernel_rfl) (opens_int (by kernel_rfl))) (opens_slice (by kernel_rfl) (by kernel_rfl) (opens_int (by kernel_rfl)))
abbrev wfStep (s:PTapeCheap.S81):Prop:=(Lit.int .i64 s.f0).wf=true∧(Lit.int .i64 s.f1).wf=true∧(Lit.int .i64 s.f2).wf=true∧((Lit.int .i64 s.f3.f0).wf=true∧True∧(∀a,a∈s.f3.f2→(Lit.int .u32 a).wf=true)∧(∀a,a∈s.f3.f3→(Lit.int .u32 a).wf=true))
theorem opens_step:Opens Tryz.prog PTapeCheap.k81 (fun s=>(Lit.int .i64 s.f0).wf=true∧(Lit.int .i64 s.f1).wf=true∧(Lit.int .i64 s.f2).wf=true∧((Lit.int .i64 s.f3.f0).wf=true∧True∧(∀a,a∈s.f3.f2→(Lit.int .u32 a).wf=true)∧(∀a,a∈s.f3.f3→(Lit.int .u32 a).wf=true))) 81:=
 opens_struct4 Tryz.underlying81 (by kernel_rfl) (by kernel_rfl) (by kernel_rfl) (by kernel_rfl) (by kernel_rfl) rfl rfl rfl rfl (fun a b c d=>⟨⟨a,b,c,d⟩,rfl⟩) (opens_int (by kernel_rfl)) (opens_int (by kernel_rfl)) (opens_int (by kernel_rfl)) opens_rat
theorem open_tape{H:Type}{enc:TypeId×Value→H}{W:World}{base:Nat}{sp:Nat→Bool}{held:Bool}{cs:Array Value}{d:DataW H}{p:List MemPlace}(hk:DataW.Trod enc Tryz.prog W base sp held 25 (.agg cs) d p):
  ∃ (n:Int) (A1:Option Addr) (c1:Nat) (ss:List PTapeCheap.S81) (A2:Option Addr) (c2:Nat) (os:List Int),cs= #[.int .i64 n,.slice A1 ss.length c1,.slice A2 os.length c2] ∧Kd.C PTapeCheap.k81 W A1 ss.length ss∧ss.length≤c1∧Kd.C (Kd.int .i64) W A2 os.length os∧os.length≤c2∧ ∀s,s∈ss→wfStep s:=by
 obtain⟨fuel,hf⟩:=hk
 obtain⟨xs,m,rfl,hx,hl,hxl,hi⟩:=DataW.trod_struct Tryz.underlying25 hf
 have hl3:cs.toList.length=3:=by
  have:(Value.agg cs).cells.toList.length=Tryz.prog.cellsOf 25:=hl
  rw[show Tryz.prog.cellsOf 25=3 by kernel_rfl]at this
  exact this
 obtain⟨l⟩:=cs
 match l,hl3 with
 | [v0,v1,v2],_=>
  match xs,hxl with
  | [x0,x1,x2],_=>
   have e0:=(hi 0 _ rfl).trans rfl
   have e1:=(hi 1 _ rfl).trans rfl
   have e2:=(hi 2 _ rfl).trans rfl
   obtain⟨n,hn,_⟩:=opens_int Tryz.underlying3 _ _ _ _ _ _ _ _ _ e0
   obtain⟨ss,⟨A1,c1,hs,g1,C1⟩,w1⟩:=opens_slice Tryz.underlying22 (by kernel_rfl) opens_step _ _ _ _ _ _ _ _ _ e1
   obtain⟨os,⟨A2,c2,ho,g2,C2⟩,_⟩:=opens_slice Tryz.underlying23 (by kernel_rfl) (opens_int Tryz.underlying3) _ _ _ _ _ _ _ _ _ e2
   have q0:v0= .int .i64 n:=by
    have: [v0] = [Value.int .i64 n] :=hn
    injection this
   have q1:v1= .slice A1 ss.length c1:=by
    have: [v1] = [Value.slice A1 ss.length c1] :=hs
    injection this
   have q2:v2= .slice A2 os.length c2:=by
    have: [v2] = [Value.slice A2 os.length c2] :=ho
    injection this
   subst q0 q1 q2
   exact⟨n,A1,c1,ss,A2,c2,os,rfl,C1,g1,C2,g2,w1⟩
def cells24:Array Value:= #[.bool false,.bool false,.bool false,.bool false,.bool false,.bool false,.bool false,.bool false,.bool true,.bool true,.bool true,.bool false,.bool true,.bool true,.bool false,.bool true,.bool true,.bool false,.bool true,.bool true,.bool false,.bool true,.bool false,.bool false]
noncomputable def laidWorld(os:Os):World:=
 { World.holding Tryz.prog os ⟨#[],#[],[]⟩with heap:=(World.holding Tryz.prog os ⟨#[],#[],[]⟩).heap.modify 0 fun
   |.cells _ t frozen=> .cells cells24 t frozen
   |o=>o}
theorem lifted(os:Os)(started:os.Started)(H:Type)(enc:TypeId×Value→H):
  ReturnsInHanded {} Tryz.checked os 7 .any (fun w args=>(Rows.tapeCheapSpec.pre enc Tryz.prog Tryz.f7 [] false w args∧laidMet Tryz.prog [("fluxion/trace.has",Rows.laid_fluxion_trace_has)] w)∧sizedMet enc Tryz.prog Tryz.f7 (OpenSpec.ofChange Rows.tapeCheapSpec) false w args)
   (Rows.tapeCheapSpec.post enc Tryz.prog Tryz.f7 false true false false):=by
 refine returnsInHanded_of_change_and (C:=Tryz.checked) (X:=fun w _=>laidMet Tryz.prog [("fluxion/trace.has",Rows.laid_fluxion_trace_has)] w) (fun _ _ _ hh h=>h.of_heap hh) own started (by kernel_rfl) Tryz.func7
  (ChangeSpec.witness_at (enc:=enc) (C:=Tryz.checked) (os:=os) (X:=fun w _=>laidMet Tryz.prog [("fluxion/trace.has",Rows.laid_fluxion_trace_has)] w) false (laidWorld os) #[.agg #[.int .i64 0,.slice none 0 0,.slice none 0 0]] 8 rfl (by kernel_rfl) (by kernel_rfl) (by kernel_rfl) (by kernel_rfl) (by kernel_rfl)
   (laidMet_of_run' 8 (by kernel_rfl) (by kernel_rfl))) ?_
 intro W base args ds gs before hval0 hW _ _ hL _
 have hval: ∀ (j:Nat) t v,Tryz.f7.params[j]? =some t→args[j]? =some v→Value.okWide Tryz.prog W .any base t v:=hval0
 have hW':=hW
 obtain⟨p,q,hA0,hV,rfl,hfz,hnd⟩:=hW
 have hA:DataW.TrodAll enc Tryz.prog W 0 (fun _=>true) true Tryz.f7.params.toList args.toList ds p:=hA0
 rw[Tryz.params7]at hA hval
 obtain⟨v0,vs0,d0,ds0,p0,q0,hargs,rfl,rfl,h0,r0⟩:=trodAll_cons hA
 obtain⟨rfl,rfl,rfl⟩:=trodAll_nil r0
 obtain rfl:args= #[v0] :=by cases args;simp_all
 obtain⟨rfl,rfl⟩:=trodVars_none hV
 have k0:=h0
 have lt0: ∀x∈p0,x.block< W.heap.size:=by obtain⟨m,hm⟩:=k0;exact DataW.trod_lt m _ _ _ hm
 obtain⟨cs0,rfl,hcs0⟩:=okWide_struct Tryz.underlying25 (hval 0 25 v0 rfl rfl)
 obtain⟨n0,A0,c0,ss0,B0,e0,ol0,rfl,C0,g0,D0,f0,ws0⟩:=open_tape k0
 clear hA0 hval0
 have hu: ∀ {l:List Int},(∀a,a∈l→(Lit.int .u32 a).wf=true)→PTapeCheap.u32s l:=fun h d hd=>by
  have:=h d hd
  simp[Lit.wf]at this
  have e1:IntKind.u32.min=0:=by rfl
  have e2:IntKind.u32.max=4294967295:=by rfl
  omega
 obtain⟨rk,hk⟩:=(Pure.tapeCheap_f (fun s hs=>⟨hu (ws0 s hs).2.2.2.2.2.1,hu (ws0 s hs).2.2.2.2.2.2⟩)).rounds
 refine(PTapeCheap.fluxionlaw17_TapeCheap.calls rk n0 A0 c0 ss0 B0 e0 ol0 true W (hasT_of_laid hL) C0 g0 D0 f0 hk).mono fun e W' ⟨he,bel⟩=>?_
 subst he
 exact⟨_,rfl,_,_,_,[],_,[],hW',trodAll_mk1 (shut_bool Tryz.underlying4 _),(trodAll_cons_mk (Below.trod laidOut (by kernel_rfl) (of_decide_eq_true (by kernel_rfl)) k0 bel lt0) trodAll_mk0),rfl,bel.frame _,fun h=>by cases h⟩
theorem over:Rows.tapeCheapRow.holds Tryz.pinned (OpenSpec.ofChange Rows.tapeCheapSpec):=
 OpenClaim.holds_of_wide 7 Tryz.f7 rfl rfl rfl rfl rfl rfl rfl ⟨rfl,rfl,rfl,rfl,rfl⟩ rfl rfl rfl rfl rfl (by kernel_rfl) Tryz.func7 (by kernel_rfl)
  (of_decide_eq_true (by kernel_rfl)) (by unfold Func.isWrapper;first| (rw[if_pos (by decide+kernel)];kernel_rfl) | (rw[if_neg (by decide+kernel)];exact⟨rfl,rfl⟩))
  (fun os started H enc _=>lifted os started H enc)
end Go.Proofs.YtdiflpfkoigmaaaGreatDoor.tapeCheap
namespace Go.Proofs.YtdiflpfkoigmaaaGreatDoor
open Go
theorem tapeCheap_holds:Rows.TapeCheapSaid:=tapeCheap.over
theorem tapeCheapCard_holds:Rows.TapeCheapCardSaid:=
 Claim7.holds_tied_plain_at .later [] [.data] true (true, "462404e82384b716b55506d3ce05bd52fb48daa0662f32e4540fe502fb07ffdd") false
  tapeCheap_holds (fun _ h=>by cases h) (by kernel_rfl) (fun _ h=>by cases h) tapeCheap_row_tie rfl ⟨rfl,rfl⟩ (by kernel_rfl) rfl
  (fun f fn hf hfn=>by
   obtain rfl:f=7:=Option.some.inj ((show Tryz.prog.funcNamed "fluxion/fluxionlaw17.TapeCheap" =some 7 by kernel_rfl).symm.trans hf) |>.symm
   obtain rfl:fn=Tryz.f7:=(Option.some.inj (Tryz.func7.symm.trans hfn)).symm
   exact⟨by kernel_rfl,fun j t ht=>by
    rw[Tryz.params7]at ht
    have h3:t=25:=by
     rcases j with _|j
     ·simpa using ht.symm
     ·simp at ht
    subst h3
    exact(show Tryz.prog.wantsStandIn 25=false by kernel_rfl)⟩)
  (by kernel_rfl)
#print axioms tapeCheapCard_holds
end Go.Proofs.YtdiflpfkoigmaaaGreatDoor
