/- How a law's arguments that are slices of slices read as lists. No conditions. -/
import Derived.Test.YtdiflpfkoigmaaaGreatDoorW
import Derived.Deep.Slices
import Derived.ProofKit
import Derived.Lib.SmallJoins
namespace Go.Proofs.YtdiflpfkoigmaaaGreatDoor.Open
open Go.RowKit Go.Proofs.YtdiflpfkoigmaaaGreatDoorW
def Opens{α:Type}(P:Program)(d:Kd α)(wf:α→Prop)(t:TypeId):Prop:=
 ∀ (H:Type) (enc:TypeId×Value→H) (W:World) (base:Nat) (spare:Nat→Bool) (held:Bool) (fuel:Nat) (cs:List Value) (x:DataW H×List MemPlace),DataW.trod enc P W base spare held fuel t cs=some x→ ∃a,d.K W a cs∧wf a
theorem opens_bool{P:Program}{t:TypeId}(ht:P.underlying t=some .bool):Opens P Kd.bool (fun _=>True) t:=by
 intro H enc W base spare held fuel cs x h
 obtain⟨b,rfl,_⟩:=DataW.trod_bool ht h
 exact⟨b,rfl,trivial⟩
theorem opens_int{P:Program}{t:TypeId}{k:IntKind}(ht:P.underlying t=some (.int k)):Opens P (Kd.int k) (fun n=>(Lit.int k n).wf=true) t:=by
 intro H enc W base spare held fuel cs x h
 obtain⟨n,rfl,_,hw⟩:=DataW.trod_int ht h
 exact⟨n,rfl,hw⟩
theorem choose_list{α:Type}(p:Nat→α→Prop): ∀n:Nat,(∀i,i< n→ ∃a,p i a)→ ∃l:List α,l.length=n∧ ∀i a,l[i]? =some a→p i a
 |0,_=>⟨[],rfl,fun i a h=>by simp at h⟩
 |n+1,h=>by
  obtain⟨l,hl,hp⟩:=choose_list p n (fun i hi=>h i (by omega))
  obtain⟨a,ha⟩:=h n (by omega)
  refine⟨l++ [a],by simp[hl],fun i b hb=>?_⟩
  by_cases e:i< n
  ·rw[List.getElem?_append_left (by omega)]at hb
   exact hp i b hb
  ·have hi:=(List.getElem?_eq_some_iff.1 hb).1
   rw[List.length_append,List.length_singleton,hl]at hi
   have e2:i=n:=by omega
   subst e2
   rw[List.getElem?_append_right (by omega),hl,Nat.sub_self]at hb
   cases hb
   exact ha
theorem opens_slice{α:Type}{P:Program}{t e:TypeId}{d:Kd α}{wf:α→Prop}(ht:P.underlying t=some (.slice e))(hc:P.cellsOf e=d.sz)(he:Opens P d wf e):Opens P (Kd.slice e d) (fun l=> ∀a,a∈l→wf a) t:=by
 intro H enc W base spare held fuel cs x h
 rcases Deep.open_slice ht h with ⟨rfl,_⟩ | ⟨a,len,cap,m,n,D,Pl,rfl,_,hl,hm,hmm,_,hx⟩
 ·exact⟨[],⟨none,0,rfl,Nat.le_refl _,rfl,by simp,fun h=>absurd h (Nat.lt_irrefl 0)⟩,fun a h=>by cases h⟩
 ·have hlm:len≤m:=by rw[hmm];split<;>omega
  obtain⟨l,hll,hp⟩:=choose_list (fun i (y:α)=> ∃cs',W.cells? base (a.add (i * P.cellsOf e)) (P.cellsOf e)=some cs'∧d.K W y cs'∧wf y) len (fun i hi=>by
   obtain⟨cs',h1,h2⟩:=hx i (by omega)
   obtain⟨y,hy,hw⟩:=he H enc W base spare held n cs' _ h2
   exact⟨y,cs',h1,hy,hw⟩)
  refine⟨l,⟨some a,cap,by rw[hll],by omega,rfl,by unfold maxLen at hm;omega,fun _=>⟨a,rfl,fun j p hj=>?_⟩⟩,fun y hy=>?_⟩
  ·obtain⟨cs',h1,hy,_⟩:=hp j p hj
   obtain⟨_,hlen,hcell⟩:=World.cells?_some h1
   rw[hc]at hlen hcell
   refine⟨cs',hlen,hy,fun i u hu=>?_⟩
   have hi:i< d.sz:=by rw[←hlen];exact(List.getElem?_eq_some_iff.1 hu).1
   have h2:=hcell i hi
   rw[hu]at h2
   rw[←h2]
   congr 1
   unfold Addr.add
   by_cases h3:j * d.sz=0<;>by_cases h4:i=0<;>simp[h3,h4,Nat.add_assoc]
  ·obtain⟨j,hj⟩:=List.getElem?_of_mem hy
   obtain⟨_,_,_,hw⟩:=hp j y hj
   exact hw
theorem opens_arg{α:Type}{P:Program}{t e:TypeId}{d:Kd α}{wf:List α→Prop}(h:Opens P (Kd.slice e d) wf t){H:Type}{enc:TypeId×Value→H}{W:World}{base:Nat}{spare:Nat→Bool}{held:Bool}{a:Option Addr}{len cap:Nat}{x:DataW H}{ps:List MemPlace}
  (hk:DataW.Trod enc P W base spare held t (.slice a len cap) x ps): ∃l:List α,len=l.length∧l.length≤cap∧Kd.C d W a l.length l∧wf l:=by
 obtain⟨fuel,hf⟩:=hk
 obtain⟨l,⟨A,c,he,hl,hC⟩,hw⟩:=h H enc W base spare held fuel _ _ hf
 have he': [Value.slice a len cap] = [Value.slice A l.length c] :=by simpa [Value.cells]using he
 injection he' with he' _
 injection he' with h1 h2 h3
 subst h1 h2 h3
 exact⟨l,rfl,hl,hC,hw⟩
theorem cut4{α:Type}(cs:List α)(a b c:Nat):cs=cs.take a++ ((cs.drop a).take b++ ((cs.drop (a+b)).take c++cs.drop (a+b+c))):=by
 have h1:=List.take_append_drop a cs
 have h2:=List.take_append_drop b (cs.drop a)
 have h3:=List.take_append_drop c (cs.drop (a+b))
 rw[List.drop_drop]at h2 h3
 rw[h3,h2,h1]
theorem opens_struct4{α β γ δ ε:Type}{P:Program}{t:TypeId}{f0 f1 f2 f3:Field}{d0:Kd α}{d1:Kd β}{d2:Kd γ}{d3:Kd δ}{w0:α→Prop}{w1:β→Prop}{w2:γ→Prop}{w3:δ→Prop}{f:ε→α×β×γ×δ}
  (ht:P.underlying t=some (.struct #[f0,f1,f2,f3])) (hc:P.cellsOf t=d0.sz+ (d1.sz+ (d2.sz+d3.sz))) (c0:P.cellsOf f0.type=d0.sz) (c1:P.cellsOf f1.type=d1.sz) (c2:P.cellsOf f2.type=d2.sz) (c3:P.cellsOf f3.type=d3.sz)
  (o0:f0.offset=0) (o1:f1.offset=d0.sz) (o2:f2.offset=d0.sz+d1.sz) (o3:f3.offset=d0.sz+d1.sz+d2.sz) (hs: ∀a b c d,∃x,f x=(a,b,c,d))
  (h0:Opens P d0 w0 f0.type) (h1:Opens P d1 w1 f1.type) (h2:Opens P d2 w2 f2.type) (h3:Opens P d3 w3 f3.type):
  Opens P (Kd.iso (Kd.pair d0 (Kd.pair d1 (Kd.pair d2 d3))) f) (fun x=>w0 (f x).1∧w1 (f x).2.1∧w2 (f x).2.2.1∧w3 (f x).2.2.2) t:=by
 intro H enc W base spare held fuel cs x h
 obtain⟨y0,y1,y2,y3,n,_,hl,g0,g1,g2,g3⟩:=Go.Joins.trod_struct4 ht h
 obtain⟨a,ha,wa⟩:=h0 _ _ _ _ _ _ _ _ _ g0
 obtain⟨b,hb,wb⟩:=h1 _ _ _ _ _ _ _ _ _ g1
 obtain⟨c,hcc,wc⟩:=h2 _ _ _ _ _ _ _ _ _ g2
 obtain⟨d,hd,wd⟩:=h3 _ _ _ _ _ _ _ _ _ g3
 obtain⟨z,hz⟩:=hs a b c d
 rw[hc]at hl
 rw[c0,o0,List.drop_zero]at ha
 rw[c1,o1]at hb
 rw[c2,o2]at hcc
 rw[c3,o3,List.take_of_length_le (by rw[List.length_drop];omega)]at hd
 refine⟨z,?_,by simp only[hz];exact⟨wa,wb,wc,wd⟩⟩
 show(Kd.pair d0 (Kd.pair d1 (Kd.pair d2 d3))).K W (f z) cs
 rw[hz]
 refine⟨_,_,?_,ha,_,_,rfl,hb,_,_,rfl,hcc,hd⟩
 exact cut4 cs _ _ _
end Go.Proofs.YtdiflpfkoigmaaaGreatDoor.Open
